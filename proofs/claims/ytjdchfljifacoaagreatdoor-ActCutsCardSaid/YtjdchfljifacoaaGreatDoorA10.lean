import Derived.Test.YtjdchfljifacoaaGreatDoorA9
set_option linter.all false
namespace Go.Proofs.YtjdchfljifacoaaGreatDoor.Am
open Go
section
variable{n:Nat}{ops:Array Oper}{B:List Nat}{rec:Nat->Rec}{env0:Ar}{hp0:Hp}{ao:Nat->AOp}{bs cnt:Nat}{V:Ctx}
theorem Tm{L:List Nat}:∀{n:Nat},(∀i,i<n->i∈L)->left L n=0
 |0,_=>rfl
 |n+1,h=>by simp only[left];rw[Tm λi hi=>h i (by omega),t8 (h n (by omega))]
theorem kT(hΓ:V.OK)(G:Good V.P (λi e h=>HL V.S (bs+i,cnt+1) e h (ao i)) V.nt n ops B rec env0 hp0 ao)(late:∀j o,n<=j->ops[j]? =some o->∀k,k<n->(B.getD j 0).testBit k=true){R:Nat}{Qx:Exit->Act->World->Prop}{σ0:Cf}(hK:∀(listed:Array Bool) (U:Cf) (a:Act),listed.size=ops.size->(∀i,i<ops.size->(listed.getD i true=true↔i<n)/\(listed.getD i false=true↔i<n))->Evo σ0 U->Inv U (EQ rec env0 (DO n)) (GM rec hp0 (DO n)) a V.nt V.hb->(∀m,U.al m->m.2<=cnt\/∃i,i<n/\m=(bs+i,cnt+1))->wpAnyIn V.F 0 V.P .any ops Qx R listed a U.w):∀(fuel:Nat)(L:List Nat)(listed:Array Bool)(U:Cf)(a:Act),Done n B L->listed.size=ops.size->(∀i,i<ops.size->(listed.getD i true=true↔i∈L)/\(listed.getD i false=true↔i∈L))->left L n=fuel->Evo σ0 U->Inv U (EQ rec env0 L) (GM rec hp0 L) a V.nt V.hb->(∀m,U.al m->m.2<=cnt\/∃i∈L,m=(bs+i,cnt+1))->wpAnyIn V.F 0 V.P .any ops Qx (fuel+R) listed a U.w:=by
 intro fuel;induction fuel with
 |zero=>
  intro L listed U a hD h1 h2 hf he hI hal;have hall:=Oc hf;obtain⟨e1,e2⟩:=G.fin hD hall;have hiff:∀i,i∈L↔i<n:=λi=>⟨hD.lt i,hall i⟩
  rw[A08];exact hK listed U a h1 (λi hi=>by rw[<-hiff i];exact h2 i hi) he (hI.congr e1 e2) λm hm=>(hal m hm).imp id λ⟨i,hi,e⟩=>⟨i,hD.lt i hi,e⟩
 |succ fuel ih=>
  intro L listed U a hD h1 h2 hf he hI hal;rw[show fuel+1+R=(fuel+R)+1 by omega];have hmiss:∃j,j<n/\j∉L/\∀i,i<j->i∈L:=by
   rcases Xn L n with h|h
   ·rw[Tm h]at hf;omega
   ·exact h
  obtain⟨j0,j1,j2,j3⟩:=hmiss;refine⟨λhr=>?_,λi hi=>?_⟩
  ·exfalso;have hj:j0<ops.size:=A20 j1 G.sz;have ho:ops[j0]? =some ops[j0]:=w7 hj;have:j0∈Region.ready .any ops listed:=(G5 h1 h2 (λi o ho=>(G.bef i o ho).1) j0).2 ⟨hj,j2,_,ho,λe he=>j3 e ((G.bef j0 _ ho).1 e he)⟩;rw[hr]at this;simp at this
  obtain⟨g1,g2,o,ho,g3⟩:=(G5 h1 h2 (λi o ho=>(G.bef i o ho).1) i).1 hi;have ha:=G.all hD ho g3;have hin:i<n:=by
   rcases A52 i n with h|h
   ·exact h
   ·exact absurd (ha j0 (late i o h ho j0 j1)) j2
  obtain⟨vc,hvc,hex,hd,_⟩:=G.run i hin;rw[<-G.same hD hin g2 ha]at hex;refine Jh hΓ.S hΓ.F ho (G.op i o ho) hI ⟨?_,cnt+1,λm hm=>by rcases hal m hm with h|⟨k,_,rfl⟩;exact Nat.le_succ_of_le h;exact w6 _⟩ hex hvc λa' σ' e' hI' hal'=>?_
  ·intro h;rcases hal _ h with h|⟨k,hk,e⟩
   ·exact absurd h (Nat.not_succ_le_self cnt)
   ·simp only[A57,Nat.add_left_cancel_iff,and_true]at e;exact g2 (e▸hk)
  ·refine ih (i::L) _ σ' a' (hD.cons hin g2 ha) (by simp[h1]) (λk hk=>?_) ?_ (he.trans e') ?_ λm hm=>?_
   ·by_cases e:i=k
    ·subst e;have:i<listed.size:=by omega
     simp[Array.getD,this]
    ·have hk':k<listed.size:=by omega
     have q1:(listed.setIfInBounds i true).getD k true=listed.getD k true:=by simp[Array.getD,hk',Array.getElem_setIfInBounds,e]
     have q2:(listed.setIfInBounds i true).getD k false=listed.getD k false:=by simp[Array.getD,hk',Array.getElem_setIfInBounds,e]
     have q3:k∈i::L↔k∈L:=by rw[y6];exact⟨λh=>h.resolve_left λh=>e h.symm,.inr⟩
     rw[q1,q2,q3];exact h2 k hk
   ·have:=Oe g2 hin;omega
   ·simp only[EQ,GM,hd];exact hI'
   ·rcases hal' m hm with h|rfl
    ·rcases hal m h with h|⟨k,hk,e⟩
     ·exact .inl h
     ·exact .inr ⟨k,List.mem_cons_of_mem _ hk,e⟩
    ·exact .inr ⟨i,by simp,rfl⟩
theorem pH(bef:∀i o,ops[i]? =some o->(∀e∈Di o,e<i)/\B.getD i 0=Hl B (Di o)):∀(i:Nat)(o:Oper),ops[i]? =some o->∀k,(B.getD i 0).testBit k=true->k<i:=by
 intro i;induction i using Nat.strongRecOn with
 |_ i ih=>intro o ho k hk;rw[(bef i o ho).2,Hl,Lx]at hk;grind
theorem X3(bef:∀i o,ops[i]? =some o->(∀e∈Di o,e<i)/\B.getD i 0=Hl B (Di o)):∀(j:Nat)(o:Oper),ops[j]? =some o->∀i k,(B.getD j 0).testBit i=true->(B.getD i 0).testBit k=true->(B.getD j 0).testBit k=true:=by
 intro j;induction j using Nat.strongRecOn with
 |_ j ih=>intro o ho i k hi hk;rw[(bef j o ho).2,Hl,Lx]at hi⊢;simp only[Nat.zero_testBit,yF,false_or]at hi⊢;obtain⟨e,h1,h2⟩:=hi;grind
theorem W9(bef:∀i o,ops[i]? =some o->(∀e∈Di o,e<i)/\B.getD i 0=Hl B (Di o)){F:Fence}{P:Program}{Q:Exit->Act->World->Prop}(m:Nat)(late:∀j o,m<=j->ops[j]? =some o->∀k,k<j->(B.getD j 0).testBit k=true):∀(r j:Nat)(listed:Array Bool)(a:Act)(w:World),m<=j->j+r=ops.size->listed.size=ops.size->(∀i,i<ops.size->(listed.getD i true=true↔i<j)/\(listed.getD i false=true↔i<j))->wpOpsIn F 0 P ops Q (List.range' j r) a w->wpAnyIn F 0 P .any ops Q r listed a w:=by
 intro r;induction r with
 |zero=>
  intro j listed a w hm hj h1 h2 h;refine⟨?_,by simpa[wpOpsIn]using h⟩;cases hr:Region.ready .any ops listed with
  |nil=>rfl
  |cons x xs=>
   exfalso;have hx:x∈Region.ready .any ops listed:=by rw[hr];simp
   obtain⟨g1,g2,_⟩:=(G5 (L:=DO j) h1 (λi hi=>by rw[FF];exact h2 i hi) (λi o ho=>(bef i o ho).1) x).1 hx;rw[FF]at g2;omega
 |succ r ih=>
  intro j listed a w hm hj h1 h2 h;rw[A38,wpOpsIn_cons]at h;have hjs:j<ops.size:=by omega
  have hoj:ops[j]? =some ops[j]:=w7 hjs;refine⟨λhr=>?_,λi hi=>?_⟩
  ·have:j∈Region.ready .any ops listed:=(G5 (L:=DO j) h1 (λi hi=>by rw[FF];exact h2 i hi) (λi o ho=>(bef i o ho).1) j).2 ⟨hjs,by rw[FF];omega,_,hoj,λe he=>by rw[FF];exact(bef j _ hoj).1 e he⟩;rw[hr]at this;simp at this
  ·obtain⟨g1,g2,o,ho,g3⟩:=(G5 (L:=DO j) h1 (λi hi=>by rw[FF];exact h2 i hi) (λi o ho=>(bef i o ho).1) i).1 hi;rw[FF]at g2;have hij:i=j:=by
    rcases A52 j i with h|h
    ·have hb:=late i o (by omega) ho j h;rw[(bef i o ho).2,Hl,Lx]at hb;simp only[Nat.zero_testBit,yF,false_or]at hb;obtain⟨e,q1,q2⟩:=hb;have q3:=FF.1 (g3 e q1);rcases q2 with rfl|q2
     ·omega
     ·have:=pH bef e _ (w7 (show e<ops.size by omega)) j q2;omega
    ·omega
   subst hij;refine wpOpIn_mono (λa w hw=>?_) h;refine ih (i+1) _ a w (by omega) (by omega) (by simp[h1]) (λk hk=>?_) hw;by_cases e:i=k
   ·subst e;have:i<listed.size:=by omega
    simp[Array.getD,this]
   ·have hk':k<listed.size:=by omega
    have q1:(listed.setIfInBounds i true).getD k true=listed.getD k true:=by simp[Array.getD,hk',Array.getElem_setIfInBounds,e]
    have q2:(listed.setIfInBounds i true).getD k false=listed.getD k false:=by simp[Array.getD,hk',Array.getElem_setIfInBounds,e]
    rw[q1,q2,(h2 k hk).1,(h2 k hk).2];omega
end
def X4(all:List AOp):Nat->Nat->Nat->Bool|0,_,_=>false|f+1,k,j=> !Ic (all.getD k default) (all.getD j default)||(List.range j).any λi=>decide (k<i)&& !Ic (all.getD i default) (all.getD j default)&&X4 all f k i
def iK(all:List AOp)(m:Nat):Bool:=(List.range all.length).all λj=> !decide (m<=j)||(List.range j).all λk=>X4 all 8 k j
theorem X5{ops:Array Oper}{B:List Nat}{all:List AOp}(bef:∀i o,ops[i]? =some o->(∀e∈Di o,e<i)/\B.getD i 0=Hl B (Di o))(hsz:all.length=ops.size)(tm:∀k j,k<j->j<all.length->(B.getD j 0).testBit k=true\/Ic (all.getD k default) (all.getD j default)=true):∀(f k j:Nat),k<j->j<all.length->X4 all f k j=true->(B.getD j 0).testBit k=true
 |0,k,j,_,_,h=>by simp[X4]at h
 |f+1,k,j,hk,hj,h=>by
  simp only[X4,Bool.or_eq_true,A28,List.any_eq_true,List.mem_range,y8,s7]at h;rcases h with h|⟨i,hi,⟨h1,h2⟩,h3⟩
  ·grind
  ·have h4:=X5 bef hsz tm f k i h1 (by omega) h3;rcases tm i j hi hj with g|g
   ·exact X3 bef j _ (w7 (by omega)) i k g h4
   ·rw[h2]at g;cases g
section
variable{P:Program}{S:Tab}{nt hb:Nat}{β:Int->Cf->Prop}{hnt:nt<=gs}{evo:∀{k:Int} {U σ':Cf},β k U->Evo U σ'->β k σ'}{l:Nat}{xs:List (List AV)}
theorem Xa(hS:TabOK P S)(hR:Rng P Fence.wide l hb xs β)(i:Nat){rid:Nat}{ops:List AOp}{yo:AOp}{Q:AE->St->Prop}{e e1:Ar}{h h1:Hp}{c:Nat}{vc:Prop}{x:Opd}{as:List Opd}{k:Nat}{args:List AV}{recs:List Rec}(hyo:ops[i]? =some yo)(hk:yo.k=.cv x as)(hex:Nh S (c+1) (100*rid) (ops.take i) e h=some (vc,e1,h1,recs))(hlate:iK ops i=true)(hvc:vc)(hg:D8 e1 yo.g=some true)(hx:Ay true (Ax e1 x)=.clo (.yield l) [] [])(hgh:lk e gs=CD k)(hargs:as.map (λx=>Ay true (Ax e1 x))=args)(hxs:xs[k]? =some args)(hQ:∀b:Bool,∃(vc2:Prop) (e2:Ar) (h2:Hp),Bh S (c+1) (100*rid+(i+1)) (ops.drop (i+1)) (BQ yo.d (.v (.bool b)) ((gs,CD (if b=true then k+1 else-1))::e1)) h1=some (vc2,e2,h2)/\vc2/\Q .n ⟨e2,h2,c+1⟩):Aq (Ctx.it P Fence.wide S nt hb β hnt evo) (.drw rid ops []) Q ⟨e,h,c⟩:=by
 intro code hc U a hA;have hΓ:(Ctx.it P Fence.wide S nt hb β hnt evo).OK:=⟨hS,.inl rfl⟩
 cases code with
 |region id ops' d=>
  simp only[cCode]at hc;obtain⟨l0,hx0,⟨_,e0⟩|⟨rfl,hf,un',hu,e0⟩⟩:=BM hc
  ·cases e0
  ·cases e0
   refine wpIn_region_any hf ?_;obtain⟨B,b1,b2,hun⟩:=No hu;obtain⟨c1,c2⟩:=CM hx0;obtain⟨t1,t2⟩:=Cj i hx0;obtain⟨_,t3⟩:=Cj (i+1) hx0;have hi:i<ops.length:=(y5.1 hyo).1;have hsz:ops.length=ops'.size:=c1.trans (by simp);have hi':i<ops'.size:=by omega
   have ho:ops'[i]? =some ops'[i]:=w7 hi';obtain⟨yo',g1,g2⟩:=c2 i ops'[i] (by simp);rw[hyo]at g1;cases g1
   obtain⟨cl,y,k1,k2,rfl,rfl,k3,k4⟩:=TT g2 hk;have hop:∀i o,ops'[i]? =some o->∃x,ops[i]? =some x/\JI P nt ops' o=some x:=λi o ho=>c2 i o (by simpa using ho)
   have hao:∀i x,ops[i]? =some x->ops.getD i default=x:=λi x h=>by simp[s9,h]
   have get:∀i,i<ops.length->ops[i]? =some (ops.getD i default):=λi hi=>by simp[s9,hi]
   have hbef:∀i o,ops'[i]? =some o->(∀e∈Di o,e<i)/\B.getD i 0=Hl B (Di o):=λi o ho=>by have:=K8 b1 i o (by simpa using ho);simpa using this
   have htm:∀k j,k<j->j<ops.length->(B.getD j 0).testBit k=true\/Ic (ops.getD k default) (ops.getD j default)=true:=λk j hk hj=>by
    have h1:=Nk b2 j _ (get j hj);rw[A08]at h1;have h2:=K9 h1 k (ops.getD k default) (by rw[A27,t8 hk];exact get k (by omega))
    rwa [A08]at h2
   have late:∀j o,i<=j->ops'[j]? =some o->∀k,k<j->(B.getD j 0).testBit k=true:=λj o hj ho k hk=>by
    have hjl:j<ops.length:=by have:=(u0.1 ho).1;omega
    have h0:=List.all_eq_true.1 hlate j (List.mem_range.2 hjl);have h1:decide (i<=j)=true:=by simpa using hj
    rw[h1]at h0;have h2:=List.all_eq_true.1 (by simpa using h0) k (List.mem_range.2 hk);exact X5 hbef hsz htm 8 k j hk hjl h2
   rw[TS]at hex;have hrl:=Jj hex;have hlt:(ops.take i).length=i:=by simp;omega
   have hsp:=Lb (rec:=λi=>recs.getD i default) (env0:=e) (hp0:=h) (all:=ops.take i) (bs:=100*rid) (ops.take i) 0 recs vc e1 h1 (λi=>by simp) hex hvc (λi hi=>by
    have:i<recs.length:=by omega
    simp[s9,this])
   simp only[A08,hlt]at hsp;obtain⟨e1',e2',run⟩:=hsp;have run':∀k,k<i->_:=λk hk=>run k (ops.getD k default) (by rw[A27,t8 hk];exact get k (by omega))
   have hws:∀k,k<i->hw (ops.getD k default).k=false->(recs.getD k default).ws=[]:=λk hk h=>by obtain⟨_,_,g,_⟩:=run' k hk;exact P3 h g
   have hrd:∀k,k<i->ht (ops.getD k default).k=false->(recs.getD k default).rd=[]:=λk hk h=>by obtain⟨_,_,_,_,g⟩:=run' k hk;rw[g];exact Pa h
   have G:Good P (λi e h=>HL S (100*rid+i,c+1) e h (ops.getD i default)) nt i ops' B (λi=>recs.getD i default) e h λi=>ops.getD i default:=
    {cg:=λi e e' h h' ht hh=>Ng ht hh
     sz:=by omega
     bef:=hbef
     op:=λi o ho=>by obtain⟨x,h1,h2⟩:=hop i o ho;simp only[hao i x h1];exact h2
     run:=run'
     tmp:=λk j hk hj=>htm k j hk (by omega)
     mem:=λk j hk hj=>by
      have h2:=La (B:=B.getD j 0) (j:=j) (o:=ops.getD j default) (l:=ops.take j) (k:=0) k (ops.getD k default) (by rw[A27,t8 hk];exact get k (by omega));rw[A08]at h2;rcases h2 with h|h|h
      ·exact .inl h
      ·right;right;simp only[Bool.or_eq_false_iff,Bool.and_eq_false_iff]at h;have hk':k<i:=by omega
       rcases h.1 with g1|g1
       ·rcases h.2 with g2|g2
        ·exact .inr (.inr ⟨hws k hk' g1,hrd k hk' g2⟩)
        ·exact .inl ⟨hws k hk' g1,hws j hj g2⟩
       ·exact .inr (.inl ⟨hws j hj (Xo g1),hrd j hj g1⟩)
      ·exfalso;have:=Nl (all:=ops) (j:=0) j _ (get j (by omega)) _ (by rw[A08];exact h);rw[<-hun]at this;simp at this}
   obtain⟨σd,wd1,wd2,wd3⟩:=hA.drawn (U.w.drawn+1);rw[<-wd1];rw[show ops'.size=i+(ops'.size-i) by omega];refine kT (cnt:=c) hΓ G (λj o hj ho k hk=>late j o hj ho k (by omega)) (σ0:=U) (λlisted σ1 a1 hs1 hl1 ev1 hI1 hal1'=>?_) i [] _ σd a ⟨by simp,by simp,.nil⟩ (by simp;omega) (λq hq=>?_) (Nn i) wd2 wd3.1 λm hm=>.inl (wd3.2.1 m hm)
   ·refine W9 hbef i late (ops'.size-i) i listed a1 σ1.w (w6 _) (by omega) hs1 hl1 ?_;rw[<-e1',<-e2']at hI1;have hal1:∀m,σ1.al m->m.2<=c\/(m.2=c+1/\m.1<100*rid+i):=λm hm=>(hal1' m hm).imp id λ⟨q,hq,eq⟩=>by subst eq;simp;omega
    rw[show ops'.size-i=(ops'.toList.drop (i+1)).length+1 by simp;omega,A38];rw[wpOpsIn_cons];unfold wpOpIn;simp only[ho];have hw:=DA hI1.t k4 hg;simp only[hw,if_true];refine⟨λf _=>trivial,?_⟩;have hno:∀c,ops'[i].op≠.defer c:=λc hd=>by rw[k1]at hd;cases hd
    rw[Oper.semAt_eq _ a1.eval _ hno];have hX:=EZ (g:=true) rfl hI1.t y;rw[hx]at hX;simp only[Rep,RepL]at hX;obtain⟨xs0,ys0,hX,rfl,rfl⟩:=hX;have hV:=F2 (g:=true) rfl hI1.t cl.args.toList;have hJ:β k σ1:=evo (hA.2.2 k hgh) ev1;have hV':RepL σ1 args (cl.args.toList.map a1.eval):=by rw[<-hargs];exact hV
    obtain⟨f,tmps,assign,body,y1,y2⟩:=hR.rnd hJ hI1.h hxs hV';show Oper.uponIn Fence.wide 0 P ops'[i] a1 _ _ (Sem.run P (execOp a1.eval ops'[i]) σ1.w);rw[Sh k1 k2 (by simpa using hX) y1];rw[Oper.uponIn_round];refine⟨λh=>by simp[Fence.wide]at h,y2.mono ?_⟩;rintro en w' ⟨b,σ2,rfl,rfl,oth,old,hJ2⟩;obtain⟨vc2,e2,h2,q1,q2,q3⟩:=hQ b;have hd:∀k,ops'[i].dst=some k->k<a1.tmps.size:=by rw[k3];intro d hd;rw[hI1.sz];exact C9 g2 d hd
    have hI2:Inv σ2 (BQ yo.d (.v (.bool b)) ((gs,CD (if b=true then k+1 else-1))::e1)) h1 (a1.put ops'[i].dst (.bool b)) nt (hb,false):=by
     refine⟨hI1.h.oth oth,?_,by rw[Act.size_put];exact hI1.sz,?_⟩
     ·rw[<-k3];refine TInv.put (r:=.v (.bool b)) (λt=>?_) hd (by simp[Rep]);simp only[lk];by_cases ht:gs=t
      ·rw[t8 ht];subst ht;have:¬gs<a1.tmps.size:=by rw[hI1.sz];exact Nat.not_lt.2 hnt
       simp[Rep,Array.getD,this]
      ·rw[t7 ht];exact hI1.t.ev oth.ev t
     ·rw[Act.defers_put];refine DOK.of rfl (λd hd=>?_) (hI1.df.nd rfl) (A09 hI1.df.le oth.sz) (hI1.df.gl.ev oth.ev);obtain⟨r,r1,r2,r3,r4,r5⟩:=hI1.df.all rfl d hd;obtain⟨o1,o2⟩:=old r _ r5 r3;exact⟨r,r1,r2,o1,by rw[oth.M];exact r4,o2⟩
    have hgh2:lk (BQ yo.d (.v (.bool b)) ((gs,CD (if b=true then k+1 else-1))::e1)) gs=CD (if b=true then k+1 else-1):=by rw[DL (C9 g2) hnt];simp[lk]
    have hG2:(Ctx.it P Fence.wide S nt hb β hnt evo).G (BQ yo.d (.v (.bool b)) ((gs,CD (if b=true then k+1 else-1))::e1)) σ2:=by
     intro k' hk';rw[hgh2]at hk';have:(if b=true then(k:Int)+1 else-1)=k':=by simpa using hk'
     rw[<-this];exact hJ2
    have hal2:∀m,σ2.al m->m.2<=c\/(m.2=c+1/\m.1<100*rid+(i+1)):=by
     intro m hm;rw[oth.al]at hm;rcases hal1 m hm with h|⟨h3,h4⟩
     ·exact .inl h
     ·right;exact⟨h3,by omega⟩
    have hh:=FS hΓ (ops:=ops') (Q:=Q) (cnt:=c) (100*rid) _ σ2 hG2 (ops'.toList.drop (i+1)) (i+1) (ops.drop (i+1)) σ2 _ _ _ _ _ vc2 (λ_ _=>rfl) (λj=>by simp) (by simp;omega) t3 q1 q2 (Evo.refl σ2) hI2 hal2 q3;exact hh
   ·have:q<i+(ops'.size-i):=by omega
    simp[Array.getD,this]
 |seq x y=>simp only[cCode]at hc;split at hc<;>simp at hc
 |cond c x y=>simp only[cCode]at hc;split at hc<;>simp at hc
 |rangeFunc f ps x y=>simp only[cCode]at hc;split at hc<;>simp at hc
 |_=>simp[cCode]at hc
end
abbrev Xb(V:Ctx)(l:Nat)(xs:List (List AV)):Prop:=∀(i:Nat){rid:Nat}{ops post:List AOp}{d:Option Nat}{g:Option (Nat×Bool)}{Q:AE->St->Prop}{e e1:Ar}{h h1:Hp}{c:Nat}{vc:Prop}{x:Opd}{as:List Opd}{k:Nat}{args:List AV}{vt vf:Prop}{et ef:Ar}{ht hf:Hp}{recs:List Rec}(_:ops[i]? =some ⟨d,g,.cv x as⟩)(_:ops.drop (i+1)=post)(_:Nh V.S (c+1) (100*rid) (ops.take i) e h=some (vc,e1,h1,recs))(_:iK ops i=true)(_:vc)(_:D8 e1 g=some true)(_:Ay true (Ax e1 x)=.clo (.yield l) [] [])(_:lk e gs=CD k)(_:as.map (λx=>Ay true (Ax e1 x))=args)(_:xs[k]? =some args)(_:Bh V.S (c+1) (100*rid+(i+1)) post (BQ d (.v (.bool true)) ((gs,CD (k+1))::e1)) h1=some (vt,et,ht))(_:vt)(_:Q .n ⟨et,ht,c+1⟩)(_:Bh V.S (c+1) (100*rid+(i+1)) post (BQ d (.v (.bool false)) ((gs,CD (-1))::e1)) h1=some (vf,ef,hf))(_:vf)(_:Q .n ⟨ef,hf,c+1⟩),Aq V (.drw rid ops []) Q ⟨e,h,c⟩
theorem VK{P:Program}{S:Tab}(hS:TabOK P S){f:Nat}{fn:Func}{c:AC}{fst cps:List AV}{xs:List (List AV)}(nt:Nat)(hf:P.funcs[f]? =some fn)(hc:Dj P fn=some (c,[]))(hnt:fn.ntmps=nt)(hgs:nt<=gs)(hn:(fst++cps).length<nt)(h:∀(l:Nat) (V:Ctx),V.OK->V.S=S->Sj V l xs->Xb V l xs->Aq V c (Ck xs.length) ⟨(gs,CD 0)::BC 0 (fst++AV.clo (.yield l) [] []::cps),[],0⟩):TU P f fst cps xs:=
 rD hS nt hf hc hnt hgs hn λl hb β evo hR=>h l _ (Ctx.it_ok hS) (Eq.refl _) (λi=>QO hS hR i) λi {rid ops post d g Q e e1 h h1 c vc x as k args vt vf et ef ht hf recs} hyo hpost hex hl hvc hg hx hgh hargs hxs hxT hvT hQT hxF hvF hQF=>by
  subst hpost;refine Xa hS hR i hyo rfl hex hl hvc hg hx hgh hargs hxs λb=>?_
  cases b with
  |true=>exact⟨vt,et,ht,hxT,hvT,hQT⟩
  |false=>exact⟨vf,ef,hf,hxF,hvF,hQF⟩
