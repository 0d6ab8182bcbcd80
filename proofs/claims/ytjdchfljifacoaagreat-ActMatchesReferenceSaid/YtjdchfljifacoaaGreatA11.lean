import Derived.Test.YtjdchfljifacoaaGreatA9
import Derived.RangeFuncNested
set_option linter.all false
namespace Go.Proofs.YtjdchfljifacoaaGreat.Am
open Go
section
variable{n:Nat}{ops:Array Oper}{B:List Nat}{rec:Nat->Rec}{env0:Az}{hp0:Hp}{ao:Nat->AOp}{bs cnt:Nat}{V:Ctx}
theorem Vr{L:List Nat}:∀{n:Nat},(∀i,i<n->i∈L)->left L n=0
 |0,_=>rfl
 |n+1,h=>by simp only[left];rw[Vr λi hi=>h i (by omega),dW (h n (by omega))]
theorem qJ(hΓ:V.OK)(G:Good V.P (λi e h=>Jj V.S (bs+i,cnt+1) e h (ao i)) V.nt n ops B rec env0 hp0 ao)(late:∀j o,n<=j->ops[j]? =some o->∀k,k<n->(B.getD j 0).testBit k=true){R:Nat}{Qx:Exit->Act->World->Prop}{σ0:Cf}(hK:∀(listed:Array Bool) (U:Cf) (a:Act),listed.size=ops.size->(∀i,i<ops.size->(listed.getD i true=true↔i<n)/\(listed.getD i false=true↔i<n))->Evo σ0 U->Inv U (FO rec env0 (Ek n)) (Hq rec hp0 (Ek n)) a V.nt V.hb->(∀m,U.al m->m.2<=cnt\/∃i,i<n/\m=(bs+i,cnt+1))->wpAnyIn V.F 0 V.P .any ops Qx R listed a U.w):∀(fuel:Nat)(L:List Nat)(listed:Array Bool)(U:Cf)(a:Act),Done n B L->listed.size=ops.size->(∀i,i<ops.size->(listed.getD i true=true↔i∈L)/\(listed.getD i false=true↔i∈L))->left L n=fuel->Evo σ0 U->Inv U (FO rec env0 L) (Hq rec hp0 L) a V.nt V.hb->(∀m,U.al m->m.2<=cnt\/∃i∈L,m=(bs+i,cnt+1))->wpAnyIn V.F 0 V.P .any ops Qx (fuel+R) listed a U.w:=by
 intro fuel;induction fuel with
 |zero=>
  intro L listed U a hD h1 h2 hf he hI hal;have hall:=P3 hf;obtain⟨e1,e2⟩:=G.fin hD hall;have hiff:∀i,i∈L↔i<n:=λi=>⟨hD.lt i,hall i⟩
  rw[rB];exact hK listed U a h1 (λi hi=>by rw[<-hiff i];exact h2 i hi) he (hI.congr e1 e2) λm hm=>(hal m hm).imp id λ⟨i,hi,e⟩=>⟨i,hD.lt i hi,e⟩
 |succ fuel ih=>
  intro L listed U a hD h1 h2 hf he hI hal;rw[show fuel+1+R=(fuel+R)+1 by omega];have hmiss:∃j,j<n/\j∉L/\∀i,i<j->i∈L:=by
   rcases Zn L n with h|h
   ·rw[Vr h]at hf;omega
   ·exact h
  obtain⟨j0,j1,j2,j3⟩:=hmiss;refine⟨λhr=>?_,λi hi=>?_⟩
  ·exfalso;have hj:j0<ops.size:=tL j1 G.sz;have ho:ops[j0]? =some ops[j0]:=iW hj;have:j0∈Region.ready .any ops listed:=(Iu h1 h2 (λi o ho=>(G.bef i o ho).1) j0).2 ⟨hj,j2,_,ho,λe he=>j3 e ((G.bef j0 _ ho).1 e he)⟩;rw[hr]at this;simp at this
  obtain⟨g1,g2,o,ho,g3⟩:=(Iu h1 h2 (λi o ho=>(G.bef i o ho).1) i).1 hi;have ha:=G.all hD ho g3;have hin:i<n:=by
   rcases Ke i n with h|h
   ·exact h
   ·exact absurd (ha j0 (late i o h ho j0 j1)) j2
  obtain⟨vc,hvc,hex,hd,_⟩:=G.run i hin;rw[<-G.same hD hin g2 ha]at hex;refine K7 hΓ.S hΓ.F ho (G.op i o ho) hI ⟨?_,cnt+1,λm hm=>by rcases hal m hm with h|⟨k,_,rfl⟩;exact Nat.le_succ_of_le h;exact fW _⟩ hex hvc λa' σ' e' hI' hal'=>?_
  ·intro h;rcases hal _ h with h|⟨k,hk,e⟩
   ·exact absurd h (Nat.not_succ_le_self cnt)
   ·simp only[KW,Nat.add_left_cancel_iff,and_true]at e;exact g2 (e▸hk)
  ·refine ih (i::L) _ σ' a' (hD.cons hin g2 ha) (by simp[h1]) (λk hk=>?_) ?_ (he.trans e') ?_ λm hm=>?_
   ·by_cases e:i=k
    ·subst e;have:i<listed.size:=by omega
     simp[Array.getD,this]
    ·have hk':k<listed.size:=by omega
     have q1:(listed.setIfInBounds i true).getD k true=listed.getD k true:=by simp[Array.getD,hk',Array.getElem_setIfInBounds,e]
     have q2:(listed.setIfInBounds i true).getD k false=listed.getD k false:=by simp[Array.getD,hk',Array.getElem_setIfInBounds,e]
     have q3:k∈i::L↔k∈L:=by rw[kC];exact⟨λh=>h.resolve_left λh=>e h.symm,.inr⟩
     rw[q1,q2,q3];exact h2 k hk
   ·have:=P5 g2 hin;omega
   ·simp only[FO,Hq,hd];exact hI'
   ·rcases hal' m hm with h|rfl
    ·rcases hal m h with h|⟨k,hk,e⟩
     ·exact .inl h
     ·exact .inr ⟨k,List.mem_cons_of_mem _ hk,e⟩
    ·exact .inr ⟨i,by simp,rfl⟩
theorem uS(bef:∀i o,ops[i]? =some o->(∀e∈DL o,e<i)/\B.getD i 0=IN B (DL o)):∀(i:Nat)(o:Oper),ops[i]? =some o->∀k,(B.getD i 0).testBit k=true->k<i:=by
 intro i;induction i using Nat.strongRecOn with
 |_ i ih=>intro o ho k hk;rw[(bef i o ho).2,IN,Nc]at hk;grind
theorem aE(bef:∀i o,ops[i]? =some o->(∀e∈DL o,e<i)/\B.getD i 0=IN B (DL o)):∀(j:Nat)(o:Oper),ops[j]? =some o->∀i k,(B.getD j 0).testBit i=true->(B.getD i 0).testBit k=true->(B.getD j 0).testBit k=true:=by
 intro j;induction j using Nat.strongRecOn with
 |_ j ih=>intro o ho i k hi hk;rw[(bef j o ho).2,IN,Nc]at hi⊢;simp only[Nat.zero_testBit,yF,false_or]at hi⊢;obtain⟨e,h1,h2⟩:=hi;grind
theorem Y8(bef:∀i o,ops[i]? =some o->(∀e∈DL o,e<i)/\B.getD i 0=IN B (DL o)){F:Fence}{P:Program}{Q:Exit->Act->World->Prop}(m:Nat)(late:∀j o,m<=j->ops[j]? =some o->∀k,k<j->(B.getD j 0).testBit k=true):∀(r j:Nat)(listed:Array Bool)(a:Act)(w:World),m<=j->j+r=ops.size->listed.size=ops.size->(∀i,i<ops.size->(listed.getD i true=true↔i<j)/\(listed.getD i false=true↔i<j))->wpOpsIn F 0 P ops Q (List.range' j r) a w->wpAnyIn F 0 P .any ops Q r listed a w:=by
 intro r;induction r with
 |zero=>
  intro j listed a w hm hj h1 h2 h;refine⟨?_,by simpa[wpOpsIn]using h⟩;cases hr:Region.ready .any ops listed with
  |nil=>rfl
  |cons x xs=>
   exfalso;have hx:x∈Region.ready .any ops listed:=by rw[hr];simp
   obtain⟨g1,g2,_⟩:=(Iu (L:=Ek j) h1 (λi hi=>by rw[GN];exact h2 i hi) (λi o ho=>(bef i o ho).1) x).1 hx;rw[GN]at g2;omega
 |succ r ih=>
  intro j listed a w hm hj h1 h2 h;rw[z9,wpOpsIn_cons]at h;have hjs:j<ops.size:=by omega
  have hoj:ops[j]? =some ops[j]:=iW hjs;refine⟨λhr=>?_,λi hi=>?_⟩
  ·have:j∈Region.ready .any ops listed:=(Iu (L:=Ek j) h1 (λi hi=>by rw[GN];exact h2 i hi) (λi o ho=>(bef i o ho).1) j).2 ⟨hjs,by rw[GN];omega,_,hoj,λe he=>by rw[GN];exact(bef j _ hoj).1 e he⟩;rw[hr]at this;simp at this
  ·obtain⟨g1,g2,o,ho,g3⟩:=(Iu (L:=Ek j) h1 (λi hi=>by rw[GN];exact h2 i hi) (λi o ho=>(bef i o ho).1) i).1 hi;rw[GN]at g2;have hij:i=j:=by
    rcases Ke j i with h|h
    ·have hb:=late i o (by omega) ho j h;rw[(bef i o ho).2,IN,Nc]at hb;simp only[Nat.zero_testBit,yF,false_or]at hb;obtain⟨e,q1,q2⟩:=hb;have q3:=GN.1 (g3 e q1);rcases q2 with rfl|q2
     ·omega
     ·have:=uS bef e _ (iW (show e<ops.size by omega)) j q2;omega
    ·omega
   subst hij;refine wpOpIn_mono (λa w hw=>?_) h;refine ih (i+1) _ a w (by omega) (by omega) (by simp[h1]) (λk hk=>?_) hw;by_cases e:i=k
   ·subst e;have:i<listed.size:=by omega
    simp[Array.getD,this]
   ·have hk':k<listed.size:=by omega
    have q1:(listed.setIfInBounds i true).getD k true=listed.getD k true:=by simp[Array.getD,hk',Array.getElem_setIfInBounds,e]
    have q2:(listed.setIfInBounds i true).getD k false=listed.getD k false:=by simp[Array.getD,hk',Array.getElem_setIfInBounds,e]
    rw[q1,q2,(h2 k hk).1,(h2 k hk).2];omega
end
def aF(all:List AOp):Nat->Nat->Nat->Bool|0,_,_=>false|f+1,k,j=> !JK (all.getD k default) (all.getD j default)||(List.range j).any λi=>decide (k<i)&& !JK (all.getD i default) (all.getD j default)&&aF all f k i
def nD(all:List AOp)(m:Nat):Bool:=(List.range all.length).all λj=> !decide (m<=j)||(List.range j).all λk=>aF all 8 k j
theorem aG{ops:Array Oper}{B:List Nat}{all:List AOp}(bef:∀i o,ops[i]? =some o->(∀e∈DL o,e<i)/\B.getD i 0=IN B (DL o))(hsz:all.length=ops.size)(tm:∀k j,k<j->j<all.length->(B.getD j 0).testBit k=true\/JK (all.getD k default) (all.getD j default)=true):∀(f k j:Nat),k<j->j<all.length->aF all f k j=true->(B.getD j 0).testBit k=true
 |0,k,j,_,_,h=>by simp[aF]at h
 |f+1,k,j,hk,hj,h=>by
  simp only[aF,sW,w6,List.any_eq_true,List.mem_range,nK,bK]at h;rcases h with h|⟨i,hi,⟨h1,h2⟩,h3⟩
  ·grind
  ·have h4:=aG bef hsz tm f k i h1 (by omega) h3;rcases tm i j hi hj with g|g
   ·exact aE bef j _ (iW (by omega)) i k g h4
   ·rw[h2]at g;cases g
section
variable{P:Program}{S:Tab}{nt hb:Nat}{β:Int->Cf->Prop}{hnt:nt<=gs}{evo:∀{k:Int} {U σ':Cf},β k U->Evo U σ'->β k σ'}{l:Nat}{xs:List (List AV)}
theorem Y9(hS:TabOK P S)(hR:Rng P Fence.wide l hb xs β)(i:Nat){rid:Nat}{ops:List AOp}{yo:AOp}{Q:AE->St->Prop}{e e1:Az}{h h1:Hp}{c:Nat}{vc:Prop}{x:Opd}{as:List Opd}{k:Nat}{args:List AV}{recs:List Rec}(hyo:ops[i]? =some yo)(hk:yo.k=.cv x as)(hex:O6 S (c+1) (100*rid) (ops.take i) e h=some (vc,e1,h1,recs))(hlate:nD ops i=true)(hvc:vc)(hg:Ei e1 yo.g=some true)(hx:AJ true (AI e1 x)=.clo (.yield l) [] [])(hgh:lk e gs=CL k)(hargs:as.map (λx=>AJ true (AI e1 x))=args)(hxs:xs[k]? =some args)(hQ:∀b:Bool,∃(vc2:Prop) (e2:Az) (h2:Hp),Bg S (c+1) (100*rid+(i+1)) (ops.drop (i+1)) (BV yo.d (.v (.bool b)) ((gs,CL (if b=true then k+1 else-1))::e1)) h1=some (vc2,e2,h2)/\vc2/\Q .n ⟨e2,h2,c+1⟩):Ax (Ctx.it P Fence.wide S nt hb β hnt evo) (.drw rid ops []) Q ⟨e,h,c⟩:=by
 intro code hc U a hA;have hΓ:(Ctx.it P Fence.wide S nt hb β hnt evo).OK:=⟨hS,.inl rfl⟩
 cases code with
 |region id ops' d=>
  simp only[cCode]at hc;obtain⟨l0,hx0,⟨_,e0⟩|⟨rfl,hf,un',hu,e0⟩⟩:=Cc hc
  ·cases e0
  ·cases e0
   refine wpIn_region_any hf ?_;obtain⟨B,b1,b2,hun⟩:=Pc hu;obtain⟨c1,c2⟩:=C9 hx0;obtain⟨t1,t2⟩:=CE i hx0;obtain⟨_,t3⟩:=CE (i+1) hx0;have hi:i<ops.length:=(jW.1 hyo).1;have hsz:ops.length=ops'.size:=c1.trans (by simp);have hi':i<ops'.size:=by omega
   have ho:ops'[i]? =some ops'[i]:=iW hi';obtain⟨yo',g1,g2⟩:=c2 i ops'[i] (by simp);rw[hyo]at g1;cases g1
   obtain⟨cl,y,k1,k2,rfl,rfl,k3,k4⟩:=V6 g2 hk;have hop:∀i o,ops'[i]? =some o->∃x,ops[i]? =some x/\LE P nt ops' o=some x:=λi o ho=>c2 i o (by simpa using ho)
   have hao:∀i x,ops[i]? =some x->ops.getD i default=x:=λi x h=>by simp[dM,h]
   have get:∀i,i<ops.length->ops[i]? =some (ops.getD i default):=λi hi=>by simp[dM,hi]
   have hbef:∀i o,ops'[i]? =some o->(∀e∈DL o,e<i)/\B.getD i 0=IN B (DL o):=λi o ho=>by have:=MM b1 i o (by simpa using ho);simpa using this
   have htm:∀k j,k<j->j<ops.length->(B.getD j 0).testBit k=true\/JK (ops.getD k default) (ops.getD j default)=true:=λk j hk hj=>by
    have h1:=O9 b2 j _ (get j hj);rw[rB]at h1;have h2:=MN h1 k (ops.getD k default) (by rw[w5,dW hk];exact get k (by omega))
    rwa [rB]at h2
   have late:∀j o,i<=j->ops'[j]? =some o->∀k,k<j->(B.getD j 0).testBit k=true:=λj o hj ho k hk=>by
    have hjl:j<ops.length:=by have:=(dY.1 ho).1;omega
    have h0:=List.all_eq_true.1 hlate j (List.mem_range.2 hjl);have h1:decide (i<=j)=true:=by simpa using hj
    rw[h1]at h0;have h2:=List.all_eq_true.1 (by simpa using h0) k (List.mem_range.2 hk);exact aG hbef hsz htm 8 k j hk hjl h2
   rw[V5]at hex;have hrl:=K9 hex;have hlt:(ops.take i).length=i:=by simp;omega
   have hsp:=MP (rec:=λi=>recs.getD i default) (env0:=e) (hp0:=h) (all:=ops.take i) (bs:=100*rid) (ops.take i) 0 recs vc e1 h1 (λi=>by simp) hex hvc (λi hi=>by
    have:i<recs.length:=by omega
    simp[dM,this])
   simp only[rB,hlt]at hsp;obtain⟨e1',e2',run⟩:=hsp;have run':∀k,k<i->_:=λk hk=>run k (ops.getD k default) (by rw[w5,dW hk];exact get k (by omega))
   have hws:∀k,k<i->hw (ops.getD k default).k=false->(recs.getD k default).ws=[]:=λk hk h=>by obtain⟨_,_,g,_⟩:=run' k hk;exact RE h g
   have hrd:∀k,k<i->ht (ops.getD k default).k=false->(recs.getD k default).rd=[]:=λk hk h=>by obtain⟨_,_,_,_,g⟩:=run' k hk;rw[g];exact QJ h
   have G:Good P (λi e h=>Jj S (100*rid+i,c+1) e h (ops.getD i default)) nt i ops' B (λi=>recs.getD i default) e h λi=>ops.getD i default:=
    {cg:=λi e e' h h' ht hh=>O5 ht hh
     sz:=by omega
     bef:=hbef
     op:=λi o ho=>by obtain⟨x,h1,h2⟩:=hop i o ho;simp only[hao i x h1];exact h2
     run:=run'
     tmp:=λk j hk hj=>htm k j hk (by omega)
     mem:=λk j hk hj=>by
      have h2:=MO (B:=B.getD j 0) (j:=j) (o:=ops.getD j default) (l:=ops.take j) (k:=0) k (ops.getD k default) (by rw[w5,dW hk];exact get k (by omega));rw[rB]at h2;rcases h2 with h|h|h
      ·exact .inl h
      ·right;right;simp only[y8,z8]at h;have hk':k<i:=by omega
       rcases h.1 with g1|g1
       ·rcases h.2 with g2|g2
        ·exact .inr (.inr ⟨hws k hk' g1,hrd k hk' g2⟩)
        ·exact .inl ⟨hws k hk' g1,hws j hj g2⟩
       ·exact .inr (.inl ⟨hws j hj (Zo g1),hrd j hj g1⟩)
      ·exfalso;have:=Pa (all:=ops) (j:=0) j _ (get j (by omega)) _ (by rw[rB];exact h);rw[<-hun]at this;simp at this}
   obtain⟨σd,wd1,wd2,wd3⟩:=hA.drawn (U.w.drawn+1);rw[<-wd1];rw[show ops'.size=i+(ops'.size-i) by omega];refine qJ (cnt:=c) hΓ G (λj o hj ho k hk=>late j o hj ho k (by omega)) (σ0:=U) (λlisted σ1 a1 hs1 hl1 ev1 hI1 hal1'=>?_) i [] _ σd a ⟨by simp,by simp,.nil⟩ (by simp;omega) (λq hq=>?_) (Pb i) wd2 wd3.1 λm hm=>.inl (wd3.2.1 m hm)
   ·refine Y8 hbef i late (ops'.size-i) i listed a1 σ1.w (fW _) (by omega) hs1 hl1 ?_;rw[<-e1',<-e2']at hI1;have hal1:∀m,σ1.al m->m.2<=c\/(m.2=c+1/\m.1<100*rid+i):=λm hm=>(hal1' m hm).imp id λ⟨q,hq,eq⟩=>by subst eq;simp;omega
    rw[show ops'.size-i=(ops'.toList.drop (i+1)).length+1 by simp;omega,z9];rw[wpOpsIn_cons];unfold wpOpIn;simp only[ho];have hw:=D6 hI1.t k4 hg;simp only[hw,if_true];refine⟨λf _=>trivial,?_⟩;have hno:∀c,ops'[i].op≠.defer c:=λc hd=>by rw[k1]at hd;cases hd
    rw[Oper.semAt_eq _ a1.eval _ hno];have hX:=EO (g:=true) rfl hI1.t y;rw[hx]at hX;simp only[Rep,RepL]at hX;obtain⟨xs0,ys0,hX,rfl,rfl⟩:=hX;have hV:=Gj (g:=true) rfl hI1.t cl.args.toList;have hJ:β k σ1:=evo (hA.2.2 k hgh) ev1;have hV':RepL σ1 args (cl.args.toList.map a1.eval):=by rw[<-hargs];exact hV
    obtain⟨f,tmps,assign,body,y1,y2⟩:=hR.rnd hJ hI1.h hxs hV';show Oper.uponIn Fence.wide 0 P ops'[i] a1 _ _ (Sem.run P (execOp a1.eval ops'[i]) σ1.w);rw[T7 k1 k2 (by simpa using hX) y1];rw[Oper.uponIn_round];refine⟨λh=>by simp[Fence.wide]at h,y2.mono ?_⟩;rintro en w' ⟨b,σ2,rfl,rfl,oth,old,hJ2⟩;obtain⟨vc2,e2,h2,q1,q2,q3⟩:=hQ b;have hd:∀k,ops'[i].dst=some k->k<a1.tmps.size:=by rw[k3];intro d hd;rw[hI1.sz];exact DA g2 d hd
    have hI2:Inv σ2 (BV yo.d (.v (.bool b)) ((gs,CL (if b=true then k+1 else-1))::e1)) h1 (a1.put ops'[i].dst (.bool b)) nt (hb,false):=by
     refine⟨hI1.h.oth oth,?_,by rw[Act.size_put];exact hI1.sz,?_⟩
     ·rw[<-k3];refine TInv.put (r:=.v (.bool b)) (λt=>?_) hd (by simp[Rep]);simp only[lk];by_cases ht:gs=t
      ·rw[dW ht];subst ht;have:¬gs<a1.tmps.size:=by rw[hI1.sz];exact Nat.not_lt.2 hnt
       simp[Rep,Array.getD,this]
      ·rw[dQ ht];exact hI1.t.ev oth.ev t
     ·rw[Act.defers_put];refine DOK.of rfl (λd hd=>?_) (hI1.df.nd rfl) (rC hI1.df.le oth.sz) (hI1.df.gl.ev oth.ev);obtain⟨r,r1,r2,r3,r4,r5⟩:=hI1.df.all rfl d hd;obtain⟨o1,o2⟩:=old r _ r5 r3;exact⟨r,r1,r2,o1,by rw[oth.M];exact r4,o2⟩
    have hgh2:lk (BV yo.d (.v (.bool b)) ((gs,CL (if b=true then k+1 else-1))::e1)) gs=CL (if b=true then k+1 else-1):=by rw[Ee (DA g2) hnt];simp[lk]
    have hG2:(Ctx.it P Fence.wide S nt hb β hnt evo).G (BV yo.d (.v (.bool b)) ((gs,CL (if b=true then k+1 else-1))::e1)) σ2:=by
     intro k' hk';rw[hgh2]at hk';have:(if b=true then(k:Int)+1 else-1)=k':=by simpa using hk'
     rw[<-this];exact hJ2
    have hal2:∀m,σ2.al m->m.2<=c\/(m.2=c+1/\m.1<100*rid+(i+1)):=by
     intro m hm;rw[oth.al]at hm;rcases hal1 m hm with h|⟨h3,h4⟩
     ·exact .inl h
     ·right;exact⟨h3,by omega⟩
    have hh:=G7 hΓ (ops:=ops') (Q:=Q) (cnt:=c) (100*rid) _ σ2 hG2 (ops'.toList.drop (i+1)) (i+1) (ops.drop (i+1)) σ2 _ _ _ _ _ vc2 (λ_ _=>rfl) (λj=>by simp) (by simp;omega) t3 q1 q2 (Evo.refl σ2) hI2 hal2 q3;exact hh
   ·have:q<i+(ops'.size-i):=by omega
    simp[Array.getD,this]
 |seq x y=>simp only[cCode]at hc;split at hc<;>simp at hc
 |cond c x y=>simp only[cCode]at hc;split at hc<;>simp at hc
 |rangeFunc f ps x y=>simp only[cCode]at hc;split at hc<;>simp at hc
 |_=>simp[cCode]at hc
end
abbrev Za(V:Ctx)(l:Nat)(xs:List (List AV)):Prop:=∀(i:Nat){rid:Nat}{ops post:List AOp}{d:Option Nat}{g:Option (Nat×Bool)}{Q:AE->St->Prop}{e e1:Az}{h h1:Hp}{c:Nat}{vc:Prop}{x:Opd}{as:List Opd}{k:Nat}{args:List AV}{vt vf:Prop}{et ef:Az}{ht hf:Hp}{recs:List Rec}(_:ops[i]? =some ⟨d,g,.cv x as⟩)(_:ops.drop (i+1)=post)(_:O6 V.S (c+1) (100*rid) (ops.take i) e h=some (vc,e1,h1,recs))(_:nD ops i=true)(_:vc)(_:Ei e1 g=some true)(_:AJ true (AI e1 x)=.clo (.yield l) [] [])(_:lk e gs=CL k)(_:as.map (λx=>AJ true (AI e1 x))=args)(_:xs[k]? =some args)(_:Bg V.S (c+1) (100*rid+(i+1)) post (BV d (.v (.bool true)) ((gs,CL (k+1))::e1)) h1=some (vt,et,ht))(_:vt)(_:Q .n ⟨et,ht,c+1⟩)(_:Bg V.S (c+1) (100*rid+(i+1)) post (BV d (.v (.bool false)) ((gs,CL (-1))::e1)) h1=some (vf,ef,hf))(_:vf)(_:Q .n ⟨ef,hf,c+1⟩),Ax V (.drw rid ops []) Q ⟨e,h,c⟩
theorem XS{P:Program}{S:Tab}(hS:TabOK P S){f:Nat}{fn:Func}{c:AC}{fst cps:List AV}{xs:List (List AV)}(nt:Nat)(hf:P.funcs[f]? =some fn)(hc:Du P fn=some (c,[]))(hnt:fn.ntmps=nt)(hgs:nt<=gs)(hn:(fst++cps).length<nt)(h:∀(l:Nat) (V:Ctx),V.OK->V.S=S->P7 V l xs->Za V l xs->Ax V c (Cq xs.length) ⟨(gs,CL 0)::BQ 0 (fst++AV.clo (.yield l) [] []::cps),[],0⟩):T8 P f fst cps xs:=
 bT hS nt hf hc hnt hgs hn λl hb β evo hR=>h l _ (Ctx.it_ok hS) (Eq.refl _) (λi=>Pg hS hR i) λi {rid ops post d g Q e e1 h h1 c vc x as k args vt vf et ef ht hf recs} hyo hpost hex hl hvc hg hx hgh hargs hxs hxT hvT hQT hxF hvF hQF=>by
  subst hpost;refine Y9 hS hR i hyo rfl hex hl hvc hg hx hgh hargs hxs λb=>?_
  cases b with
  |true=>exact⟨vt,et,ht,hxT,hvT,hQT⟩
  |false=>exact⟨vf,ef,hf,hxF,hvF,hQF⟩
def Ctx.rdG(P:Program)(S:Tab)(nt l:Nat):Ctx:={P:=P,F:=Fence.wide.inRound l,S:=S,nt:=nt,hb:=(0,false),R:=Evo,G:=λ_ U=>∃r:Loop,U.w.heap[l]? =some (.loop r)/\¬U.M l/\U.w.heap[r.defers]? =some (.deferred (some []))/\¬U.M r.defers,ofE:=id,tr:=Evo.trans,g:=λ⟨r,h1,h2,h3,h4⟩ e _=>⟨r,(e.fro _ _ h1 h2).1,(e.fro _ _ h1 h2).2,(e.fro _ _ h3 h4).1,(e.fro _ _ h3 h4).2⟩}
theorem Ctx.rdG_ok{P:Program}{S:Tab}{nt l:Nat}(h:TabOK P S):(Ctx.rdG P S nt l).OK:=⟨h,.inr ⟨l,Eq.refl _⟩⟩
theorem AbG{P:Program}{S:Tab}{nt l:Nat}:(Ctx.rdG P S nt l).S=S:=rfl
attribute [go_sem] AbG
def TrL(xs:List AV):Prop:=∀(U σ':Cf),(∀b,Fz U b->(∃cs T f,U.w.heap[b]? =some (.cells cs T f))->Fz σ' b)->(∀b,Fz U b->σ'.w.heap[b]? =U.w.heap[b]?)->∀vs,RepL U xs vs->RepL σ' xs vs
theorem TrL.nil:TrL []:=λ_ _ _ _ _ h=>by simpa[RepL]using h
section
variable{P:Program}{S:Tab}{nt hbo:Nat}{H:RFix}{X:Type}{I:X->Hp×Nat}{Pre:X->Prop}{K:X->Nat}{Q:AE->St->Prop}
theorem RJ.rndG{ps:Array Nat}{assign body:Code}{fn:FuncId}{asg bdy:AC}{xs:List (List AV)}(hlp:H.lp=λst pe=>{state:=st,pending:=pe,fn:=fn,tmps:=H.a.tmps,params:=ps,assign:=assign,body:=body,defers:=H.D})(hca:cCode P nt assign=some asg)(hcb:cCode P nt body=some bdy)(hps:∀p∈ps.toList,p<nt)(hpure:∀args∈xs,AP args=true/\args.length=ps.toList.length)(hround:∀x,Pre x->∀args,xs[K x]? =some args->Ax (Ctx.rdG P S nt H.l) asg (BK (Ctx.rdG P S nt H.l) bdy (BD H.e I Pre K (K x+1) Q)) ⟨Jd ps.toList args H.e,(I x).1,(I x).2⟩)(hls:H.ss.w.heap.size<=H.l)(hDd:∀so si hp,Way H.ss so si->Inv so H.e hp H.a nt (hbo,false)->¬so.M H.D){k:Nat}{args:List AV}{si:Cf}{hpi:Hp}{vals:List Value}(h:RJ (Ctx.fn P S nt hbo) H I Pre K Q k si)(hi:HInv si hpi)(hxs:xs[k]? =some args)(hv:RepL si args vals):∃f tmps assign body,(Instr.yield H.l vals.toArray).run P si.w=.ok (.round H.l f tmps assign body) si.w/\RoundIn Fence.wide 0 P H.l f tmps assign body si.w λe w'=>∃(b:Bool)(σ':Cf),e=.returned (.bool b)/\σ'.w=w'/\Oth si σ'/\(∀(b:Nat)(o:Obj),¬si.O b->si.w.heap[b]? =some o->σ'.w.heap[b]? =some o/\¬σ'.O b)/\RJ (Ctx.fn P S nt hbo) H I Pre K Q (if b=true then k+1 else-1) σ':=by
 obtain⟨so,hp,cnt,st,pe,h1,h2,h3,h4,h8,h5,h6,h7⟩:=h;rcases h7 with⟨x,hx,hk,rfl,rfl,rfl,rfl⟩|⟨hk,_⟩
 ·have hk:K x=k:=by omega
  obtain⟨hpu,hlen⟩:=hpure args (sN hxs);have hvl:=Bs hv;have hDM:¬so.M H.D:=hDd so si _ h2 h3;have hdis:∀b,so.O b->b<so.w.heap.size/\¬so.M b:=λb hb=>⟨h3.h.ou b hb,λhM=>h3.h.dis b hM hb⟩
  have hv':RepL so args vals:=RepL.ofPure (U:=si) (σ':=so) (λb hb=>⟨λhm=>hb.2.1 ((h1.oi b).2 (.inl hm)),λho=>by
   rcases(h1.oo b).1 ho with g|g
   ·exact hb.2.1 ((h1.oi b).2 (.inr (.inl g)))
   ·exact hb.1 g.1,by rw[h1.w];exact hb.2.2⟩) (λ_ _=>by rw[h1.w]) args vals hpu hv
  have hy:=run_yield (P:=P) (args:=vals.toArray) (w:=si.w) (l:=H.l) (by rw[<-h1.w];exact h5) (by rw[hlp];simp at hlen⊢;omega);rw[hlp]at hy;refine⟨_,_,_,_,hy,?_⟩;have hT:=Pd (d':=[]) (U:=so) (ps:=ps.toList) (args:=args) (vals:=vals) (e:=H.e) (tmps:=H.a.tmps) (d:=H.a.defers) h3.t hv' hlen (λp hp=>by rw[h3.sz];exact hps p hp);have hfold:(ps.zip vals.toArray).foldl (λt (p,v)=>t.setIfInBounds p v) H.a.tmps=(ps.toList.zip vals).foldl (λt (p,v)=>t.setIfInBounds p v) H.a.tmps:=by rw[<-Array.foldl_toList];simp
  refine roundIn_of_wpIn (F:=Fence.wide) trivial ?_;rw[hfold,<-h1.w];have ha:=hround x hx args (by rw[hk];exact hxs) assign hca so {tmps:=_,defers:=[]} ⟨⟨h3.h,hT.1,by rw[hT.2];exact h3.sz,DOK.nil (tD _) h3.df.gl⟩,h4,⟨H.lp .ready none,h5,h8,by rw[hlp];exact h6,by rw[hlp];exact hDM⟩⟩;refine wpIn_mono ha ?_;rintro e a1 w1 ⟨s1,t1,e',rfl,ev1,at1,he,hq⟩;cases e with
  |normal=>
   simp[AE.of]at he;subst he;obtain⟨b1,b2⟩:=ev1.fro _ _ h5 h8;have dis1:∀b,s1.O b->b<s1.w.heap.size/\¬s1.M b:=λb hb=>⟨at1.1.h.ou b hb,λhM=>at1.1.h.dis b hM hb⟩
   obtain⟨s2,hs2,o2,r2,l2,k2⟩:=Jv (r':={H.lp .ready none with state:=.busy}) dis1 b2 b1;have m2:¬s2.M H.l:=by rw[o2.M];exact b2
   refine⟨s2.w,?_,?_⟩
   ·rw[hs2];exact run_beginRound b1 (by rw[hlp])
   have hDl:H.D≠H.l:=by intro e;rw[e,h5]at h6;simp at h6
   have hb:=hq body hcb s2 a1 ⟨⟨at1.1.h.oth o2,at1.1.t.ev o2.ev,at1.1.sz,at1.1.df.rd r2 b1 (.inl rfl)⟩,λm hm=>at1.2.1 m (by rw[o2.al]at hm;exact hm),⟨_,l2,m2,by rw[hlp];exact k2 _ _ hDl (ev1.fro _ _ h6 hDM).1,by rw[hlp,o2.M];exact(ev1.fro _ _ h6 hDM).2⟩⟩;refine wpIn_mono hb ?_;rintro e a3 w3 ⟨s3,t3,e',rfl,ev3,at3,he,hq3⟩;obtain⟨c1,c2⟩:=ev3.fro _ _ l2 m2;have fin:∀(jump:Option Code)(k':Int)(Z:Cf)(hp4:Hp)(cnt4:Nat),Evo s3 Z->Z.w=s3.w->HInv Z hp4->(∀m,Z.al m->m.2<=cnt4)->((∃x,Pre x/\(K x:Int)=k'/\(if jump.isNone then LoopState.ready else .done)=.ready/\jump=none/\hp4=(I x).1/\cnt4=(I x).2)\/(k'= -1/\∃c e',(if jump.isNone then LoopState.ready else .done)=.done/\jump=some c/\Su c e'/\Q e' ⟨H.e,hp4,cnt4⟩))->∃v w4,(Instr.endRound H.l jump).run P s3.w=.ok v w4/\v=.bool jump.isNone/\∃σ':Cf,σ'.w=w4/\Oth si σ'/\(∀(b:Nat)(o:Obj),¬si.O b->si.w.heap[b]? =some o->σ'.w.heap[b]? =some o/\¬σ'.O b)/\RJ (Ctx.fn P S nt hbo) H I Pre K Q k' σ':=by
    intro jump k' Z hp4 cnt4 eτ wτ hτ alτ h7';obtain⟨q1,q2⟩:=eτ.fro _ _ c1 c2;have disτ:∀b,Z.O b->b<Z.w.heap.size/\¬Z.M b:=λb hb=>⟨hτ.ou b hb,λhM=>hτ.dis b hM hb⟩
    obtain⟨s4,hs4,o4,r4,l4,_⟩:=Jv (r':=H.lp (if jump.isNone then LoopState.ready else .done) jump) disτ q2 q1;refine⟨_,s4.w,?_,rfl,?_⟩
    ·rw[hs4,wτ];have:=run_endRound (P:=P) jump c1;rw[hlp]at this⊢;exact this
    ·obtain⟨si',y1,y2,y3,y4⟩:=bV (V:=Ctx.fn P S nt hbo) (K:=K) (Pre:=Pre) (I:=I) (Q:=Q) h1 h2 h3 h8 h5 h6 hDM hi hls ((ev1.rd.trans r2).trans ((ev3.rd.trans eτ.rd).trans r4)) (hτ.oth o4) (by rw[o4.M];exact q2) l4 (λm hm=>alτ m (by rw[o4.al]at hm;exact hm)) h7';exact⟨si',y1,y2,y3,y4⟩
   cases e with
   |normal=>
    simp[AE.of]at he;subst he;obtain⟨x',p1,p2,p3⟩:=hq3;have hA:At (Ctx.fn P S nt 0) s3 ⟨H.e,t3.hp,t3.cnt⟩ H.a:=⟨⟨at3.1.h,h3.t.ev (((ev1.rd.trans r2).trans ev3.rd).ev c2 h5),h3.sz,DOK.rd (DOK.of rfl (λd hd=>by obtain⟨r,r1,_,r3⟩:=h3.df.all rfl d hd;exact⟨r,r1,tD _,r3⟩) (h3.df.nd rfl) (tD _) h3.df.gl) ((ev1.rd.trans r2).trans ev3.rd) h5 (.inl rfl)⟩,at3.2.1,trivial⟩
    obtain⟨Z,w1,e1,a1'⟩:=hA.le p3;obtain⟨v,w4,g1,rfl,σ',g3,g4,g5,g6⟩:=fin none (k+1) Z _ _ e1 w1 a1'.1.h a1'.2.1 (.inl ⟨x',p1,by omega,rfl,rfl,rfl,rfl⟩);exact⟨_,w4,g1,true,σ',rfl,g3,g4,λb o hb ho=>g5 b o hb (by rw[<-h1.w];exact ho),by simpa using g6⟩
   |ret=>simp[AE.of]at he;subst he;obtain⟨v,w4,g1,rfl,σ',g3,g4,g5,g6⟩:=fin (some .ret) (-1) s3 _ _ (Evo.refl s3) rfl at3.1.h at3.2.1 (.inr ⟨rfl,_,.r,rfl,rfl,.inl ⟨rfl,rfl⟩,hq3⟩);exact⟨_,w4,g1,false,σ',rfl,g3,g4,λb o hb ho=>g5 b o hb (by rw[<-h1.w];exact ho),by simpa using g6⟩
   |exit i=>simp[AE.of]at he;subst he;obtain⟨v,w4,g1,rfl,σ',g3,g4,g5,g6⟩:=fin (some (.exit i)) (-1) s3 _ _ (Evo.refl s3) rfl at3.1.h at3.2.1 (.inr ⟨rfl,_,.x i,rfl,rfl,.inr ⟨i,rfl,rfl⟩,hq3⟩);exact⟨_,w4,g1,false,σ',rfl,g3,g4,λb o hb ho=>g5 b o hb (by rw[<-h1.w];exact ho),by simpa using g6⟩
   |goto l=>simp[AE.of]at he
   |panic c=>obtain⟨v,rfl,rfl⟩:=AE.of_panic he;exact hq3.elim
   |outgrown=>simp[AE.of]at he
  |exit i=>simp[AE.of]at he;subst he;exact hq.elim
  |ret=>simp[AE.of]at he;subst he;exact hq.elim
  |goto l=>simp[AE.of]at he
  |panic c=>obtain⟨v,rfl,rfl⟩:=AE.of_panic he;exact hq.elim
  |outgrown=>simp[AE.of]at he
 ·omega
end
section
variable{P:Program}{S:Tab}{nt hbo:Nat}
theorem Ac6{X:Type}(I:X->Hp×Nat)(Pre:X->Prop)(K:X->Nat)(x0:X){f:Opd}{ps:List Nat}{asg bdy:AC}{Q:AE->St->Prop}{e:Az}{h:Hp}{c fi:Nat}{fst cps:List AV}{xs:List (List AV)}(hx:AJ true (AI e f)=.clo (.func fi) fst cps)(hit:T8 P fi fst cps xs)(hok:Dh P fi)(hpu:AP fst=true/\AP cps=true)(hps:∀p∈ps,p<nt)(hpure:∀args∈xs,AP args=true/\args.length=ps.length)(h0:Pre x0)(hk0:K x0=0)(hle:Le ⟨e,(I x0).1,(I x0).2⟩ ⟨e,h,c⟩)(round:∀l x,Pre x->∀args,xs[K x]? =some args->Ax (Ctx.rdG P S nt l) asg (BK (Ctx.rdG P S nt l) bdy (BD e I Pre K (K x+1) Q)) ⟨Jd ps args e,(I x).1,(I x).2⟩)(hend:∀x,Pre x->K x=xs.length->Q .n ⟨e,(I x).1,(I x).2⟩):Ax (Ctx.fn P S nt hbo) (.rfun f ps asg bdy) Q ⟨e,h,c⟩:=by
 intro code hc U a hA;cases code with
 |rangeFunc g ps' assign body=>
  simp only[cCode]at hc;split at hc
  ·rename_i x' y' hca hcb;simp at hc;obtain⟨rfl,rfl,rfl,rfl⟩:=hc;obtain⟨ss,w0,ev0,A0⟩:=hA.le hle;rw[<-w0];refine wpIn_mono (Q:=lift (Ctx.fn P S nt hbo) ss Q) ?_ λe a w k=>k.mono (Ctx.ofE _ ev0)
   have hX:=EO (g:=true) rfl A0.1.t g;rw[hx]at hX;simp only[Rep]at hX;obtain⟨fs,cs,hX,hf1,hc1⟩:=hX;refine wpIn_rangeFunc (F:=Fence.wide) λfn _=>?_
   let lp:LoopState->Option Code->Loop:=λst pe=>{state:=st,pending:=pe,fn:=fn,tmps:=a.tmps,params:=ps',assign:=assign,body:=body,defers:=ss.w.heap.size}
   let W1:World:=(ss.w.alloc (.deferred (some []))).alloc (.loop (lp .ready none))
   have hL1:W1.heap[ss.w.heap.size+1]? =some (.loop (lp .ready none)):=by have:=World.alloc_heap_new (ss.w.alloc (.deferred (some []))) (.loop (lp .ready none));rwa [World.size_alloc]at this
   have hsz1:W1.heap.size=ss.w.heap.size+2:=by simp[W1]
   have hkeep:∀(b:Nat)(o:Obj),ss.w.heap[b]? =some o->W1.heap[b]? =some o:=λb o hb=>by have hlt:=(dY.1 hb).1;rw[B8 (by simp;omega),B8 hlt];exact hb
   have hK1:W1.heap[ss.w.heap.size]? =some (.deferred (some [])):=by rw[B8 (by simp)];exact World.alloc_heap_new ss.w _
   let D:=ss.w.heap.size
   let l:=ss.w.heap.size+1
   let a0:Act:={a with defers:=[{target:=.collected D,args:=#[]}]++a.defers}
   let H:RFix:={O0:=ss.O,l:=l,D:=D,ss:=ss,e:=e,a:=a0,lp:=lp}
   let so:Cf:=ss.at W1
   have evs:Evo ss so:=Evo.at hkeep ⟨rfl,rfl⟩
   let si:Cf:={rb:=λ_=>0,ra:=λ_=>(none,0),M:=λ_=>False,O:=λb=>ss.M b\/ss.O b\/b=l\/b=D,ln:=λ_=>none,al:=λ_=>False,w:=W1}
   have hgsi:Gl si:=λb j hj=>by
    obtain⟨g1,g2⟩:=A0.1.df.gl b j hj;have g3:=(Gl.mono A0.1.df.gl evs b j hj).2;refine⟨⟨λh=>h,?_,?_⟩,g3⟩
    ·have:=g1.2.2;rintro(h|h|h|h)
     ·exact g1.1 h
     ·exact g1.2.1 h
     ·simp only[l]at h;omega
     ·simp only[D]at h;omega
    ·show b<W1.heap.size;have:=g1.2.2;omega
   have hdf:∀d∈H.a.defers,∃r,d={target:=.collected r,args:=#[]}/\(r<H.ss.w.heap.size\/r=H.D):=by
    intro d hd;simp only[H,a0,sF,pA,kC]at hd;rcases hd with rfl|hd
    ·exact⟨D,rfl,.inr rfl⟩
    ·obtain⟨r,r1,_,r3,_⟩:=A0.1.df.all rfl d hd;exact⟨r,r1,.inl (dY.1 r3).1⟩
   have nM:∀b,ss.w.heap.size<=b->¬ss.M b:=λb hb hm=>by have:=A0.1.h.lt b hm;omega
   have nO:∀b,ss.w.heap.size<=b->¬ss.O b:=λb hb hm=>by have:=A0.1.h.ou b hm;omega
   have hso:HInv so (I x0).1:=A0.1.h.at hkeep ⟨rfl,rfl⟩;have hsi:HInv si []:=⟨λ_=>rfl,λn j c h=>by simp[hl]at h,λn sz live rows d h=>by simp[hl]at h,by rintro p q b (⟨_,_,j,c,h⟩|⟨_,⟨_,_,_,h⟩,_⟩) _<;>simp[hl]at h,λb h=>h.elim,by grind,λb h=>h.elim⟩
   have hJ0:RJ (Ctx.fn P S nt hbo) H I Pre K Q 0 si:=by
    refine⟨so,(I x0).1,(I x0).2,.ready,none,⟨rfl,λb=>Iff.rfl,λb=>⟨.inl,λh=>h.elim id λh=>h.1.elim⟩,λb h=>h.elim,hsi.ou⟩,⟨evs.box,evs.arr,evs.fro,λ_ _ _ h=>h.elim,evs.sz,evs.io⟩,⟨hso,A0.1.t.mono evs,A0.1.sz,DOK.of rfl (λd hd=>?_) ?_ (rC A0.1.df.le evs.sz) (A0.1.df.gl.mono evs)⟩,A0.2.1,nM _ (Nat.le_succ _),hL1,hK1,.inl ⟨x0,h0,by simp[hk0],rfl,rfl,rfl,rfl⟩⟩
    ·simp only[H,a0,sF,pA,kC]at hd;rcases hd with rfl|hd
     ·exact⟨D,rfl,A0.1.df.le,hK1,nM _ (fW _),nO _ (fW _)⟩
     ·exact(A0.1.df.mono evs).all rfl d hd
    ·simp only[H,a0,sF,pA];refine vE.2 ⟨λd hd he=>?_,A0.1.df.nd rfl⟩;obtain⟨r,rfl,_,r3,_⟩:=A0.1.df.all rfl d hd;have:D=r:=by simpa using he
     have:=(dY.1 r3).1;omega
   have hDn:∀so si hp,Way H.ss so si->Inv so H.e hp H.a nt (hbo,false)->¬so.M H.D:=λso si hp _ h3=>by
    obtain⟨r,r1,_,_,r4,_⟩:=h3.df.all rfl {target:=.collected D,args:=#[]} (by simp[H,a0]);have:H.D=r:=by simpa using r1
    rw[this];exact r4
   have hR:Rng P Fence.wide l (ss.w.heap.size+2) xs (RJ (Ctx.fn P S nt hbo) H I Pre K Q):=
    {evo:=λhj ev=>hj.evo hdf ev
     oth:=λhj o hO hP=>hj.oth (hb:=ss.w.heap.size+2) (by simp only[H];omega) hdf o hO hP
     rnd:=λhj hi hxs hv=>RJ.rndG (H:=H) (fn:=fn) (ps:=ps') rfl hca hcb hps hpure (round l) (by simp only[H,l];omega) hDn hj hi hxs hv}
   have hvals:RepL si (fst++AV.clo (.yield l) [] []::cps) (fs++ .func (.yield l) #[] #[]::cs):=by
    have pu:∀ys vs,AP ys=true->RepL ss ys vs->RepL si ys vs:=λys vs hp hr=>by
     have h1:RepL so ys vs:=RepL.mono evs ys vs hr;refine RepL.ofPure (U:=ss) (σ':=si) (λb hb=>⟨λh=>h,?_,by show b<W1.heap.size;have:=hb.2.2;omega⟩) (λb hb=>?_) ys vs hp hr
     ·have:=hb.2.2;rintro(g|g|rfl|rfl)
      ·exact hb.1 g
      ·exact hb.2.1 g
      ·simp only[l]at this;omega
      ·simp only[D]at this;omega
     ·have:=iW hb.2.2;show W1.heap[b]? =_;rw[this];exact hkeep b _ this
    refine Ds (pu _ _ hpu.1 hf1) ?_;simp only[RepL];exact⟨_,_,rfl,by simp[Rep,RepL],pu _ _ hpu.2 hc1⟩
   refine⟨l,[{target:=.collected D,args:=#[]}],W1,{target:=.fn (.func fi) cs.toArray,args:=fs.toArray++#[.func (.yield l) #[] #[]]},W1,fi,(fs.toArray++#[.func (.yield l) #[] #[]])++cs.toArray,W1,run_enterLoop_outer _ _ _ _ _,?_,λ_ _=>trivial,?_,λh=>by simp[Fence.wide]at h,?_⟩
   ·have hy:Array.map a.eval #[.const (.func (.yield l) #[] #[])]=#[.func (.yield l) #[] #[]]:=by simp[Act.eval]
    simp only[resolve,rangeCall,hy,hX,Deferred.ofValue,Sem.run_pure]
   ·simp only[invoke];exact FS hok _ _
   have harr:(fs.toArray++#[.func (.yield l) #[] #[]])++cs.toArray=(fs++ .func (.yield l) #[] #[]::cs).toArray:=by apply Array.ext';simp
   rw[harr];refine(hit l (ss.w.heap.size+2) _ si _ hR hJ0 hsi (λ_ h=>h) hvals (by show _<=W1.heap.size;omega) hgsi).mono ?_;rintro en w' ⟨v,σ',rfl,rfl,hj⟩;have key:∀hp cnt st pe so2,Pair H.O0 H.l H.D so2 σ'->Way H.ss so2 σ'->Inv so2 H.e hp H.a nt (hbo,false)->(∀m,so2.al m->m.2<=cnt)->¬so2.M H.l->so2.w.heap[H.l]? =some (.loop (H.lp st pe))->st≠.busy->∃s5:Cf,(Instr.endLoop l).run P σ'.w=.ok pe s5.w/\Evo ss s5/\At (Ctx.fn P S nt hbo) s5 ⟨e,hp,cnt⟩ a0:=by
    intro hp cnt st pe so2 h1 h2 h3 h4 h8 h5 hb;have dis2:∀b,so2.O b->b<so2.w.heap.size/\¬so2.M b:=λb hb=>⟨h3.h.ou b hb,λhM=>h3.h.dis b hM hb⟩
    obtain⟨s4,hs4,o4,r4,l4,k4⟩:=Jv (r':={H.lp st pe with state:=.exhausted}) dis2 h8 h5;have hOs:∀b,ss.O b->s4.O b:=λb hb=>by rw[r4.out];exact(h1.oo b).2 (.inl hb)
    let s5:Cf:={s4 with O:=ss.O}
    have h4i:=h3.h.oth o4;have o5:Oth s4 s5:=⟨rfl,rfl,rfl,rfl,rfl,λb hb=>⟨h4i.ou b (hOs b hb),λhM=>h4i.dis b hM (hOs b hb),λhf=>hf.2.1 (hOs b hb)⟩,fW _,λ_ _=>rfl,λ_ _ _ _ h=>h,SameO.refl _⟩
    have df4:=h3.df.rd r4 h5 (.inl rfl);refine⟨s5,?_,⟨λn hn=>?_,λn hn l' hl'=>?_,λb o ho hm=>?_,rfl,rC h2.sz r4.sz,h2.io.trans r4.io⟩,⟨h4i.oth o5,(h3.t.ev o4.ev).ev o5.ev,h3.sz,DOK.of rfl (λd hd=>?_) (df4.nd rfl) df4.le (df4.gl.ev o5.ev)⟩,λm hm=>h4 m ?_,trivial⟩
    ·have:=run_endLoop (P:=P) (w:=so2.w) h5 hb;rw[h1.w]at this;show _=Result.ok pe s4.w;rw[hs4,this,h1.w]
    ·exact⟨(r4.box n (h2.box n hn).1).1,((r4.box n (h2.box n hn).1).2).trans (h2.box n hn).2⟩
    ·obtain⟨l1,g1,g2,g3⟩:=r4.arr n (h2.box n hn).1 l' hl';obtain⟨m,q1,q2,q3⟩:=h2.arr n hn l1 g1;refine⟨m,q1,rC q2 g2,λe=>?_⟩;have e1:m=l1:=by omega
     have e2:l1=l':=by omega
     exact(g3 e2).trans (q3 e1)
    ·obtain⟨g1,g2⟩:=h2.old b o ho hm;have hlt:=(dY.1 ho).1;exact r4.fro b o (by intro e;subst e;simp only[H,l]at hlt;omega) g1 g2
    ·obtain⟨r,r1,r2,r3,r4',r5⟩:=df4.all rfl d hd;exact⟨r,r1,r2,r3,r4',λh=>r5 (hOs r h)⟩
    ·have hm':s4.al m:=hm;rw[o4.al]at hm';exact hm'
   have inv:∀{k:Int},RJ (Ctx.fn P S nt hbo) H I Pre K Q k σ'->rangePost Fence.wide 0 P l (lift (Ctx.fn P S nt hbo) ss Q) a0 (.returned v) σ'.w\/False\/k≠xs.length/\k≠-1:=by
    intro k hj;obtain⟨so2,hp,cnt,st,pe,h1,h2,h3,h4,h8,h5,h6,h7⟩:=hj;rcases h7 with⟨x,hx,hk,rfl,rfl,rfl,rfl⟩|⟨hk,c',e',rfl,rfl,hjp,hq⟩
    ·by_cases hlen:K x=xs.length
     ·obtain⟨s5,g1,g2,g3⟩:=key _ _ _ _ so2 h1 h2 h3 h4 h8 h5 (by simp);exact .inl ⟨none,s5.w,g1,s5,_,.n,rfl,g2,g3,rfl,hend x hx hlen⟩
     ·exact .inr (.inr ⟨by omega,by omega⟩)
    ·obtain⟨s5,g1,g2,g3⟩:=key _ _ _ _ so2 h1 h2 h3 h4 h8 h5 (by simp);refine .inl ⟨some c',s5.w,g1,?_⟩;rcases hjp with⟨rfl,rfl⟩|⟨i,rfl,rfl⟩
     ·exact wpIn_ret ⟨s5,_,.r,rfl,g2,g3,rfl,hq⟩
     ·exact wpIn_exit ⟨s5,_,.x i,rfl,g2,g3,rfl,hq⟩
   rcases hj with hj|hj
   ·rcases inv hj with h|h|h
    ·exact h
    ·exact h.elim
    ·exact absurd rfl h.1
   ·rcases inv hj with h|h|h
    ·exact h
    ·exact h.elim
    ·exact absurd rfl h.2
  ·simp at hc
 |region id ops d=>obtain⟨_,_,⟨_,e⟩|⟨_,_,_,_,e⟩⟩:=Cc hc<;>cases e
 |seq x y=>simp only[cCode]at hc;split at hc<;>simp at hc
 |cond c x y=>simp only[cCode]at hc;split at hc<;>simp at hc
 |_=>simp[cCode]at hc
end
