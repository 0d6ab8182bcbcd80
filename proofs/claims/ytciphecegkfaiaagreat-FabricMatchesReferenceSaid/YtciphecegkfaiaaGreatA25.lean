import Derived.Test.YtciphecegkfaiaaGreatA21
set_option linter.unusedSimpArgs false
set_option linter.unusedVariables false
namespace Go.Proofs.YtciphecegkfaiaaGreat.Am
open Go
def rI{E:Type}(e:E->AV)(p:Int×E):List AV:=[.v (.int .i64 p.1),e p.2]
def Bg{E:Type}:List (Int×E)->Int->E->E
 |[],_,d=>d
 |p::r,k,d=>bif decide (p.1=k)then p.2 else Bg r k d
def FB{E:Type}:List (Int×E)->Int->Bool
 |[],_=>false
 |p::r,k=>decide (p.1=k)||FB r k
def Dk{E:Type}:List (Int×E)->Int->E->List (Int×E)
 |[],k,x=>[(k,x)]
 |p::r,k,x=>bif decide (p.1=k)then(p.1,x)::r else p::Dk r k x
theorem Vl{E:Type}{e:E->AV}:∀l:List (Int×E),L2 (l.map (rI e))=true
 |[]=>rfl
 |p::l=>by simp only[eZ,L2,List.all_cons,rI,kI,fD,Xi];exact Vl l
theorem O9{E:Type}{e:E->AV}{k:Int}{d:E}:∀l:List (Int×E),Hs (l.map (rI e)) k (e d)=e (Bg l k d)
 |[]=>rfl
 |p::l=>by
  simp only[eZ,rI,Hs,kI,yE,Bg];by_cases h:p.1=k
  ·simp[h]
  ·simp only[dJ h,tN];exact O9 l
theorem TC{E:Type}{e:E->AV}{k:Int}:∀l:List (Int×E),Jd (l.map (rI e)) k=FB l k
 |[]=>rfl
 |p::l=>by simp only[eZ,rI,Jd,kI,yE,FB];rw[TC l]
theorem Pa{E:Type}{e:E->AV}{k:Int}{x:E}:∀l:List (Int×E),F9 (l.map (rI e)) k (e x)=(Dk l k x).map (rI e)
 |[]=>rfl
 |p::l=>by
  simp only[eZ,rI,F9,kI,yE,Dk];by_cases h:p.1=k
  ·simp[h,rI]
  ·simp only[dJ h,tN,eZ,rI];rw[Pa l]
@[reducible] def eI(n:Int):AV:=.v (.int .i64 n)
@[reducible] def eB(b:Bool):AV:=.v (.bool b)
theorem rQ{k d:Int}(l:List (Int×Int)):Hs (l.map (rI eI)) k (.v (.int .i64 d))=.v (.int .i64 (Bg l k d)):=O9 (e:=eI) l
theorem rR{k:Int}{d:Bool}(l:List (Int×Bool)):Hs (l.map (rI eB)) k (.v (.bool d))=.v (.bool (Bg l k d)):=O9 (e:=eB) l
theorem rS{k d:Int}(l:List (Int×Int)):F9 (l.map (rI eI)) k (.v (.int .i64 d))=(Dk l k d).map (rI eI):=Pa (e:=eI) l
theorem rT{k:Int}{d:Bool}(l:List (Int×Bool)):F9 (l.map (rI eB)) k (.v (.bool d))=(Dk l k d).map (rI eB):=Pa (e:=eB) l
attribute [go_sem] Vl rQ rR TC rS rT
theorem HInv.oshr{U:Cf}{hp:Hp}(h:HInv U hp){O:Nat->Prop}(hO:∀b,O b->U.O b):Ev U {U with O:=O}/\HInv {U with O:=O} hp:=by
 have e:Ev U {U with O:=O}:=⟨λ_ h=>⟨h,rfl⟩,λ_ _ l h=>⟨l,h,fA _,λ_=>rfl⟩,λb hb=>⟨hb.1,λk=>hb.2.1 (hO b k),hb.2.2⟩,λ_ _ _ _ hc=>hc⟩
 exact⟨e,h.ln,λn j c hc=>(h.cel n j c hc).keepE e (h.cel n j c hc).2.1 rfl,λn sz live rows d hc=>(h.arr n sz live rows d hc).keepE e rfl λ_ _ _ _ _ _ hM=>⟨hM,rfl⟩,h.inj,h.lt,λb hb=>h.ou b (hO b hb),λb hb k=>h.dis b hb (hO b k)⟩
def ik:Nat:=1600000
@[reducible] def gI(b:Nat)(m:Nm)(fl:List Bool)(la:Nat):AV:=.gd false (.agg [.v (.int .i64 b),.mp m,.sl 0 true (fl.map λx=>[.v (.bool x)]) [],.v (.int .i64 la)])
theorem RP{b b':Nat}{m m':Nm}{fl fl':List Bool}{la la':Nat}(h:gI b m fl la=gI b' m' fl' la'):b=b'/\m=m'/\fl=fl'/\la=la':=by
 simp only[AV.gd.injEq,AV.agg.injEq,List.cons.injEq,AV.v.injEq,Value.int.injEq,AV.mp.injEq,AV.sl.injEq,true_and,and_true]at h;obtain⟨h1,h2,h3,h4⟩:=h;refine⟨by omega,h2,?_,by omega⟩;have:∀(l l':List Bool),(l.map λx=>[AV.v (.bool x)])=(l'.map λx=>[AV.v (.bool x)])->l=l':=by
  intro l;induction l with
  |nil=>intro l' h;cases l' with|nil=>rfl|cons _ _=>simp at h
  |cons x l ih=>
   intro l' h;cases l' with
   |nil=>simp at h
   |cons y l'=>simp only[eZ,List.cons.injEq,AV.v.injEq,Value.bool.injEq,and_true]at h;rw[h.1,ih l' h.2]
 exact this _ _ h3
structure II(U:Cf)(b:Nat)(m:Nm)(fl:List Bool)(la:Nat):Prop where
 o:U.O b/\¬U.M b
 al:U.al m
 it:∃seen:Array Nat,U.w.heap[b]? =some (.mapIter (some (U.rb m)) fl.length seen fl.length)/\(∀i,seen.contains i=fl.getD i false)/\((∃x,x∈fl/\x=true)->∃s2:Array Nat,seen=s2.push la/\la<fl.length)
theorem II.mono{U σ':Cf}{b:Nat}{m:Nm}{fl:List Bool}{la:Nat}(h:II U b m fl la)(e:Evo U σ'):II σ' b m fl la:=by obtain⟨seen,h1,h2,h3⟩:=h.it;obtain⟨g1,g2⟩:=e.fro b _ h1 h.o.2;obtain⟨k1,k2⟩:=e.box m h.al;exact⟨⟨by rw[e.out];exact h.o.1,g2⟩,k1,seen,by rw[k2];exact g1,h2,h3⟩
def Ctx.mi(P:Program)(S:Tab)(nt hb N:Nat)(hnt:nt<=ik):Ctx:={P:=P,F:=Fence.wide,S:=S,nt:=nt,hb:=(hb,false),R:=EvoB N (λ_=>False),G:=λe U=>N<=U.w.heap.size/\∀b m fl la,lk e ik=gI b m fl la->N<=b/\II U b m fl la,ofE:=Evo.evoB,tr:=EvoB.trans,g:=λ{U σ' e e'} h ev hl=>⟨s7 h.1 ev.sz,λb m fl la hb=>by
  rcases hl ik hnt with h1|h1
  ·rw[h1]at hb;cases hb
  ·exact⟨(h.2 b m fl la (h1.symm.trans hb)).1,(h.2 b m fl la (h1.symm.trans hb)).2.mono ev⟩⟩}
theorem Ctx.mi_ok{P:Program}{S:Tab}{nt hb N:Nat}{hnt:nt<=ik}(h:TabOK P S):(Ctx.mi P S nt hb N hnt).OK:=⟨h,.inl (Eq.refl _)⟩
theorem AcI{P:Program}{S:Tab}{nt hb N:Nat}{hnt:nt<=ik}:(Ctx.mi P S nt hb N hnt).S=S:=rfl
attribute [go_sem] AcI ik
theorem wG{P:Program}{S:Tab}{nt hb:Nat}(hnt:nt<=ik){c:AC}{Q:AE->St->Prop}{s:St}(h0:lk s.env ik=.un)(h:∀N,As (Ctx.mi P S nt hb N hnt) c Q s):As (Ctx.fn P S nt hb) c Q s:=by
 intro code hc U a hA;have hw:=h U.w.heap.size code hc U a ⟨hA.1,hA.2.1,fA _,λb m fl la hl=>by rw[h0]at hl;cases hl⟩;refine wpIn_mono hw ?_;rintro e a' w' ⟨σ',s',e',rfl,h2,h3,h4,h5⟩;have h2:EvoB U.w.heap.size (λ_=>False) U σ':=h2;obtain⟨ev,hI⟩:=h3.1.h.oshr (O:=U.O) h2.out;refine⟨{σ' with O:=U.O},s',e',rfl,?_,⟨⟨hI,h3.1.t.ev ev,h3.1.sz,?_⟩,h3.2.1,trivial⟩,h4,h5⟩
 ·exact⟨h2.ev.box,h2.ev.arr,λb o hb hM=>h2.old b (eY.1 hb).1 (λh=>h) o hb hM,rfl,h2.sz,h2.io⟩
 ·have hd:=h3.1.df;exact DOK.of rfl (λd hd'=>by obtain⟨r,r1,r2,r3,r4,r5⟩:=hd.all rfl d hd';exact⟨r,r1,r2,r3,r4,λk=>r5 (h2.out r k)⟩) (hd.nd rfl) hd.le (hd.gl.ev ev)
theorem wH{P:Program}{op:Op}{x:Opd}(h:AK.rng x=cK P op):∃t y k e,op=.range t y/\P.underlying t=some (.map k e)/\x=Aq y:=by
 cases op with
 |range t y=>
  simp only[cK]at h;split at h
  ·rename_i k e ht;simp only[AK.rng.injEq]at h;exact⟨t,y,k,e,rfl,ht,h⟩
  ·cases h
 |call c=>
  exfalso;simp only[cK,Jg]at h
  (repeat' (split at h))<;>cases h
 |_=>
  exfalso;simp only[cK,Iy,Fk,Kb,Kc,Kd,Ly,Ke]at h
  (repeat' (split at h))<;>cases h
theorem wI{P:Program}{op:Op}{x:Opd}(h:AK.nxt x=cK P op):∃y,op=.next y false/\x=Aq y:=by
 cases op with
 |next y b=>
  cases b with
  |false=>simp only[cK,AK.nxt.injEq]at h;exact⟨y,rfl,h⟩
  |true=>simp only[cK]at h;cases h
 |call c=>
  exfalso;simp only[cK,Jg]at h
  (repeat' (split at h))<;>cases h
 |_=>
  exfalso;simp only[cK,Iy,Fk,Kb,Kc,Kd,Ly,Ke]at h
  (repeat' (split at h))<;>cases h
theorem wJ{P:Program}{op:Op}{x:Opd}(h:AK.ent x=cK P op):∃y,op=.entry y/\x=Aq y:=by
 cases op with
 |entry y=>simp only[cK,AK.ent.injEq]at h;exact⟨y,rfl,h⟩
 |call c=>
  exfalso;simp only[cK,Jg]at h
  (repeat' (split at h))<;>cases h
 |_=>
  exfalso;simp only[cK,Iy,Fk,Kb,Kc,Kd,Ly,Ke]at h
  (repeat' (split at h))<;>cases h
theorem ST{E:Type}(rows:List E)(i:Nat):(rows.map λ_=>false).getD i false=false:=by rw[eT,qX];cases rows[i]? <;>rfl
theorem K5{U:Cf}:∀{rows:List (List AV)}{es:List MapEntry},RepEnts U rows es->es.length=rows.length
 |[],_,h=>by simp only[RepEnts]at h;subst h;rfl
 |_::rs,_,⟨e,es',h1,_,h3⟩=>by subst h1;simp[K5 h3]
theorem Nb{U:Cf}:∀{rows:List (List AV)}{es:List MapEntry},RepEnts U rows es->∀(j:Nat)(e:MapEntry),es[j]? =some e->∃r,rows[j]? =some r/\RepL U r [e.key,e.val]
 |[],_,h,j,e,he=>by simp only[RepEnts]at h;subst h;simp at he
 |r::rs,_,⟨e0,es',h1,h2,h3⟩,j,e,he=>by
  subst h1;cases j with
  |zero=>simp at he;subst he;exact⟨r,rfl,h2⟩
  |succ j=>simpa using Nb h3 j e (by simpa using he)
section
variable{P:Program}{S:Tab}{nt hb N:Nat}{hnt:nt<=ik}{rid:Nat}{ops:List AOp}{Q:AE->St->Prop}{e e1:Au}{h h1:Hp}{c:Nat}{vc:Prop}{d:Option Nat}{x0:Opd}{m:Nm}{rows:List (List AV)}
theorem rU(hS:TabOK P S)(i:Nat)(hyo:ops[i]? =some ⟨d,none,.rng x0⟩)(hex:Bm S (c+1) (100*rid) (ops.take i) e h=some (vc,e1,h1))(hvc:vc)(hx0:Aw true (Av e1 x0)=.mp m)(hm:hl h1 (.c m 0)=some (GX rows))(hQ:∀b:Nat,∃(vc2:Prop) (e2:Au) (h2:Hp),Bm S (c+1) (100*rid+(i+1)) (ops.drop (i+1)) (Ca d (.v (.pointer (some ⟨b,0,none⟩))) ((ik,gI b m (rows.map λ_=>false) 0)::e1)) h1=some (vc2,e2,h2)/\vc2/\Q .n ⟨e2,h2,c+1⟩):As (Ctx.mi P S nt hb N hnt) (.reg rid ops) Q ⟨e,h,c⟩:=by
 refine No (Ctx.mi_ok hS) (Eq.refl _) (gk:=ik) hnt (λe=>?_) i hyo hex hvc (Eq.refl _) (λx e=>by cases e) (λe=>by cases e) λo a1 σ1 hk hI hG=>?_
 ·have e':ik=nt+2000000:=e;unfold ik at e';omega
 obtain⟨t,y,k,e',ho,ht,rfl⟩:=wH hk;have hr:=Fl (g:=true) rfl hI.t y;rw[hx0]at hr;simp only[Rep]at hr;obtain⟨q1,q2,es,q3,q4,q5,q6⟩:=MapF.of hI.h hm;have hlen:=K5 q5;simp only[Ok]at hlen
 let ob:Obj:=.mapIter (some (σ1.rb m)) es.size #[] es.size
 refine .inl ⟨.pointer (some ⟨σ1.w.heap.size,0,none⟩),σ1.w.alloc ob,?_,?_⟩
 ·simp[execOp,ho,Instr.range,run_underlying ht,hr.2,MapKept.run_getObj_map q3,newObj,Sem.run,Result.andThen,ob]
 obtain⟨vc2,e2,h2,p1,p2,p3⟩:=hQ σ1.w.heap.size
 let σ2:Cf:={σ1 with O:=λx=>σ1.O x\/x=σ1.w.heap.size,w:=σ1.w.alloc ob}
 have hold:∀x,x<σ1.w.heap.size->σ2.w.heap[x]? =σ1.w.heap[x]? :=λx hx=>BV hx
 have hnew:σ2.w.heap[σ1.w.heap.size]? =some ob:=G1;have hsz:σ2.w.heap.size=σ1.w.heap.size+1:=by simp[σ2]
 have oth:Oth σ1 σ2:={
  rb:=rfl,ra:=rfl,ln:=rfl,al:=rfl,M:=rfl
  ou:=by
   rintro x (hx|rfl)
   ·exact⟨by have:=hI.h.ou x hx;omega,λhM=>hI.h.dis x hM hx,λhf=>hf.2.1 hx⟩
   ·exact⟨by omega,λhM=>absurd (hI.h.lt _ hM) (X0 _),λhf=>absurd hf.2.2 (X0 _)⟩
  sz:=by omega
  mem:=λx hx=>hold x (hI.h.lt x hx)
  fro:=λx o y hx hc=>by rw[cell_of_heap (hold x hx.2.2)];exact hc
  io:=⟨rfl,rfl⟩}
 refine⟨σ2,.agg [.v (.int .i64 σ1.w.heap.size),.mp m,.sl 0 true ((rows.map λ_=>false).map λx=>[.v (.bool x)]) [],.v (.int .i64 (0:Nat))],.v (.pointer (some ⟨σ1.w.heap.size,0,none⟩)),vc2,e2,h2,rfl,oth,?_,?_,?_,by simp[Rep],p1,p2,p3⟩
 ·intro m hm hO;have hlt:=(eY.1 hm).1;exact⟨(hold m hlt).trans hm,λh=>h.elim hO (λe=>absurd hlt (by omega))⟩
 ·exact⟨oth.ev,λx hx h1 o ho hM=>⟨(hold x (eY.1 ho).1).trans ho,hM⟩,λx hx=>.inl hx,by omega,⟨rfl,rfl⟩⟩
 ·refine⟨by have:=hG.1;omega,λb m' fl la hl=>?_⟩;have hl':gI σ1.w.heap.size m (rows.map λ_=>false) 0=gI b m' fl la:=by simpa[lk]using hl
  obtain⟨rfl,rfl,rfl,rfl⟩:=RP hl';refine⟨hG.1,⟨.inr rfl,λhM=>absurd (hI.h.lt _ hM) (X0 _)⟩,hr.1,#[],?_,λi=>?_,?_⟩
  ·rw[hnew];simp[ob,hlen,σ2]
  ·rw[ST];simp
  ·rintro⟨x,hx,rfl⟩;simp at hx
theorem rV(hS:TabOK P S)(i:Nat)(hyo:ops[i]? =some ⟨d,none,.nxt x0⟩)(hex:Bm S (c+1) (100*rid) (ops.take i) e h=some (vc,e1,h1))(hvc:vc){b la:Nat}{fl:List Bool}(hx0:Aw true (Av e1 x0)=.v (.pointer (some ⟨b,0,none⟩)))(hg:lk e1 ik=gI b m fl la)(hm:hl h1 (.c m 0)=some (GX rows))(hl0:rows.length=fl.length)(hQ0:(∀x∈fl,x=true)->∃(vc2:Prop) (e2:Au) (h2:Hp),Bm S (c+1) (100*rid+(i+1)) (ops.drop (i+1)) (Ca d (.tup [.v (.bool false)]) ((ik,gI b m fl la)::e1)) h1=some (vc2,e2,h2)/\vc2/\Q .n ⟨e2,h2,c+1⟩)(hQ1:∀(j:Nat) (k x:AV),fl[j]? =some false->rows[j]? =some [k,x]->∃(vc2:Prop) (e2:Au) (h2:Hp),Bm S (c+1) (100*rid+(i+1)) (ops.drop (i+1)) (Ca d (.tup [.v (.bool true),k,x]) ((ik,gI b m (fl.set j true) j)::e1)) h1=some (vc2,e2,h2)/\vc2/\Q .n ⟨e2,h2,c+1⟩):As (Ctx.mi P S nt hb N hnt) (.reg rid ops) Q ⟨e,h,c⟩:=by
 refine No (Ctx.mi_ok hS) (Eq.refl _) (gk:=ik) hnt (λe=>?_) i hyo hex hvc (Eq.refl _) (λx e=>by cases e) (λe=>by cases e) λo a1 σ1 hk hI hG=>?_
 ·have e':ik=nt+2000000:=e;unfold ik at e';omega
 obtain⟨y,ho,rfl⟩:=wI hk;have hr:=Fl (g:=true) rfl hI.t y;rw[hx0]at hr;simp only[Rep]at hr;obtain⟨q1,q2,es,q3,q4,q5,q6⟩:=MapF.of hI.h hm;have hlen:=K5 q5;simp only[Ok]at hlen;obtain⟨hNb,ii⟩:=hG.2 b m fl la hg;obtain⟨seen,i1,i2,i3⟩:=ii.it;have hes:es.size=fl.length:=by omega
 have hborn:∀x∈es.toList,∃j,es[j]? =some x/\x.born=j/\j<fl.length:=λx hx=>by
  obtain⟨j,hj⟩:=List.mem_iff_getElem?.1 hx;have hj':es[j]? =some x:=by simpa using hj
  exact⟨j,hj',q6 j x hj',by have:=(eY.1 hj').1;omega⟩
 have q3':σ1.w.heap[σ1.rb m]? =some (.map es fl.length):=by rw[<-hes];exact q3
 rcases run_next_at (P:=P) σ1.w o.type b (σ1.rb m) fl.length fl.length seen es fl.length i1 q3' (λx hx=>by obtain⟨j,_,h2,h3⟩:=hborn x hx;omega) (fA _)with⟨n1,n2⟩|⟨en,n1,w1,n2,n3⟩
 ·have hall:∀x∈fl,x=true:=by
   intro x hx;obtain⟨j,hj⟩:=List.mem_iff_getElem?.1 hx;have hjl:=(i5.1 hj).1;have he:es[j]? =some es[j]:=fC (by omega);have hb:=q6 j _ he;cases hx':x with
   |true=>rfl
   |false=>
    exfalso;have hc:seen.contains j=false:=by rw[i2,eT,hj,hx'];rfl
    have:es[j]∈leftOf es seen:=by unfold leftOf;rw[Array.mem_filter];exact⟨Array.getElem_mem _,by rw[hb,hc];rfl⟩
    have hpos:=Array.size_pos_of_mem this;omega
  obtain⟨vc2,e2,h2,p1,p2,p3⟩:=hQ0 hall;refine .inl ⟨.tuple #[.bool false],σ1.w,by(have n2':(Instr.next (.pointer (some ⟨b,0,none⟩)) false o.type).run (Ctx.mi P S nt hb N hnt).P σ1.w=_:=n2);simp[execOp,ho,hr,n2',Result.andThen],σ1,_,.tup [.v (.bool false)],vc2,e2,h2,rfl,Oth.refl λx hx=>⟨hI.h.ou x hx,λhM=>hI.h.dis x hM hx⟩,λm' hm' hO=>⟨hm',hO⟩,EvoB.trans (Evo.refl σ1).evoB (Evo.refl σ1).evoB,⟨hG.1,λb' m' fl' la' hl'=>?_⟩,?_,p1,p2,p3⟩
  ·have hl2:gI b m fl la=gI b' m' fl' la':=by simpa[lk]using hl'
   obtain⟨rfl,rfl,rfl,rfl⟩:=RP hl2;exact⟨hNb,ii⟩
  ·simp only[Rep];exact⟨[.bool false],rfl,_,_,rfl,by simp[Rep],rfl⟩
 ·have hmem:=mem_left n1;obtain⟨j,j1,j2,j3⟩:=hborn en hmem.1;obtain⟨r,r1,r2⟩:=Nb q5 j en (by simpa using j1);have hfl:fl[j]? =some false:=by have:=hmem.2;rw[j2,i2,eT]at this;rw[eV j3]at this⊢;simpa using this
  have hr2:∃k x,r=[k,x]:=by
   have:=BD r2
   match r,this with
   |[k,x],_=>exact⟨k,x,rfl⟩
  obtain⟨k,x,rfl⟩:=hr2;obtain⟨vc2,e2,h2,p1,p2,p3⟩:=hQ1 j k x hfl r1
  let ob:Obj:=.mapIter (some (σ1.rb m)) fl.length (seen.push en.born) fl.length
  have hw1:w1.heap=σ1.w.heap/\SameO σ1.w w1:=by rcases n2 with rfl|rfl<;>exact⟨rfl,rfl,rfl⟩
  let σ2:Cf:={σ1 with w:=ChangeMaps.setBlock w1 b ob}
  have hbl:=(eY.1 i1).1;have hold:∀x,x≠b->σ2.w.heap[x]? =σ1.w.heap[x]? :=λx hx=>by simp[σ2,ChangeMaps.setBlock,hw1.1,Ss hx]
  have hnew:σ2.w.heap[b]? =some ob:=by simp[σ2,ChangeMaps.setBlock,hw1.1,hbl]
  have hsz:σ2.w.heap.size=σ1.w.heap.size:=by simp[σ2,ChangeMaps.setBlock,hw1.1]
  have io:SameO σ1.w σ2.w:=hw1.2;have oth:Oth σ1 σ2:={
   rb:=rfl,ra:=rfl,ln:=rfl,al:=rfl,M:=rfl
   ou:=λx hx=>⟨by have:=hI.h.ou x hx;omega,λhM=>hI.h.dis x hM hx,λhf=>hf.2.1 hx⟩
   sz:=by omega
   mem:=λx hx=>hold x λe=>ii.o.2 (e▸hx)
   fro:=λx o y hx hc=>by rw[cell_of_heap (hold x λe=>hx.2.1 (e▸ii.o.1))];exact hc
   io:=io}
  refine .inl ⟨.tuple #[.bool true,en.key,en.val],σ2.w,by(have n3':(Instr.next (.pointer (some ⟨b,0,none⟩)) false o.type).run (Ctx.mi P S nt hb N hnt).P σ1.w=_:=n3);simp[execOp,ho,hr,n3',Result.andThen,σ2,ob],σ2,_,.tup [.v (.bool true),k,x],vc2,e2,h2,rfl,oth,λm' hm' hO=>?_,?_,⟨by have:=hG.1;omega,λb' m' fl' la' hl'=>?_⟩,?_,p1,p2,p3⟩
  ·have hne:m'≠b:=λe=>by rw[e,i1]at hm';cases hm'
   exact⟨(hold m' hne).trans hm',hO⟩
  ·refine⟨oth.ev,λx hx h1 o ho hM=>?_,λx hx=>hx,by omega,io⟩;by_cases hxb:x=b
   ·subst hxb;exact absurd hx (by omega)
   ·exact⟨(hold x hxb).trans ho,hM⟩
  ·have hl2:gI b m (fl.set j true) j=gI b' m' fl' la':=by simpa[lk]using hl'
   obtain⟨rfl,rfl,rfl,rfl⟩:=RP hl2;refine⟨hNb,ii.o,ii.al,seen.push en.born,?_,λi=>?_,λ_=>⟨seen,by rw[j2],by simpa using j3⟩⟩
   ·rw[hnew];simp[ob,σ2]
   ·rw[Array.contains_push,i2,j2];by_cases hij:i=j
    ·subst hij;simp[eT,List.getElem?_set_self j3]
    ·have:(i==j)=false:=by simpa using hij
     rw[this,Bool.or_false];simp[eT,List.getElem?_set_ne (Ss hij)]
  ·simp only[RepL,List.cons.injEq]at r2;obtain⟨y1,ys1,⟨rfl,rfl⟩,g1,y2,ys2,⟨rfl,_⟩,g2,_⟩:=r2;simp only[Rep];exact⟨[.bool true,en.key,en.val],rfl,_,_,rfl,by simp[Rep],_,_,rfl,g1.monoE oth.ev,_,_,rfl,g2.monoE oth.ev,rfl⟩
theorem rW(hS:TabOK P S)(i:Nat)(hyo:ops[i]? =some ⟨d,none,.ent x0⟩)(hex:Bm S (c+1) (100*rid) (ops.take i) e h=some (vc,e1,h1))(hvc:vc){b j:Nat}{fl:List Bool}(hx0:Aw true (Av e1 x0)=.v (.pointer (some ⟨b,0,none⟩)))(hg:lk e1 ik=gI b m fl j)(hm:hl h1 (.c m 0)=some (GX rows))(hl0:rows.length=fl.length){k x:AV}(hj:rows[j]? =some [k,x])(hf:fl[j]? =some true)(hQ:∃(vc2:Prop) (e2:Au) (h2:Hp),Bm S (c+1) (100*rid+(i+1)) (ops.drop (i+1)) (Ca d (.tup [k,x]) ((ik,gI b m fl j)::e1)) h1=some (vc2,e2,h2)/\vc2/\Q .n ⟨e2,h2,c+1⟩):As (Ctx.mi P S nt hb N hnt) (.reg rid ops) Q ⟨e,h,c⟩:=by
 refine No (Ctx.mi_ok hS) (Eq.refl _) (gk:=ik) hnt (λe=>?_) i hyo hex hvc (Eq.refl _) (λx e=>by cases e) (λe=>by cases e) λo a1 σ1 hk hI hG=>?_
 ·have e':ik=nt+2000000:=e;unfold ik at e';omega
 obtain⟨y,ho,rfl⟩:=wJ hk;have hr:=Fl (g:=true) rfl hI.t y;rw[hx0]at hr;simp only[Rep]at hr;obtain⟨q1,q2,es,q3,q4,q5,q6⟩:=MapF.of hI.h hm;have hlen:=K5 q5;simp only[Ok]at hlen;obtain⟨hNb,ii⟩:=hG.2 b m fl j hg;obtain⟨seen,i1,i2,i3⟩:=ii.it;obtain⟨s2,rfl,hjl⟩:=i3 ⟨true,tU hf,rfl⟩;have hes:es.size=fl.length:=by omega
 have he:es[j]? =some es[j]:=fC (by omega);have hbn:=q6 j _ he;obtain⟨r,r1,r2⟩:=Nb q5 j es[j] (by rw[Array.getElem?_toList];exact he);rw[hj]at r1;cases r1
 have q3':σ1.w.heap[σ1.rb m]? =some (.map es fl.length):=by rw[<-hes];exact q3
 have hnd:(es.toList.map (·.born)).Nodup:=by
  have:es.toList.map (·.born)=List.range es.size:=by
   apply List.ext_getElem?;intro i;rw[qX,Array.getElem?_toList];rcases VN i es.size with h|h
   ·rw[fC h,List.getElem?_range h];simp[q6 i _ (fC h)]
   ·rw[Array.getElem?_eq_none h,List.getElem?_eq_none (by rw[List.length_range];exact h)];rfl
  rw[this];exact List.nodup_range
 have n2:(Instr.entry (.pointer (some ⟨b,0,none⟩))).run (Ctx.mi P S nt hb N hnt).P σ1.w=.ok (.tuple #[es[j].key,es[j].val]) σ1.w:=run_entry_at (P:=P) σ1.w b (σ1.rb m) fl.length s2 es fl.length es[j] (by rw[hbn];exact i1) q3' (by simp) hnd;obtain⟨vc2,e2,h2,p1,p2,p3⟩:=hQ;refine .inl ⟨.tuple #[es[j].key,es[j].val],σ1.w,by simp[execOp,ho,hr,n2,Result.andThen],σ1,_,.tup [k,x],vc2,e2,h2,rfl,Oth.refl λx hx=>⟨hI.h.ou x hx,λhM=>hI.h.dis x hM hx⟩,λm' hm' hO=>⟨hm',hO⟩,(Evo.refl σ1).evoB,⟨hG.1,λb' m' fl' la' hl'=>?_⟩,?_,p1,p2,p3⟩
 ·have hl2:gI b m fl j=gI b' m' fl' la':=by simpa[lk]using hl'
  obtain⟨rfl,rfl,rfl,rfl⟩:=RP hl2;exact⟨hNb,ii⟩
 ·simp only[Rep];exact⟨[es[j].key,es[j].val],rfl,r2⟩
end
mutual
theorem RQ{U Z:Cf}:∀(x:AV)(v v':Value),Rep U x v->Rep Z x v'->Rep {Z with al:=U.al} x v'
 |.v _,_,_,_,h=>by simpa[Rep]using h
 |.sl a b c d,_,_,_,h=>Rep.ofPure (U:=Z) (σ':={Z with al:=U.al}) (λb hb=>hb) (λ_ _=>rfl) (.sl a b c d) _ rfl h
 |.ro a b,_,_,_,h=>Rep.ofPure (U:=Z) (σ':={Z with al:=U.al}) (λb hb=>hb) (λ_ _=>rfl) (.ro a b) _ rfl h
 |.agg cs,_,_,k,h=>by simp only[Rep]at h k⊢;obtain⟨ys,k1,k2,k3⟩:=k;obtain⟨xs,h1,h2,h3⟩:=h;exact⟨xs,h1,h2,LX cs ys xs k3 h3⟩
 |.tup cs,_,_,k,h=>by simp only[Rep]at h k⊢;obtain⟨ys,k1,k3⟩:=k;obtain⟨xs,h1,h3⟩:=h;exact⟨xs,h1,LX cs ys xs k3 h3⟩
 |.clo f cs bs,_,_,k,h=>by simp only[Rep]at h k⊢;obtain⟨ys,zs,k1,k2,k3⟩:=k;obtain⟨xs,us,h1,h2,h3⟩:=h;exact⟨xs,us,h1,LX cs ys xs k2 h2,LX bs zs us k3 h3⟩
 |.box n o,_,_,k,h=>by simp only[Rep]at h k⊢;exact⟨k.1,h.2⟩
 |.own n l,_,_,k,h=>by simp only[Rep]at h k⊢;exact⟨k.1,h.2⟩
 |.elem _ _ _ _ _,_,_,k,h=>by simp only[Rep]at h k⊢;exact⟨k.1,h.2⟩
 |.mp _,_,_,k,h=>by simp only[Rep]at h k⊢;exact⟨k.1,h.2⟩
 |.gd b x,v,v',k,h=>by simp only[Rep]at h k⊢;exact⟨λhb=>RQ x v v' (k.1 hb) (h.1 hb),h.2⟩
 |.un,_,_,_,_=>by simp[Rep]
theorem LX{U Z:Cf}:∀(xs:List AV)(vs vs':List Value),RepL U xs vs->RepL Z xs vs'->RepL {Z with al:=U.al} xs vs'
 |[],_,_,_,h=>by simpa[RepL]using h
 |x::xs,_,_,k,h=>by simp only[RepL]at h k⊢;obtain⟨y,ys,_,k2,k3⟩:=k;obtain⟨z,zs,h1,h2,h3⟩:=h;exact⟨z,zs,h1,RQ x y z k2 h2,LX xs ys zs k3 h3⟩
end
theorem RR{U Z:Cf}{sz b:Nat}:∀{rows:List (List AV)}{o:Nat}{b' o':Nat},RepRows U sz b' o' rows->RepRows Z sz b o rows->RepRows {Z with al:=U.al} sz b o rows
 |[],_,_,_,_,_=>by simp[RepRows]
 |r::rs,o,b',o',k,h=>by simp only[RepRows]at h k⊢;refine⟨h.1,Fw λj c hc=>?_,RR k.2.2 h.2.2⟩;obtain⟨y,k1,k2,k3⟩:=G6 k.2.1 j c hc;obtain⟨x,h1,h2,h3⟩:=G6 h.2.1 j c hc;exact⟨x,h1,h2,RQ c y x k3 h3⟩
theorem RS{U Z:Cf}:∀{rows:List (List AV)}{es es':List MapEntry},RepEnts U rows es->RepEnts Z rows es'->RepEnts {Z with al:=U.al} rows es'
 |[],_,_,_,h=>h
 |r::rs,_,_,⟨e,es,k1,k2,k3⟩,⟨e',es',h1,h2,h3⟩=>⟨e',es',h1,LX _ _ _ k2 h2,RS k3 h3⟩
theorem HInv.fgt{U Z:Cf}{hp:Hp}(h:HInv U hp)(k:HInv Z hp):HInv {Z with al:=U.al} hp where
 ln:=k.ln
 cel n j c hc:=by
  obtain⟨h1,h2,h3⟩:=h.cel n j c hc;obtain⟨k1,k2,k3⟩:=k.cel n j c hc;refine⟨h1,k2,?_⟩;rcases k3 with⟨cs,T,x,g1,g2,g3,g4⟩|⟨rows,es,g1,g2,g3,g4,g5⟩
  ·refine .inl ⟨cs,T,x,g1,g2,g3,?_⟩;rcases h3 with⟨_,_,y,_,_,_,q4⟩|⟨rows,es,q1,_⟩
   ·exact RQ c y x q4 g4
   ·rw[q1.1]at g4⊢;simp only[Rep]at g4⊢;refine⟨λe=>?_,g4.2⟩;cases e
  ·refine .inr ⟨rows,es,g1,g2,g3,?_,g5⟩;rcases h3 with⟨_,_,y,_,_,q3,q4⟩|⟨rows',es',q1,_,_,q4,_⟩
   ·rw[g1.1]at q4;simp only[Rep]at q4;have:=q4.2 trivial;subst this;simp[undef,Bs]at q3
   ·have:=q1.1.symm.trans g1.1;simp only[AV.gd.injEq,AV.sl.injEq,true_and,and_true]at this;subst this;exact RS q4 g4
 arr n sz live rows d hn:=by
  obtain⟨h1,h2,h3,h4⟩:=h.arr n sz live rows d hn;obtain⟨k1,k2,k3,k4⟩:=k.arr n sz live rows d hn;refine⟨h1,k2,k3,?_⟩;rcases k4 with⟨a,g1,g2⟩|⟨b,o,cap,g1,g2,g3,g4,g5,g6⟩
  ·exact .inl ⟨a,g1,g2⟩
  ·refine .inr ⟨b,o,cap,g1,g2,g3,?_,g5,λe=>g6 e⟩;rcases h4 with⟨_,_,rfl⟩|⟨b',o',_,_,_,_,q4,_⟩
   ·simp[RepRows]
   ·exact RR q4 g4
 inj p q b hp hq:=k.inj p q b hp hq
 lt:=k.lt
 ou:=k.ou
 dis:=k.dis
theorem kG{P:Program}{S:Tab}(hS:TabOK P S){f:Nat}(x:FnX P f){args vs:List AV}{r:AV}(hfl:GQ r=true)(hn:args.length<=x.nt)(h:∀hb hp cnt,args.map (qv hp)=vs->As (Ctx.fn P S x.nt hb) x.c (BJ x.rv λr' s=>wk r' r/\s.hp=hp) ⟨CK 0 args,hp,cnt⟩):Rz P f args vs r:=by intro U hp xs gl hI hal hx hv;obtain⟨cnt,hal⟩:=hal;refine callsIn_wide.1 ((Of hS x.hf x.hc x.hn hn gl hI hal hx (h _ hp cnt hv)).mono ?_);rintro en w' ⟨v,Z,s,r',rfl,rfl,e,g1,g2,g3,g4,rfl⟩;refine⟨v,{Z with al:=U.al},rfl,rfl,⟨λn hn=>⟨hn,(e.box n hn).2⟩,e.arr,e.fro,e.out,e.sz,e.io⟩,hI.fgt g1,λm hm=>hm,If r v hfl (IY r' r v g4 g3)⟩
def Nc(l:List (Nat×Spec))(q:Nat->List AV->List AV->Option (Prop×AV)):Tab:=⟨Kl l,false,false,R2,XO,q⟩
theorem wK(l q):(Nc l q).f=Kl l:=rfl
theorem wL(l q):(Nc l q).w=false:=rfl
theorem wM(l q):(Nc l q).m=false:=rfl
theorem wN(l q):(Nc l q).e=R2:=rfl
theorem wO(l q):(Nc l q).p=XO:=rfl
theorem wP(l q):(Nc l q).q=q:=rfl
theorem XF{P:Program}{l:List (Nat×Spec)}{q:Nat->List AV->List AV->Option (Prop×AV)}(h:TabOK P (HA l))(hq:∀f args vs vc r,q f args vs=some (vc,r)->vc->FU P f/\Rz P f args vs r):TabOK P (Nc l q):=⟨h.f,h.e,h.p,hq⟩
attribute [go_sem] wK wL wM wN wO wP
theorem HInv.ren{U:Cf}{hp:Hp}(h:HInv U hp){n m:Nm}(hm:¬U.al m){sz:Nat}{rows rows':List (List AV)}{d:List AV}(hn:hl hp (.a n)=some (.sl sz true rows d))(hlen:rows'.length=rows.length)(hpu:∀r∈rows',AS r=true)(hrep:∀b o cap,U.ra n=(some ⟨b,o,none⟩,cap)->RepRows U sz b o rows'):HInv (U.move n m rows.length) ((.a m,.sl sz true rows' d)::(.a n,.un)::hp):=by
 have ev:=Evo.move (n:=n) (k:=rows.length) hm;have hA:=h.arr n sz true rows d hn;have hnm:n≠m:=by rintro rfl;exact hm hA.1
 have hc:∀p j,hl ((.a m,.sl sz true rows' d)::(.a n,.un)::hp) (.c p j)=hl hp (.c p j):=λp j=>by simp only[hl];rw[eW (by intro e;cases e),eW (by intro e;cases e)]
 have ha:∀p,hl ((.a m,.sl sz true rows' d)::(.a n,.un)::hp) (.a p)=if p=m then some (.sl sz true rows' d)else if p=n then some .un else hl hp (.a p):=λp=>by
  simp only[hl,Loc.a.injEq];by_cases e:p=m
  ·subst e;simp
  ·rw[eW (λh=>e h.symm),eW e];by_cases e2:p=n
   ·subst e2;simp
   ·rw[eW (λh=>e2 h.symm),eW e2]
 refine⟨λp=>?_,λp j c hh=>?_,λp sz' live' rows2 d' hh=>?_,λp q b hp' hq'=>?_,h.lt,h.ou,h.dis⟩
 ·unfold lenOf;rw[ha];simp only[Cf.move];by_cases e:p=m
  ·rw[eX e,eX e];simp[hlen]
  ·rw[eW e,eW e];by_cases e2:p=n
   ·rw[eX e2,eX e2]
   ·rw[eW e2,eW e2];exact h.ln p
 ·rw[hc]at hh;have q:=h.cel p j c hh;exact q.keep ev q.2.1 rfl
 ·rw[ha]at hh;by_cases e:p=m
  ·subst e;rw[eX rfl]at hh;cases hh
   obtain⟨q1,q2,q3,q4⟩:=hA;refine⟨.inr rfl,q2,λ_=>hpu,?_⟩;rcases q4 with⟨a,g1,rfl⟩|⟨b,o,cap,g1,g2,g3,g4,g5,g6⟩
   ·exact .inl ⟨a,by simp[Cf.move,g1],zY (by simpa using hlen)⟩
   ·exact .inr ⟨b,o,cap,by simp[Cf.move,g1],g2,by rw[hlen];exact g3,(hrep b o cap g1).keep ev λj x _ hx=>hx,g5,λe=>by cases e⟩
  ·rw[eW e]at hh;by_cases e2:p=n
   ·rw[eX e2]at hh;cases hh
   ·rw[eW e2]at hh;exact(h.arr p sz' live' rows2 d' hh).keep ev (by simp[Cf.move,e]) λ_ _ _ _ _ _ hM=>⟨hM,rfl⟩
 ·have key:∀p b,Owns (U.move n m rows.length) ((.a m,.sl sz true rows' d)::(.a n,.un)::hp) p b->(p=(true,m)/\Owns U hp (true,n) b)\/(p≠(true,m)/\p≠(true,n)/\Owns U hp p b):=by
   rintro⟨f,p⟩ b (⟨h1,h2,j,c,h3⟩|⟨h1,⟨sz',rows2,d',h2⟩,o,cap,h3,h4⟩)
   ·simp only at h1 h2 h3;subst h1;rw[hc]at h3;exact .inr ⟨by simp,by simp,.inl ⟨rfl,h2,j,c,h3⟩⟩
   ·simp only at h1 h2 h3;subst h1;rw[ha]at h2;by_cases e:p=m
    ·subst e;exact .inl ⟨rfl,.inr ⟨rfl,⟨_,_,_,hn⟩,o,cap,by simpa[Cf.move]using h3,h4⟩⟩
    ·rw[eW e]at h2;by_cases e2:p=n
     ·rw[eX e2]at h2;cases h2
     ·rw[eW e2]at h2;exact .inr ⟨by simp[e],by simp[e2],.inr ⟨rfl,⟨_,_,_,h2⟩,o,cap,by simpa[Cf.move,e]using h3,h4⟩⟩
  rcases key p b hp' with⟨rfl,a1⟩|⟨a0,a2,a1⟩<;>rcases key q b hq' with⟨rfl,b1⟩|⟨b0,b2,b1⟩
  ·rfl
  ·exact absurd (h.inj _ _ _ a1 b1).symm b2
  ·exact absurd (h.inj _ _ _ a1 b1) a2
  ·exact h.inj _ _ _ a1 b1
theorem Vm{hp:Hp}:∀{cs:List AV},EY hp cs->∀(j:Nat)(c:AV),cs[j]? =some c->Hj hp c
 |[],_,j,c,h=>by simp at h
 |x::xs,hv,0,c,h=>by simp only[EY]at hv;simp at h;subst h;exact hv.1
 |x::xs,hv,j+1,c,h=>by simp only[EY]at hv;exact Vm hv.2 j c (by simpa using h)
theorem Vn:∀{cs:List AV},Gc cs=true->∀(j:Nat)(c:AV),cs[j]? =some c->K9 c=true
 |[],_,j,c,h=>by simp at h
 |x::xs,hv,0,c,h=>by simp only[Gc,lP]at hv;simp at h;subst h;exact hv.1
 |x::xs,hv,j+1,c,h=>by simp only[Gc,lP]at hv;exact Vn hv.2 j c (by simpa using h)
theorem Vo:∀{cs:List AV}(j:Nat)(c:AV),cs[j]? =some c->∀n∈FT c,n∈Cu cs
 |[],j,c,h,_,_=>by simp at h
 |x::xs,0,c,h,n,hn=>by simp at h;subst h;simp only[Cu,lO];exact .inl hn
 |x::xs,j+1,c,h,n,hn=>by simp only[Cu,lO];exact .inr (Vo j c (by simpa using h) n hn)
theorem Vp{hp:Hp}(cs:List AV):Fd hp cs=cs.map (res hp):=by
 induction cs with
 |nil=>rfl
 |cons c cs ih=>rw[Fd,ih,eZ]
theorem kH{V:Ctx}(kn t:Nat)(L:List Nm){n:Nm}{l sz:Nat}{rows rows':List (List AV)}{d:List AV}{x:AC}{Q:AE->St->Prop}{e:Au}{h:Hp}{c:Nat}(ht:t<V.nt)(he:lk e t=.own n l)(hn:hl h (.a n)=some (.sl sz true rows d))(hl':l=rows.length)(hL:n∉L)(hrows:∀r∈rows,EY h r/\Gc r=true/\∀m∈Cu r,m∈L)(hr':rows'=rows.map (Fd h))(hpu:∀r∈rows',AS r=true)(hQ:As V x Q ⟨(t,.own (kn,c+1) l)::e,(.a (kn,c+1),.sl sz true rows' d)::(.a n,.un)::(frz h L++h),c+1⟩):As V x Q ⟨e,h,c⟩:=by
 intro code hcc U a hA;obtain⟨Z,ev,hI,hw,hal,hM,hra,hown,_⟩:=hA.1.h.frz L;have hr:=hA.1.t t;rw[he]at hr;have hv:=In hA.1.h hn hr hl';have hm:¬Z.al (kn,c+1):=λhm=>by have:=hA.2.1 _ (hal _ hm);simp at this;omega
 have hn1:hl (frz h L++h) (.a n)=some (.sl sz true rows d):=by rw[Ka hL];exact hn
 have hlen:rows'.length=rows.length:=by rw[hr',p9]
 have hI2:=hI.ren (m:=(kn,c+1)) hm hn1 hlen hpu λb o cap hb=>by
  obtain⟨_,_,_,q4⟩:=hA.1.h.arr n sz true rows d hn;rw[hra]at hb;have hR:RepRows U sz b o rows:=by
   rcases q4 with⟨a',q4,rfl⟩|⟨b',o',cap',q4,_,_,q5,_⟩
   ·simp[RepRows]
   ·rw[q4]at hb;simp only[Wt,yE,Addr.mk.injEq,and_true]at hb;obtain⟨⟨rfl,rfl⟩,rfl⟩:=hb;exact q5
  subst hr';refine Im λi r hi=>?_
  rw[qX]at hi;cases hri:rows[i]? with
  |none=>rw[hri]at hi;cases hi
  |some r0=>
   rw[hri]at hi;cases hi
   obtain⟨g1,g2⟩:=Ga hR i r0 hri;obtain⟨p1,p2,p3⟩:=hrows r0 (tU hri);refine⟨by rw[Vp,p9];exact g1,Fw λj y hy=>?_⟩;rw[Vp,qX]at hy;cases hrj:r0[j]? with
   |none=>rw[hrj]at hy;cases hy
   |some y0=>
    rw[hrj]at hy;cases hy
    obtain⟨v,k1,k2,k3⟩:=G6 g2 j y0 hrj;exact⟨v,by rw[hw];exact k1,k2,Nn hA.1.h ev hw L hown y0 v (Vm p1 j y0 hrj) (Vn p2 j y0 hrj) (λm hm=>p3 m (Vo j y0 hrj m hm)) k3⟩
 have ev2:=ev.trans (Evo.move (n:=n) (k:=rows.length) hm);rw[show U.w=(Z.move n (kn,c+1) rows.length).w from hw.symm];refine wpIn_mono (hQ code hcc (Z.move n (kn,c+1) rows.length) a ⟨⟨hI2,λt'=>?_,hA.1.sz,(hA.1.df.mono ev2).un (.inr (N3 ht))⟩,λm hm'=>?_,V.g hA.2.2 ev2 λt' ht'=>?_⟩) λe a w k=>k.mono (V.ofE ev2)
 ·simp only[lk];by_cases e:t=t'
  ·subst e;rw[eX rfl];simp only[Rep]at hr⊢;refine⟨.inr rfl,hr.2.1,λl2 hl2=>?_⟩;simp only[Cf.move,if_true,yE]at hl2⊢;subst hl2;exact⟨by omega,λ_=>by rw[hra,hl'];exact hv⟩
  ·rw[eW e];exact(hA.1.t t').mono ev2
 ·rcases hm' with hm'|rfl
  ·have:=hA.2.1 m (hal m hm');simp at this⊢;omega
  ·simp
 ·right;simp only[lk];rw[eW (by omega)]
theorem HInv.recel{U:Cf}{hp:Hp}(h:HInv U hp){n:Nm}{j:Nat}{c c':AV}(hc:hl hp (.c n j)=some c)(hm:isM c=false)(hR:∀cs T x,U.w.heap[U.rb n]? =some (.cells cs T (0,0))->cs[j]? =some x->Rep U c' x):HInv U ((.c n j,c')::hp):=by
 have ha:∀m,hl ((.c n j,c')::hp) (.a m)=hl hp (.a m):=λm=>by simp only[hl];rw[eW (by simp)]
 have ow:∀p b,Owns U ((.c n j,c')::hp) p b->Owns U hp p b:=by
  rintro⟨p1,p2⟩ x (⟨q1,q2,k,c2,q3⟩|⟨q1,⟨sz',rows',d',q2⟩,q3⟩)
  ·simp only[hl]at q3;split at q3
   ·rename_i e;simp only[Loc.c.injEq]at e;refine .inl ⟨q1,q2,j,c,?_⟩;rw[<-e.1];exact hc
   ·exact .inl ⟨q1,q2,k,c2,q3⟩
  ·rw[ha]at q2;exact .inr ⟨q1,⟨sz',rows',d',q2⟩,q3⟩
 refine⟨λm=>?_,λm k c2 hk=>?_,λm sz live rows d hk=>h.arr m sz live rows d (by rw[<-ha];exact hk),λp q b hp hq=>h.inj p q b (ow p b hp) (ow q b hq),h.lt,h.ou,h.dis⟩
 ·rw[h.ln m];simp only[lenOf,ha]
 ·simp only[hl]at hk;split at hk
  ·rename_i e;simp only[Loc.c.injEq]at e;obtain⟨rfl,rfl⟩:=e;cases hk
   obtain⟨g1,g2,cs,T,x,g3,g4,g5,_⟩:=(h.cel n j c hc).cells hm;exact⟨g1,g2,.inl ⟨cs,T,x,g3,g4,g5,hR cs T x g3 g4⟩⟩
  ·exact h.cel m k c2 hk
def UA(P:Program)(f sz:Nat)(rows:List (List AV))(ax:List AV)(rows':List (List AV)):Prop:=∀(U:Cf)(vs vals:List Value)(base:Option Addr)(b o cap:Nat),Gl U->(∀x,U.M x\/U.O x->x<U.w.heap.size)->RepL U ax vs->RepL U rows.flatten vals->(∀x∈vals,Bs x=true)->vals.length=rows.length*sz->rows.length<=cap->(base=some ⟨b,o,none⟩/\0<cap/\Lies U.w b o vals/\U.M b/\(∃cs T,U.w.heap[b]? =some (.cells cs T (0,0))/\o+cap*sz<=cs.size)\/cap=0/\U.w.heap.size<=b)->Calls P f (.slice base rows.length cap::vs).toArray U.w λe w'=>∃vals':List Value,e=.returned (.tuple #[])/\KeptB b U.w w'/\(rows=[]\/Lies w' b o vals'/\RepL U rows'.flatten vals'/\∀x∈vals',Bs x=true)
theorem bF{P:Program}{U:Cf}{hp:Hp}(gl:Gl U)(h:HInv U hp){f sz len:Nat}{rows rows':List (List AV)}{ax d xs:List AV}{n nm bn:Nm}{j:Nat}{vs:List Value}{v0:Value}(hn:hl hp (.a n)=some (.sl sz true rows d))(hlen:len=rows.length)(h0:Rep U (.own n len) v0)(hx:RepL U xs vs)(hax:Fd hp xs=ax)(hrv:EY hp xs)(hnb:Gc xs=true)(hni:n∉Cu xs)(hbc:hl hp (.c bn j)=some (.own n len))(hr':∀r∈rows',r.length=sz/\AS r=true)(hl':rows'.length=rows.length)(hC:UA P f sz rows ax rows'):Calls P f (v0::vs).toArray U.w λe w'=>∃v σ',e=.returned v/\Next U nm ((.c bn j,.sl sz false rows' d)::(.a n,.un)::(frz hp (Cu xs)++hp)) w' σ'/\Rep σ' (.tup []) v:=by
 obtain⟨σ1,f1,f2,f3,f4,f5,f6,f7,f8⟩:=h.frz (Cu xs);have hr:=Ip h f1 f3 (Cu xs) f7 xs vs hrv hnb (λ_ h=>h) hx;rw[hax]at hr;have hn1:hl (frz hp (Cu xs)++hp) (.a n)=some (.sl sz true rows d):=by rw[Ka hni];exact hn
 have hc1:hl (frz hp (Cu xs)++hp) (.c bn j)=some (.own n len):=by rw[NZ];exact hbc
 have hln:σ1.ln n=some rows.length:=by rw[f2.ln];simp[lenOf,hn1]
 have hv0:=h0.mono f1;simp only[Rep]at hv0;have hv:=(hv0.2.2 _ hln).2 hlen;obtain⟨a1,a2,a3,a4⟩:=f2.arr n sz true rows d hn1;obtain⟨vals,g1,g2,g3,g4,g5,g6⟩:=(f2.arr n sz true rows d hn1).vals;have key:∃(base:Option Addr)(b o cap:Nat),σ1.ra n=(base,cap)/\rows.length<=cap/\(base=some ⟨b,o,none⟩/\0<cap/\Lies σ1.w b o vals/\σ1.M b/\(∃cs T,σ1.w.heap[b]? =some (.cells cs T (0,0))/\o+cap*sz<=cs.size)\/cap=0/\σ1.w.heap.size<=b):=by
  rcases a4 with⟨a,a4,a5⟩|⟨b,o,cap,a4,a5,a6,a7,a8,a9⟩
  ·exact⟨a,σ1.w.heap.size,0,0,a4,by rw[a5];exact fA _,.inr ⟨rfl,fA _⟩⟩
  ·refine⟨some ⟨b,o,none⟩,b,o,cap,a4,a6,.inl ⟨rfl,a5,?_,(a8 rfl).1,(a8 rfl).2⟩⟩;rw[a4]at g3;rcases g3 with rfl|⟨b2,o2,g3,g3'⟩
   ·intro j v hj;simp at hj
   ·simp at g3;rw[g3.1,g3.2];exact g3'
 obtain⟨base,b,o,cap,k1,k2,k3⟩:=key;have hor:σ1.ra n=(some ⟨b,o,none⟩,cap)/\0<cap\/σ1.w.heap.size<=b:=by
  rcases k3 with⟨rfl,k3,_⟩|⟨_,k3⟩
  ·exact .inl ⟨k1,k3⟩
  ·exact .inr k3
 have hc:=hC σ1 vs vals base b o cap (gl.mono f1) (λx hx=>hx.elim (f2.lt x) (f2.ou x)) hr g1 g2 g5 k2 k3;rw[k1,hlen]at hv;obtain⟨m1,m2,cs1,T1,x1,m3,m4,m5,m6⟩:=(f2.cel bn j _ hc1).cells rfl;simp only[Rep]at m6;have hx1:=(m6.2.2 _ hln).2 hlen;rw[k1,hlen]at hx1;have hne:σ1.rb bn≠b:=by
  intro e;have hlt:=f2.lt _ m2;rcases k3 with⟨rfl,k4,_,k5,_⟩|⟨_,k3⟩
  ·have o1:Owns σ1 (frz hp (Cu xs)++hp) (false,bn) b:=.inl ⟨rfl,e,j,_,hc1⟩;have o2:Owns σ1 (frz hp (Cu xs)++hp) (true,n) b:=.inr ⟨rfl,⟨sz,rows,d,hn1⟩,⟨o,cap,k1,k4⟩⟩;have:=f2.inj _ _ _ o1 o2;simp at this
  ·omega
 have hlt1:=f2.lt _ m2;subst hv;rw[f3]at hc;refine hc.mono ?_;rintro en w' ⟨vals',rfl,q2,q6⟩;obtain⟨e2,i2⟩:=f2.gone hn1 hor (w':=w') (by rw[f3];exact q2);refine⟨_,_,rfl,⟨f1.trans e2,i2.recel (by simp only[hl];rw[eW (by simp)];exact hc1) rfl (c':=.sl sz false rows' d) ?_,rfl,λm hm=>.inl (f4 m hm)⟩,⟨[],rfl,rfl⟩⟩;intro cs T x hh hj;have hw:w'.heap[σ1.rb bn]? =σ1.w.heap[σ1.rb bn]? :=by rw[f3]at hlt1⊢;exact q2.heap _ hlt1 hne
 rw[show w'.heap[σ1.rb bn]? =some (.cells cs T (0,0))from hh]at hw;rw[m3]at hw;cases hw
 rw[m4]at hj;cases hj
 rw[hx1];simp only[Rep];refine⟨base,cap,by rw[hl'],by rw[hl'];exact k2,(λe=>by cases e),λr hr=>(hr' r hr).2,?_⟩;rcases q6 with q6|⟨q6,q7,q5⟩
 ·left;rw[q6]at hl';exact zY hl'
 ·rcases k3 with⟨rfl,k4,_,k5,_⟩|⟨k4,_⟩
  ·refine .inr ⟨b,o,rfl,⟨λhM=>hM.2 rfl,λhO=>f2.dis b k5 hO,?_⟩,Et (q7.mono e2) q5 q6 λr hr=>(hr' r hr).1⟩;have:=f2.lt b k5;have:=q2.sz;rw[f3]at*;show b<w'.heap.size;omega
  ·left;have:rows'.length=0:=by omega
   exact zY this
theorem rX{V:Ctx}(hΓ:V.OK)(i:Nat){rid:Nat}{ops:List AOp}{Q:AE->St->Prop}{e e1:Au}{h h1:Hp}{c:Nat}{vc:Prop}{dd:Option Nat}{f:Nat}{x0:Opd}{xo:List Opd}{sz len:Nat}{rows rows':List (List AV)}{ax d:List AV}{n bn:Nm}{j:Nat}(hf:FU V.P f)(hyo:ops[i]? =some ⟨dd,none,.call f (x0::xo)⟩)(hex:Bm V.S (c+1) (100*rid) (ops.take i) e h=some (vc,e1,h1))(hvc:vc)(h0:Aw true (Av e1 x0)=.own n len)(hn:hl h1 (.a n)=some (.sl sz true rows d))(hlen:len=rows.length)(hax:Fd h1 (xo.map λx=>Aw true (Av e1 x))=ax)(hrv:EY h1 (xo.map λx=>Aw true (Av e1 x)))(hnb:Gc (xo.map λx=>Aw true (Av e1 x))=true)(hni:n∉Cu (xo.map λx=>Aw true (Av e1 x)))(hbc:hl h1 (.c bn j)=some (.own n len))(hr':∀r∈rows',r.length=sz/\AS r=true)(hl':rows'.length=rows.length)(hC:UA V.P f sz rows ax rows'){vc2:Prop}{e2:Au}{h3:Hp}(hpost:Bm V.S (c+1) (100*rid+(i+1)) (ops.drop (i+1)) (Ca dd (.tup []) e1) ((.c bn j,.sl sz false rows' d)::(.a n,.un)::(frz h1 (Cu (xo.map λx=>Aw true (Av e1 x)))++h1))=some (vc2,e2,h3))(hvc2:vc2)(hQ:Q .n ⟨e2,h3,c+1⟩):As V (.reg rid ops) Q ⟨e,h,c⟩:=by
 refine SP hΓ i hyo hex hvc (Eq.refl _) (λx e=>by cases e) (λe=>by cases e) (λo a1 σ1 hk hI hnm=>?_) hpost hvc2 hQ;obtain⟨cl,ho,hcl,hargs⟩:=PU hk;have hV:=F3 (g:=true) rfl hI.t cl.args.toList;rw[<-hargs]at hV;simp only[eZ,RepL]at hV;obtain⟨y,vs,hvs,hy,hV⟩:=hV;have hy:Rep σ1 (Aw true (Av e1 x0)) y:=hy;rw[h0]at hy;have hc:=bF (nm:=(100*rid+i,c+1)) hI.df.gl hI.h hn hlen hy hV hax hrv hnb hni hbc hr' hl' hC;refine .inr ⟨f,_,?_,hc⟩;have hr:=FA hf (cl.args.map a1.eval) σ1.w;have ha:cl.args.map a1.eval=(y::vs).toArray:=by rw[<-hvs];apply Array.ext';simp
 rw[ha]at hr;simp only[execOp,ho,resolve,hcl,Act.eval,Sem.run_bind,Deferred.ofValue,Sem.run_pure,Result.andThen,invoke]
 first|exact hr|(simp[ha];exact hr)
def Y3(P:Program)(f sz:Nat)(rows:List (List AV))(ax:List AV)(rows':List (List AV)):Prop:=∀(U:Cf)(vs vals:List Value)(base:Option Addr)(b o cap:Nat),Gl U->(∀x,U.M x\/U.O x->x<U.w.heap.size)->RepL U ax vs->RepL U rows.flatten vals->(∀x∈vals,Bs x=true)->vals.length=rows.length*sz->rows.length<=cap->(base=some ⟨b,o,none⟩/\0<cap/\Lies U.w b o vals/\U.M b/\(∃cs T,U.w.heap[b]? =some (.cells cs T (0,0))/\o+cap*sz<=cs.size)\/cap=0/\U.w.heap.size<=b)->Calls P f (.slice base rows.length cap::vs).toArray U.w λe w'=>∃vals':List Value,e=.returned (.tuple #[])/\KeptB b U.w w'/\(∀cs T,U.w.heap[b]? =some (.cells cs T (0,0))->∃cs',w'.heap[b]? =some (.cells cs' T (0,0))/\cs'.size=cs.size)/\(rows=[]\/Lies w' b o vals'/\RepL U rows'.flatten vals'/\∀x∈vals',Bs x=true)
theorem bG{P:Program}{U:Cf}{hp:Hp}(gl:Gl U)(h:HInv U hp){f sz len:Nat}{rows rows':List (List AV)}{ax d xs:List AV}{n nm:Nm}{vs:List Value}{v0:Value}(hn:hl hp (.a n)=some (.sl sz true rows d))(hlen:len=rows.length)(h0:Rep U (.own n len) v0)(hx:RepL U xs vs)(hax:Fd hp xs=ax)(hrv:EY hp xs)(hnb:Gc xs=true)(hni:n∉Cu xs)(hr':∀r∈rows',r.length=sz/\AS r=true)(hl':rows'.length=rows.length)(hC:Y3 P f sz rows ax rows'):Calls P f (v0::vs).toArray U.w λe w'=>∃v σ',e=.returned v/\Next U nm ((.a n,.sl sz true rows' d)::(frz hp (Cu xs)++hp)) w' σ'/\Rep σ' (.tup []) v:=by
 obtain⟨σ1,f1,f2,f3,f4,f5,f6,f7,f8⟩:=h.frz (Cu xs);have hr:=Ip h f1 f3 (Cu xs) f7 xs vs hrv hnb (λ_ h=>h) hx;rw[hax]at hr;have hn1:hl (frz hp (Cu xs)++hp) (.a n)=some (.sl sz true rows d):=by rw[Ka hni];exact hn
 have hln:σ1.ln n=some rows.length:=by rw[f2.ln];simp[lenOf,hn1]
 have hv0:=h0.mono f1;simp only[Rep]at hv0;have hv:=(hv0.2.2 _ hln).2 hlen;obtain⟨a1,a2,a3,a4⟩:=f2.arr n sz true rows d hn1;obtain⟨vals,g1,g2,g3,g4,g5,g6⟩:=(f2.arr n sz true rows d hn1).vals;have key:∃(base:Option Addr)(b o cap:Nat),σ1.ra n=(base,cap)/\rows.length<=cap/\(base=some ⟨b,o,none⟩/\0<cap/\Lies σ1.w b o vals/\σ1.M b/\(∃cs T,σ1.w.heap[b]? =some (.cells cs T (0,0))/\o+cap*sz<=cs.size)\/cap=0/\σ1.w.heap.size<=b):=by
  rcases a4 with⟨a,a4,a5⟩|⟨b,o,cap,a4,a5,a6,a7,a8,a9⟩
  ·exact⟨a,σ1.w.heap.size,0,0,a4,by rw[a5];exact fA _,.inr ⟨rfl,fA _⟩⟩
  ·refine⟨some ⟨b,o,none⟩,b,o,cap,a4,a6,.inl ⟨rfl,a5,?_,(a8 rfl).1,(a8 rfl).2⟩⟩;rw[a4]at g3;rcases g3 with rfl|⟨b2,o2,g3,g3'⟩
   ·intro j v hj;simp at hj
   ·simp at g3;rw[g3.1,g3.2];exact g3'
 obtain⟨base,b,o,cap,k1,k2,k3⟩:=key;have hc:=hC σ1 vs vals base b o cap (gl.mono f1) (λx hx=>hx.elim (f2.lt x) (f2.ou x)) hr g1 g2 g5 k2 k3;rw[k1,hlen]at hv;subst hv;rw[f3]at hc;refine hc.mono ?_;rintro en w' ⟨vals',rfl,q2,q3,q6⟩;rw[<-f3]at q2 q3;have hMb:σ1.M b\/σ1.w.heap.size<=b:=by
  rcases k3 with⟨_,_,_,k5,_⟩|⟨_,k3⟩
  ·exact .inl k5
  ·exact .inr k3
 have ev:Evo σ1 (σ1.setArr n (σ1.ra n) σ1.M rows'.length w'):=Evo.setArr (.inr ⟨_,hln,by rw[hl'];exact fA _,λ_=>rfl⟩)
  (λx ob hx hM=>by
   have hlt:=(eY.1 hx).1;have hne:x≠b:=λe=>hMb.elim (λk=>hM (e▸k)) (λk=>by omega)
   exact⟨(q2.heap x hlt hne).trans hx,hM⟩) q2.sz q2.io
 have i2:HInv (σ1.setArr n (σ1.ra n) σ1.M rows'.length w') ((.a n,.sl sz true rows' d)::(frz hp (Cu xs)++hp)):=by
  refine f2.setArr ev (λx hM hno=>⟨hM,q2.heap x (f2.lt x hM) ?_⟩) ⟨.inl a1,a2,λ_ r hr=>(hr' r hr).2,?_⟩ (λ_ b2 o2 cap2 e2 c2=>.inl (.inr ⟨rfl,⟨sz,rows,d,hn1⟩,o2,cap2,e2,c2⟩)) (λx hM=>u9 (f2.lt x hM) q2.sz) q2.sz
  ·rintro rfl;rcases k3 with⟨rfl,k4,_,k5,_⟩|⟨_,k3⟩
   ·exact hno (.inr ⟨rfl,⟨sz,rows,d,hn1⟩,o,cap,k1,k4⟩)
   ·exact absurd (f2.lt _ hM) (by omega)
  ·have hra:(σ1.setArr n (σ1.ra n) σ1.M rows'.length w').ra n=(base,cap):=by simp[Cf.setArr,k1]
   rcases k3 with⟨rfl,k4,_,k5,cs,T,k6,k7⟩|⟨rfl,_⟩
   ·refine .inr ⟨b,o,cap,hra,k4,by rw[hl'];exact k2,?_,λ_=>⟨k5,?_⟩,λe=>by cases e⟩
    ·rcases q6 with q6|⟨q6,q7,q5⟩
     ·rw[q6]at hl';rw[zY hl'];simp[RepRows]
     ·exact Et (q7.mono ev) q5 q6 λr hr=>(hr' r hr).1
    ·obtain⟨cs',q8,q9⟩:=q3 cs T k6;exact⟨cs',T,q8,by rw[q9];exact k7⟩
   ·refine .inl ⟨base,hra,?_⟩;have:rows'.length=0:=by omega
    exact zY this
 exact⟨_,_,rfl,⟨f1.trans ev,i2,rfl,λm hm=>.inl (hm.elim (f4 m) λe=>by subst e;exact f4 _ a1)⟩,⟨[],rfl,rfl⟩⟩
theorem rY{V:Ctx}(hΓ:V.OK)(i:Nat){rid:Nat}{ops:List AOp}{Q:AE->St->Prop}{e e1:Au}{h h1:Hp}{c:Nat}{vc:Prop}{dd:Option Nat}{f:Nat}{x0:Opd}{xo:List Opd}{sz len:Nat}{rows rows':List (List AV)}{ax d:List AV}{n:Nm}(hf:FU V.P f)(hyo:ops[i]? =some ⟨dd,none,.call f (x0::xo)⟩)(hex:Bm V.S (c+1) (100*rid) (ops.take i) e h=some (vc,e1,h1))(hvc:vc)(h0:Aw true (Av e1 x0)=.own n len)(hn:hl h1 (.a n)=some (.sl sz true rows d))(hlen:len=rows.length)(hax:Fd h1 (xo.map λx=>Aw true (Av e1 x))=ax)(hrv:EY h1 (xo.map λx=>Aw true (Av e1 x)))(hnb:Gc (xo.map λx=>Aw true (Av e1 x))=true)(hni:n∉Cu (xo.map λx=>Aw true (Av e1 x)))(hr':∀r∈rows',r.length=sz/\AS r=true)(hl':rows'.length=rows.length)(hC:Y3 V.P f sz rows ax rows'){vc2:Prop}{e2:Au}{h3:Hp}(hpost:Bm V.S (c+1) (100*rid+(i+1)) (ops.drop (i+1)) (Ca dd (.tup []) e1) ((.a n,.sl sz true rows' d)::(frz h1 (Cu (xo.map λx=>Aw true (Av e1 x)))++h1))=some (vc2,e2,h3))(hvc2:vc2)(hQ:Q .n ⟨e2,h3,c+1⟩):As V (.reg rid ops) Q ⟨e,h,c⟩:=by
 refine SP hΓ i hyo hex hvc (Eq.refl _) (λx e=>by cases e) (λe=>by cases e) (λo a1 σ1 hk hI hnm=>?_) hpost hvc2 hQ;obtain⟨cl,ho,hcl,hargs⟩:=PU hk;have hV:=F3 (g:=true) rfl hI.t cl.args.toList;rw[<-hargs]at hV;simp only[eZ,RepL]at hV;obtain⟨y,vs,hvs,hy,hV⟩:=hV;have hy:Rep σ1 (Aw true (Av e1 x0)) y:=hy;rw[h0]at hy;have hc:=bG (nm:=(100*rid+i,c+1)) hI.df.gl hI.h hn hlen hy hV hax hrv hnb hni hr' hl' hC;refine .inr ⟨f,_,?_,hc⟩;have hr:=FA hf (cl.args.map a1.eval) σ1.w;have ha:cl.args.map a1.eval=(y::vs).toArray:=by rw[<-hvs];apply Array.ext';simp
 rw[ha]at hr;simp only[execOp,ho,resolve,hcl,Act.eval,Sem.run_bind,Deferred.ofValue,Sem.run_pure,Result.andThen,invoke]
 first|exact hr|(simp[ha];exact hr)
theorem Vq{V:Ctx}(t:Nat)(y:AV){x0:AV}{x:AC}{Q:AE->St->Prop}{e:Au}{h:Hp}{c:Nat}(ht:t<V.nt)(he:lk e t=x0)(hw:∀U v,Rep U x0 v->Rep U y v)(hQ:As V x Q ⟨(t,y)::e,h,c⟩):As V x Q ⟨e,h,c⟩:=by
 intro code hcc U a hA;have hr:=hA.1.t t;rw[he]at hr;have ev:=Evo.refl U;refine hQ code hcc U a ⟨⟨hA.1.h,λt'=>?_,hA.1.sz,(hA.1.df.mono ev).un (.inr (N3 ht))⟩,hA.2.1,V.g hA.2.2 ev λt' ht'=>?_⟩
 ·simp only[lk];by_cases e:t=t'
  ·subst e;rw[eX rfl];exact hw _ _ hr
  ·rw[eW e];exact hA.1.t t'
 ·right;simp only[lk];rw[eW (by omega)]
theorem rZ{V:Ctx}(t:Nat){z:Nat}{f:Bool}{d:List AV}{x:AC}{Q:AE->St->Prop}{e:Au}{h:Hp}{c:Nat}(ht:t<V.nt)(he:lk e t=.sl z f [] d)(h1:∀k,As V x Q ⟨(t,.v (.slice none 0 k))::e,h,c⟩)(h2:∀b k,As V x Q ⟨(t,.v (.slice (some b) 0 k))::e,h,c⟩):As V x Q ⟨e,h,c⟩:=by
 intro code hcc U a hA;have hr:=hA.1.t t;rw[he]at hr;obtain⟨base,cap,hv,_⟩:=hr;have ev:=Evo.refl U;have key:∀y,(∀v,v=a.tmps.getD t undef->Rep U y v)->As V x Q ⟨(t,y)::e,h,c⟩->code.wpIn V.F 0 V.P (lift V U Q) a U.w:=λy hw hQ=>by
  refine hQ code hcc U a ⟨⟨hA.1.h,λt'=>?_,hA.1.sz,(hA.1.df.mono ev).un (.inr (N3 ht))⟩,hA.2.1,V.g hA.2.2 ev λt' ht'=>?_⟩
  ·simp only[lk];by_cases e:t=t'
   ·subst e;rw[eX rfl];exact hw _ rfl
   ·rw[eW e];exact hA.1.t t'
  ·right;simp only[lk];rw[eW (by omega)]
 cases base with
 |none=>exact key _ (λv e=>by subst e;simp only[Rep];exact hv) (h1 cap)
 |some b=>exact key _ (λv e=>by subst e;simp only[Rep];exact hv) (h2 b cap)
theorem sC{U:Cf}{z:Nat}{d:List AV}{b:Option Addr}{k:Nat}(v:Value)(h:Rep U (.v (.slice b 0 k)) v):Rep U (.sl z false [] d) v:=by simp only[Rep]at h⊢;exact⟨b,k,h,t7 _,λh=>Bool.noConfusion h,λr hr=>absurd hr List.not_mem_nil,.inl trivial⟩
theorem kJ{V:Ctx}(m:Nm)(j:Nat)(y:AV){x0:AV}{x:AC}{Q:AE->St->Prop}{e:Au}{h:Hp}{c:Nat}(he:hl h (.c m j)=some x0)(hm:isM x0=false)(hw:∀U v,Rep U x0 v->Rep U y v)(hQ:As V x Q ⟨e,(.c m j,y)::h,c⟩):As V x Q ⟨e,h,c⟩:=by
 intro code hc U a hA;obtain⟨k1,k2,cs,T,v,k3,k4,k5,k6⟩:=(hA.1.h.cel m j _ he).cells hm;have hI:=hA.1.h;have ev:=Evo.refl U;refine hQ code hc U a ⟨⟨⟨λn'=>?_,λn' j' c' hc'=>?_,λn' sz live rows d' hc'=>?_,λp q b hp hq=>?_,hI.lt,hI.ou,hI.dis⟩,hA.1.t,hA.1.sz,hA.1.df⟩,hA.2.1,hA.2.2⟩
 ·have:=hI.ln n';simpa only[lenOf,hl,eW (show¬Loc.c m j=Loc.a n' by intro e;cases e)]using this
 ·simp only[hl]at hc';by_cases e:Loc.c m j=Loc.c n' j'
  ·rw[eX e]at hc';cases e
   simp at hc';subst hc';exact⟨k1,k2,.inl ⟨cs,T,_,k3,k4,k5,hw _ _ k6⟩⟩
  ·rw[eW e]at hc';exact hI.cel n' j' c' hc'
 ·simp only[hl,eW (show¬Loc.c m j=Loc.a n' by intro e;cases e)]at hc';exact hI.arr n' sz live rows d' hc'
 ·have key:∀p b,Owns U ((.c m j,y)::h) p b->Owns U h p b:=by
   rintro p b (⟨g1,g2,j',c',g3⟩|⟨g1,⟨sz,rows,d',g2⟩,o,cap,g3,g4⟩)
   ·simp only[hl]at g3;by_cases e:Loc.c m j=Loc.c p.2 j'
    ·cases e
     exact .inl ⟨g1,g2,j,x0,he⟩
    ·rw[eW e]at g3;exact .inl ⟨g1,g2,j',c',g3⟩
   ·simp only[hl]at g2;rw[eW (by intro e;cases e)]at g2;exact .inr ⟨g1,⟨sz,rows,d',g2⟩,o,cap,g3,g4⟩
  exact hI.inj p q b (key p b hp) (key q b hq)
theorem XG{U:Cf}{z z':Nat}{f:Bool}{d d':List AV}(v:Value)(h:Rep U (.sl z f [] d) v):Rep U (.sl z' false [] d') v:=by simp only[Rep]at h⊢;obtain⟨b,k,h1,h2,_⟩:=h;exact⟨b,k,h1,h2,λh=>Bool.noConfusion h,λr hr=>absurd hr List.not_mem_nil,.inl trivial⟩
theorem sD{V:Ctx}(t:Nat)(z':Nat)(d':List AV){z:Nat}{f:Bool}{d:List AV}{x:AC}{Q:AE->St->Prop}{e:Au}{h:Hp}{c:Nat}(ht:t<V.nt)(he:lk e t=.sl z f [] d)(hQ:As V x Q ⟨(t,.sl z' false [] d')::e,h,c⟩):As V x Q ⟨e,h,c⟩:=Vq t _ ht he (λ_=>XG) hQ
theorem sE{V:Ctx}(m:Nm)(j:Nat)(z':Nat)(d':List AV){z:Nat}{f:Bool}{d:List AV}{x:AC}{Q:AE->St->Prop}{e:Au}{h:Hp}{c:Nat}(he:hl h (.c m j)=some (.sl z f [] d))(hQ:As V x Q ⟨e,(.c m j,.sl z' false [] d')::h,c⟩):As V x Q ⟨e,h,c⟩:=kJ m j _ he rfl (λ_=>XG) hQ
