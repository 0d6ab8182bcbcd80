import Derived.Test.YtciphecegkfaiaaGreatA21
import Derived.Maps.RangeRun
namespace Go.Proofs.YtciphecegkfaiaaGreat.Am
set_option linter.unusedSimpArgs false
set_option linter.unusedVariables false
open Go
def rI {α:Type} (e:α→AV) (p:Int×α):List AV:=[.v (.int .i64 p.1),e p.2]
def CN {α:Type}:List (Int×α)→Int→α→α
 |[],_,d=>d
 |p::r,k,d=>bif decide (p.1=k) then p.2 else CN r k d
def Gs {α:Type}:List (Int×α)→Int→Bool
 |[],_=>false
 |p::r,k=>decide (p.1=k)||Gs r k
def Fu {α:Type}:List (Int×α)→Int→α→List (Int×α)
 |[],k,x=>[(k,x)]
 |p::r,k,x=>bif decide (p.1=k) then(p.1,x)::r else p::Fu r k x
theorem RC {α:Type} {e:α→AV}:∀l:List (Int×α),J4 (l.map (rI e))=true
 |[]=>rfl
 |p::l=>by simp only[List.map_cons,J4,List.all_cons,rI,kI,Option.isSome_some,Bool.true_and];exact RC l
theorem Mm {α:Type} {e:α→AV} {k:Int} {d:α}:∀l:List (Int×α),F4 (l.map (rI e)) k (e d)=e (CN l k d)
 |[]=>rfl
 |p::l=>by
  simp only[List.map_cons,rI,F4,kI,yE,CN]
  by_cases h:p.1=k
  ·simp[h]
  ·simp only[decide_eq_false h,cond_false];exact Mm l
theorem Qd {α:Type} {e:α→AV} {k:Int}:∀l:List (Int×α),HJ (l.map (rI e)) k=Gs l k
 |[]=>rfl
 |p::l=>by simp only[List.map_cons,rI,HJ,kI,yE,Gs];rw[Qd l]
theorem Mn {α:Type} {e:α→AV} {k:Int} {x:α}:∀l:List (Int×α),E1 (l.map (rI e)) k (e x)=(Fu l k x).map (rI e)
 |[]=>rfl
 |p::l=>by
  simp only[List.map_cons,rI,E1,kI,yE,Fu]
  by_cases h:p.1=k
  ·simp[h,rI]
  ·simp only[decide_eq_false h,cond_false,List.map_cons,rI];rw[Mn l]
@[reducible] def eI (n:Int):AV:= .v (.int .i64 n)
@[reducible] def eB (b:Bool):AV:= .v (.bool b)
theorem ZR {k d:Int} (l:List (Int×Int)):F4 (l.map (rI eI)) k (.v (.int .i64 d))= .v (.int .i64 (CN l k d)):=Mm (e:=eI) l
theorem ZS {k:Int} {d:Bool} (l:List (Int×Bool)):F4 (l.map (rI eB)) k (.v (.bool d))= .v (.bool (CN l k d)):=Mm (e:=eB) l
theorem ZT {k d:Int} (l:List (Int×Int)):E1 (l.map (rI eI)) k (.v (.int .i64 d))=(Fu l k d).map (rI eI):=Mn (e:=eI) l
theorem ZU {k:Int} {d:Bool} (l:List (Int×Bool)):E1 (l.map (rI eB)) k (.v (.bool d))=(Fu l k d).map (rI eB):=Mn (e:=eB) l
attribute [go_sem] RC ZR ZS Qd ZT ZU
theorem HInv.oshr {σ:Cf} {hp:Hp} (h:HInv σ hp) {O:Nat→Prop} (hO:∀b,O b→σ.O b):Ev σ {σ with O:=O}∧HInv {σ with O:=O} hp:=by
 have e:Ev σ {σ with O:=O}:=⟨fun _ h=>⟨h,rfl⟩,fun _ _ l h=>⟨l,h,Nat.le_refl _,fun _=>rfl⟩,fun b hb=>⟨hb.1,fun k=>hb.2.1 (hO b k),hb.2.2⟩,fun _ _ _ _ hc=>hc⟩
 exact⟨e,h.ln,fun n j c hc=>(h.cel n j c hc).keepE e (h.cel n j c hc).2.1 rfl,fun n sz live rows d hc=>(h.arr n sz live rows d hc).keepE e rfl fun _ _ _ _ _ _ hM=>⟨hM,rfl⟩,h.inj,h.lt,fun b hb=>h.ou b (hO b hb),fun b hb k=>h.dis b hb (hO b k)⟩
def ik:Nat:=1600000
@[reducible] def gI (b:Nat) (m:Nm) (fl:List Bool) (la:Nat):AV:= .gd false (.agg [.v (.int .i64 b),.mp m,.sl 0 true (fl.map fun x=>[.v (.bool x)]) [],.v (.int .i64 la)])
theorem OA {b b':Nat} {m m':Nm} {fl fl':List Bool} {la la':Nat} (h:gI b m fl la=gI b' m' fl' la'):b=b'∧m=m'∧fl=fl'∧la=la':=by
 simp only[AV.gd.injEq,AV.agg.injEq,List.cons.injEq,AV.v.injEq,Value.int.injEq,AV.mp.injEq,AV.sl.injEq,true_and,and_true] at h
 obtain⟨h1,h2,h3,h4⟩:=h
 refine⟨by omega,h2, ?_,by omega⟩
 have:∀(l l':List Bool),(l.map fun x=>[AV.v (.bool x)])=(l'.map fun x=>[AV.v (.bool x)])→l=l':=by
  intro l
  induction l with
  |nil=>intro l' h;cases l' with|nil=>rfl|cons _ _=>simp at h
  |cons x l ih=>
   intro l' h
   cases l' with
   |nil=>simp at h
   |cons y l'=>
    simp only[List.map_cons,List.cons.injEq,AV.v.injEq,Value.bool.injEq,and_true] at h
    rw[h.1,ih l' h.2]
 exact this _ _ h3
structure II (σ:Cf) (b:Nat) (m:Nm) (fl:List Bool) (la:Nat):Prop where
 o:σ.O b∧¬σ.M b
 al:σ.al m
 it:∃seen:Array Nat,σ.w.heap[b]? =some (.mapIter (some (σ.rb m)) fl.length seen fl.length)∧(∀i,seen.contains i=fl.getD i false)∧((∃x,x∈fl∧x=true)→∃s2:Array Nat,seen=s2.push la∧la<fl.length)
theorem II.mono {σ σ':Cf} {b:Nat} {m:Nm} {fl:List Bool} {la:Nat} (h:II σ b m fl la) (e:Evo σ σ'):II σ' b m fl la:=by
 obtain⟨seen,h1,h2,h3⟩:=h.it
 obtain⟨g1,g2⟩:=e.fro b _ h1 h.o.2
 obtain⟨k1,k2⟩:=e.box m h.al
 exact⟨⟨by rw[e.out];exact h.o.1,g2⟩,k1,seen,by rw[k2];exact g1,h2,h3⟩
def Ctx.mi (P:Program) (S:Tab) (nt hb N:Nat) (hnt:nt≤ik):Ctx:={P:=P,F:=Fence.wide,S:=S,nt:=nt,hb:=(hb,false),R:=EvoB N (fun _=>False),G:=fun e σ=>N≤σ.w.heap.size∧∀b m fl la,lk e ik=gI b m fl la→N≤b∧II σ b m fl la,ofE:=Evo.evoB,tr:=EvoB.trans,g:=fun {σ σ' e e'} h ev hl=>⟨Nat.le_trans h.1 ev.sz,fun b m fl la hb=>by
  rcases hl ik hnt with h1|h1
  ·rw[h1] at hb;cases hb
  ·exact⟨(h.2 b m fl la (h1.symm.trans hb)).1,(h.2 b m fl la (h1.symm.trans hb)).2.mono ev⟩⟩}
theorem Ctx.mi_ok {P:Program} {S:Tab} {nt hb N:Nat} {hnt:nt≤ik} (h:TabOK P S):(Ctx.mi P S nt hb N hnt).OK:=⟨h,.inl (Eq.refl _)⟩
theorem nV {P:Program} {S:Tab} {nt hb N:Nat} {hnt:nt≤ik}:(Ctx.mi P S nt hb N hnt).S=S:=rfl
attribute [go_sem] nV ik
theorem dX {P:Program} {S:Tab} {nt hb:Nat} (hnt:nt≤ik) {c:AC} {Q:AE→St→Prop} {s:St} (h0:lk s.env ik= .un) (h:∀N,awp (Ctx.mi P S nt hb N hnt) c Q s):awp (Ctx.fn P S nt hb) c Q s:=by
 intro code hc σ a hA
 have hw:=h σ.w.heap.size code hc σ a ⟨hA.1,hA.2.1,Nat.le_refl _,fun b m fl la hl=>by rw[h0] at hl;cases hl⟩
 refine wpIn_mono hw ?_
 rintro e a' w' ⟨σ',s',e',rfl,h2,h3,h4,h5⟩
 have h2:EvoB σ.w.heap.size (fun _=>False) σ σ':=h2
 obtain⟨ev,hI⟩:=h3.1.h.oshr (O:=σ.O) h2.out
 refine⟨{σ' with O:=σ.O},s',e',rfl, ?_,⟨⟨hI,h3.1.t.ev ev,h3.1.sz, ?_⟩,h3.2.1,trivial⟩,h4,h5⟩
 ·exact⟨h2.ev.box,h2.ev.arr,fun b o hb hM=>h2.old b (Array.getElem?_eq_some_iff.1 hb).1 (fun h=>h) o hb hM,rfl,h2.sz,h2.io⟩
 ·have hd:=h3.1.df
  exact DOK.of rfl (fun d hd'=>by
   obtain⟨r,r1,r2,r3,r4,r5⟩:=hd.all rfl d hd'
   exact⟨r,r1,r2,r3,r4,fun k=>r5 (h2.out r k)⟩) (hd.nd rfl) hd.le (hd.gl.ev ev)
theorem dY {P:Program} {op:Op} {x:Opd} (h:AK.rng x=cK P op):∃t y k e,op= .range t y∧P.underlying t=some (.map k e)∧x=opd y:=by
 cases op with
 |range t y=>
  simp only[cK] at h
  split at h
  ·rename_i k e ht
   simp only[AK.rng.injEq] at h
   exact⟨t,y,k,e,rfl,ht,h⟩
  ·cases h
 |call c=>
  exfalso
  simp only[cK,HM] at h
  (repeat' (split at h))<;>cases h
 |_=>
  exfalso
  simp only[cK,Hc,En,IA,IB,IC,JB,ID] at h
  (repeat' (split at h))<;>cases h
theorem dZ {P:Program} {op:Op} {x:Opd} (h:AK.nxt x=cK P op):∃y,op= .next y false∧x=opd y:=by
 cases op with
 |next y b=>
  cases b with
  |false=>simp only[cK,AK.nxt.injEq] at h;exact⟨y,rfl,h⟩
  |true=>simp only[cK] at h;cases h
 |call c=>
  exfalso
  simp only[cK,HM] at h
  (repeat' (split at h))<;>cases h
 |_=>
  exfalso
  simp only[cK,Hc,En,IA,IB,IC,JB,ID] at h
  (repeat' (split at h))<;>cases h
theorem eA {P:Program} {op:Op} {x:Opd} (h:AK.ent x=cK P op):∃y,op= .entry y∧x=opd y:=by
 cases op with
 |entry y=>simp only[cK,AK.ent.injEq] at h;exact⟨y,rfl,h⟩
 |call c=>
  exfalso
  simp only[cK,HM] at h
  (repeat' (split at h))<;>cases h
 |_=>
  exfalso
  simp only[cK,Hc,En,IA,IB,IC,JB,ID] at h
  (repeat' (split at h))<;>cases h
theorem Px {α:Type} (rows:List α) (i:Nat):(rows.map fun _=>false).getD i false=false:=by
 rw[List.getD_eq_getElem?_getD,List.getElem?_map];cases rows[i]? <;>rfl
theorem Jl {σ:Cf}:∀{rows:List (List AV)} {es:List MapEntry},RepEnts σ rows es→es.length=rows.length
 |[],_,h=>by simp only[RepEnts] at h;subst h;rfl
 |_::rs,_,⟨e,es',h1,_,h3⟩=>by subst h1;simp[Jl h3]
theorem KS {σ:Cf}:∀{rows:List (List AV)} {es:List MapEntry},RepEnts σ rows es→∀(j:Nat) (e:MapEntry),es[j]? =some e→∃r,rows[j]? =some r∧RepL σ r [e.key,e.val]
 |[],_,h,j,e,he=>by simp only[RepEnts] at h;subst h;simp at he
 |r::rs,_,⟨e0,es',h1,h2,h3⟩,j,e,he=>by
  subst h1
  cases j with
  |zero=>simp at he;subst he;exact⟨r,rfl,h2⟩
  |succ j=>simpa using KS h3 j e (by simpa using he)
section
variable {P:Program} {S:Tab} {nt hb N:Nat} {hnt:nt≤ik} {rid:Nat} {ops:List AOp} {Q:AE→St→Prop} {e e1:Env} {h h1:Hp} {c:Nat} {vc:Prop} {d:Option Nat} {x0:Opd} {m:Nm} {rows:List (List AV)}
theorem ZV (hS:TabOK P S) (i:Nat) (hyo:ops[i]? =some ⟨d,none,.rng x0⟩) (hex:Bl S (c+1) (100*rid) (ops.take i) e h=some (vc,e1,h1)) (hvc:vc) (hx0:ung true (opv e1 x0)= .mp m) (hm:hl h1 (.c m 0)=some (mpE rows))
  (hQ:∀b:Nat,∃(vc2:Prop) (e2:Env) (h2:Hp),Bl S (c+1) (100*rid+(i+1)) (ops.drop (i+1)) (BX d (.v (.pointer (some ⟨b,0,none⟩))) ((ik,gI b m (rows.map fun _=>false) 0)::e1)) h1=some (vc2,e2,h2)∧vc2∧Q .n ⟨e2,h2,c+1⟩):
  awp (Ctx.mi P S nt hb N hnt) (.reg rid ops) Q ⟨e,h,c⟩:=by
 refine K1 (Ctx.mi_ok hS) (Eq.refl _) (gk:=ik) hnt (fun e=> ?_) i hyo hex hvc (Eq.refl _) (fun x e=>by cases e) (fun e=>by cases e) fun o a1 σ1 hk hI hG=> ?_
 ·have e':ik=nt+2000000:=e
  unfold ik at e'
  omega
 obtain⟨t,y,k,e',ho,ht,rfl⟩:=dY hk
 have hr:=Eo (g:=true) rfl hI.t y
 rw[hx0] at hr
 simp only[Rep] at hr
 obtain⟨q1,q2,es,q3,q4,q5,q6⟩:=MapF.of hI.h hm
 have hlen:=Jl q5
 simp only[Array.length_toList] at hlen
 let ob:Obj:= .mapIter (some (σ1.rb m)) es.size #[] es.size
 refine .inl ⟨.pointer (some ⟨σ1.w.heap.size,0,none⟩),σ1.w.alloc ob, ?_, ?_⟩
 ·simp[execOp,ho,Instr.range,run_underlying ht,hr.2,MapKept.run_getObj_map q3,newObj,Sem.run,Result.andThen,ob]
 obtain⟨vc2,e2,h2,p1,p2,p3⟩:=hQ σ1.w.heap.size
 let σ2:Cf:={σ1 with O:=fun x=>σ1.O x∨x=σ1.w.heap.size,w:=σ1.w.alloc ob}
 have hold:∀x,x<σ1.w.heap.size→σ2.w.heap[x]? =σ1.w.heap[x]? :=fun x hx=>BL hx
 have hnew:σ2.w.heap[σ1.w.heap.size]? =some ob:=FK
 have hsz:σ2.w.heap.size=σ1.w.heap.size+1:=by simp[σ2]
 have oth:Oth σ1 σ2:={
  rb:=rfl,ra:=rfl,ln:=rfl,al:=rfl,M:=rfl
  ou:=by
   rintro x (hx|rfl)
   ·exact⟨by have:=hI.h.ou x hx;omega,fun hM=>hI.h.dis x hM hx,fun hf=>hf.2.1 hx⟩
   ·exact⟨by omega,fun hM=>absurd (hI.h.lt _ hM) (Nat.lt_irrefl _),fun hf=>absurd hf.2.2 (Nat.lt_irrefl _)⟩
  sz:=by omega
  mem:=fun x hx=>hold x (hI.h.lt x hx)
  fro:=fun x o y hx hc=>by rw[cell_of_heap (hold x hx.2.2)];exact hc
  io:=⟨rfl,rfl⟩}
 refine⟨σ2,.agg [.v (.int .i64 σ1.w.heap.size),.mp m,.sl 0 true ((rows.map fun _=>false).map fun x=>[.v (.bool x)]) [],.v (.int .i64 (0:Nat))],.v (.pointer (some ⟨σ1.w.heap.size,0,none⟩)),vc2,e2,h2,rfl,oth, ?_, ?_, ?_,by simp[Rep],p1,p2,p3⟩
 ·intro m hm hO
  have hlt:=(Array.getElem?_eq_some_iff.1 hm).1
  exact⟨(hold m hlt).trans hm,fun h=>h.elim hO (fun e=>absurd hlt (by omega))⟩
 ·exact⟨oth.ev,fun x hx h1 o ho hM=>⟨(hold x (Array.getElem?_eq_some_iff.1 ho).1).trans ho,hM⟩,fun x hx=> .inl hx,by omega,⟨rfl,rfl⟩⟩
 ·refine⟨by have:=hG.1;omega,fun b m' fl la hl=> ?_⟩
  have hl':gI σ1.w.heap.size m (rows.map fun _=>false) 0=gI b m' fl la:=by simpa [lk] using hl
  obtain⟨rfl,rfl,rfl,rfl⟩:=OA hl'
  refine⟨hG.1,⟨.inr rfl,fun hM=>absurd (hI.h.lt _ hM) (Nat.lt_irrefl _)⟩,hr.1,#[], ?_,fun i=> ?_, ?_⟩
  ·rw[hnew];simp[ob,hlen,σ2]
  ·rw[Px];simp
  ·rintro⟨x,hx,rfl⟩;simp at hx
theorem ZW (hS:TabOK P S) (i:Nat) (hyo:ops[i]? =some ⟨d,none,.nxt x0⟩) (hex:Bl S (c+1) (100*rid) (ops.take i) e h=some (vc,e1,h1)) (hvc:vc) {b la:Nat} {fl:List Bool} (hx0:ung true (opv e1 x0)= .v (.pointer (some ⟨b,0,none⟩)))
  (hg:lk e1 ik=gI b m fl la) (hm:hl h1 (.c m 0)=some (mpE rows)) (hl0:rows.length=fl.length)
  (hQ0:(∀x∈fl,x=true)→∃(vc2:Prop) (e2:Env) (h2:Hp),Bl S (c+1) (100*rid+(i+1)) (ops.drop (i+1)) (BX d (.tup [.v (.bool false)]) ((ik,gI b m fl la)::e1)) h1=some (vc2,e2,h2)∧vc2∧Q .n ⟨e2,h2,c+1⟩)
  (hQ1:∀(j:Nat) (k x:AV),fl[j]? =some false→rows[j]? =some [k,x]→∃(vc2:Prop) (e2:Env) (h2:Hp),Bl S (c+1) (100*rid+(i+1)) (ops.drop (i+1)) (BX d (.tup [.v (.bool true),k,x]) ((ik,gI b m (fl.set j true) j)::e1)) h1=some (vc2,e2,h2)∧vc2∧Q .n ⟨e2,h2,c+1⟩):
  awp (Ctx.mi P S nt hb N hnt) (.reg rid ops) Q ⟨e,h,c⟩:=by
 refine K1 (Ctx.mi_ok hS) (Eq.refl _) (gk:=ik) hnt (fun e=> ?_) i hyo hex hvc (Eq.refl _) (fun x e=>by cases e) (fun e=>by cases e) fun o a1 σ1 hk hI hG=> ?_
 ·have e':ik=nt+2000000:=e
  unfold ik at e'
  omega
 obtain⟨y,ho,rfl⟩:=dZ hk
 have hr:=Eo (g:=true) rfl hI.t y
 rw[hx0] at hr
 simp only[Rep] at hr
 obtain⟨q1,q2,es,q3,q4,q5,q6⟩:=MapF.of hI.h hm
 have hlen:=Jl q5
 simp only[Array.length_toList] at hlen
 obtain⟨hNb,ii⟩:=hG.2 b m fl la hg
 obtain⟨seen,i1,i2,i3⟩:=ii.it
 have hes:es.size=fl.length:=by omega
 have hborn:∀x∈es.toList,∃j,es[j]? =some x∧x.born=j∧j<fl.length:=fun x hx=>by
  obtain⟨j,hj⟩:=List.mem_iff_getElem?.1 hx
  have hj':es[j]? =some x:=by simpa using hj
  exact⟨j,hj',q6 j x hj',by have:=(Array.getElem?_eq_some_iff.1 hj').1;omega⟩
 have q3':σ1.w.heap[σ1.rb m]? =some (.map es fl.length):=by rw[←hes];exact q3
 rcases run_next_at (P:=P) σ1.w o.type b (σ1.rb m) fl.length fl.length seen es fl.length i1 q3' (fun x hx=>by obtain⟨j,_,h2,h3⟩:=hborn x hx;omega) (Nat.le_refl _) with⟨n1,n2⟩|⟨en,n1,w1,n2,n3⟩
 ·have hall:∀x∈fl,x=true:=by
   intro x hx
   obtain⟨j,hj⟩:=List.mem_iff_getElem?.1 hx
   have hjl:=(List.getElem?_eq_some_iff.1 hj).1
   have he:es[j]? =some es[j]:=Array.getElem?_eq_getElem (by omega)
   have hb:=q6 j _ he
   cases hx':x with
   |true=>rfl
   |false=>
    exfalso
    have hc:seen.contains j=false:=by rw[i2,List.getD_eq_getElem?_getD,hj,hx'];rfl
    have:es[j]∈leftOf es seen:=by
     unfold leftOf
     rw[Array.mem_filter]
     exact⟨Array.getElem_mem _,by rw[hb,hc];rfl⟩
    have hpos:=Array.size_pos_of_mem this
    omega
  obtain⟨vc2,e2,h2,p1,p2,p3⟩:=hQ0 hall
  refine .inl ⟨.tuple #[.bool false],σ1.w,by(have n2':(Instr.next (.pointer (some ⟨b,0,none⟩)) false o.type).run (Ctx.mi P S nt hb N hnt).P σ1.w=_:=n2);simp[execOp,ho,hr,n2',Result.andThen],σ1,_,.tup [.v (.bool false)],vc2,e2,h2,rfl,Oth.refl fun x hx=>⟨hI.h.ou x hx,fun hM=>hI.h.dis x hM hx⟩,fun m' hm' hO=>⟨hm',hO⟩,EvoB.trans (Evo.refl σ1).evoB (Evo.refl σ1).evoB,⟨hG.1,fun b' m' fl' la' hl'=> ?_⟩, ?_,p1,p2,p3⟩
  ·have hl2:gI b m fl la=gI b' m' fl' la':=by simpa [lk] using hl'
   obtain⟨rfl,rfl,rfl,rfl⟩:=OA hl2
   exact⟨hNb,ii⟩
  ·simp only[Rep];exact⟨[.bool false],rfl,_,_,rfl,by simp[Rep],rfl⟩
 ·have hmem:=mem_left n1
  obtain⟨j,j1,j2,j3⟩:=hborn en hmem.1
  obtain⟨r,r1,r2⟩:=KS q5 j en (by simpa using j1)
  have hfl:fl[j]? =some false:=by
   have:=hmem.2
   rw[j2,i2,List.getD_eq_getElem?_getD] at this
   rw[List.getElem?_eq_getElem j3] at this⊢
   simpa using this
  have hr2:∃k x,r=[k,x]:=by
   have:=Bz r2
   match r,this with
   |[k,x],_=>exact⟨k,x,rfl⟩
  obtain⟨k,x,rfl⟩:=hr2
  obtain⟨vc2,e2,h2,p1,p2,p3⟩:=hQ1 j k x hfl r1
  let ob:Obj:= .mapIter (some (σ1.rb m)) fl.length (seen.push en.born) fl.length
  have hw1:w1.heap=σ1.w.heap∧SameO σ1.w w1:=by rcases n2 with rfl|rfl<;>exact⟨rfl,rfl,rfl⟩
  let σ2:Cf:={σ1 with w:=ChangeMaps.setBlock w1 b ob}
  have hbl:=(Array.getElem?_eq_some_iff.1 i1).1
  have hold:∀x,x≠b→σ2.w.heap[x]? =σ1.w.heap[x]? :=fun x hx=>by simp[σ2,ChangeMaps.setBlock,hw1.1,Ne.symm hx]
  have hnew:σ2.w.heap[b]? =some ob:=by simp[σ2,ChangeMaps.setBlock,hw1.1,hbl]
  have hsz:σ2.w.heap.size=σ1.w.heap.size:=by simp[σ2,ChangeMaps.setBlock,hw1.1]
  have io:SameO σ1.w σ2.w:=hw1.2
  have oth:Oth σ1 σ2:={
   rb:=rfl,ra:=rfl,ln:=rfl,al:=rfl,M:=rfl
   ou:=fun x hx=>⟨by have:=hI.h.ou x hx;omega,fun hM=>hI.h.dis x hM hx,fun hf=>hf.2.1 hx⟩
   sz:=by omega
   mem:=fun x hx=>hold x fun e=>ii.o.2 (e▸hx)
   fro:=fun x o y hx hc=>by rw[cell_of_heap (hold x fun e=>hx.2.1 (e▸ii.o.1))];exact hc
   io:=io}
  refine .inl ⟨.tuple #[.bool true,en.key,en.val],σ2.w,by(have n3':(Instr.next (.pointer (some ⟨b,0,none⟩)) false o.type).run (Ctx.mi P S nt hb N hnt).P σ1.w=_:=n3);simp[execOp,ho,hr,n3',Result.andThen,σ2,ob],σ2,_,.tup [.v (.bool true),k,x],vc2,e2,h2,rfl,oth,fun m' hm' hO=> ?_, ?_,⟨by have:=hG.1;omega,fun b' m' fl' la' hl'=> ?_⟩, ?_,p1,p2,p3⟩
  ·have hne:m'≠b:=fun e=>by rw[e,i1] at hm';cases hm'
   exact⟨(hold m' hne).trans hm',hO⟩
  ·refine⟨oth.ev,fun x hx h1 o ho hM=> ?_,fun x hx=>hx,by omega,io⟩
   by_cases hxb:x=b
   ·subst hxb;exact absurd hx (by omega)
   ·exact⟨(hold x hxb).trans ho,hM⟩
  ·have hl2:gI b m (fl.set j true) j=gI b' m' fl' la':=by simpa [lk] using hl'
   obtain⟨rfl,rfl,rfl,rfl⟩:=OA hl2
   refine⟨hNb,ii.o,ii.al,seen.push en.born, ?_,fun i=> ?_,fun _=>⟨seen,by rw[j2],by simpa using j3⟩⟩
   ·rw[hnew];simp[ob,σ2]
   ·rw[Array.contains_push,i2,j2]
    by_cases hij:i=j
    ·subst hij;simp[List.getD_eq_getElem?_getD,List.getElem?_set_self j3]
    ·have:(i==j)=false:=by simpa using hij
     rw[this,Bool.or_false]
     simp[List.getD_eq_getElem?_getD,List.getElem?_set_ne (Ne.symm hij)]
  ·simp only[RepL,List.cons.injEq] at r2
   obtain⟨y1,ys1,⟨rfl,rfl⟩,g1,y2,ys2,⟨rfl,_⟩,g2,_⟩:=r2
   simp only[Rep]
   exact⟨[.bool true,en.key,en.val],rfl,_,_,rfl,by simp[Rep],_,_,rfl,g1.monoE oth.ev,_,_,rfl,g2.monoE oth.ev,rfl⟩
theorem ZX (hS:TabOK P S) (i:Nat) (hyo:ops[i]? =some ⟨d,none,.ent x0⟩) (hex:Bl S (c+1) (100*rid) (ops.take i) e h=some (vc,e1,h1)) (hvc:vc) {b j:Nat} {fl:List Bool} (hx0:ung true (opv e1 x0)= .v (.pointer (some ⟨b,0,none⟩)))
  (hg:lk e1 ik=gI b m fl j) (hm:hl h1 (.c m 0)=some (mpE rows)) (hl0:rows.length=fl.length) {k x:AV} (hj:rows[j]? =some [k,x]) (hf:fl[j]? =some true)
  (hQ:∃(vc2:Prop) (e2:Env) (h2:Hp),Bl S (c+1) (100*rid+(i+1)) (ops.drop (i+1)) (BX d (.tup [k,x]) ((ik,gI b m fl j)::e1)) h1=some (vc2,e2,h2)∧vc2∧Q .n ⟨e2,h2,c+1⟩):
  awp (Ctx.mi P S nt hb N hnt) (.reg rid ops) Q ⟨e,h,c⟩:=by
 refine K1 (Ctx.mi_ok hS) (Eq.refl _) (gk:=ik) hnt (fun e=> ?_) i hyo hex hvc (Eq.refl _) (fun x e=>by cases e) (fun e=>by cases e) fun o a1 σ1 hk hI hG=> ?_
 ·have e':ik=nt+2000000:=e
  unfold ik at e'
  omega
 obtain⟨y,ho,rfl⟩:=eA hk
 have hr:=Eo (g:=true) rfl hI.t y
 rw[hx0] at hr
 simp only[Rep] at hr
 obtain⟨q1,q2,es,q3,q4,q5,q6⟩:=MapF.of hI.h hm
 have hlen:=Jl q5
 simp only[Array.length_toList] at hlen
 obtain⟨hNb,ii⟩:=hG.2 b m fl j hg
 obtain⟨seen,i1,i2,i3⟩:=ii.it
 obtain⟨s2,rfl,hjl⟩:=i3 ⟨true,List.mem_of_getElem? hf,rfl⟩
 have hes:es.size=fl.length:=by omega
 have he:es[j]? =some es[j]:=Array.getElem?_eq_getElem (by omega)
 have hbn:=q6 j _ he
 obtain⟨r,r1,r2⟩:=KS q5 j es[j] (by rw[Array.getElem?_toList];exact he)
 rw[hj] at r1
 cases r1
 have q3':σ1.w.heap[σ1.rb m]? =some (.map es fl.length):=by rw[←hes];exact q3
 have hnd:(es.toList.map (·.born)).Nodup:=by
  have:es.toList.map (·.born)=List.range es.size:=by
   apply List.ext_getElem?
   intro i
   rw[List.getElem?_map,Array.getElem?_toList]
   rcases Nat.lt_or_ge i es.size with h|h
   ·rw[Array.getElem?_eq_getElem h,List.getElem?_range h]
    simp[q6 i _ (Array.getElem?_eq_getElem h)]
   ·rw[Array.getElem?_eq_none h,List.getElem?_eq_none (by rw[List.length_range];exact h)];rfl
  rw[this];exact List.nodup_range
 have n2:(Instr.entry (.pointer (some ⟨b,0,none⟩))).run (Ctx.mi P S nt hb N hnt).P σ1.w= .ok (.tuple #[es[j].key,es[j].val]) σ1.w:=
  run_entry_at (P:=P) σ1.w b (σ1.rb m) fl.length s2 es fl.length es[j] (by rw[hbn];exact i1) q3' (by simp) hnd
 obtain⟨vc2,e2,h2,p1,p2,p3⟩:=hQ
 refine .inl ⟨.tuple #[es[j].key,es[j].val],σ1.w,by simp[execOp,ho,hr,n2,Result.andThen],σ1,_,.tup [k,x],vc2,e2,h2,rfl,Oth.refl fun x hx=>⟨hI.h.ou x hx,fun hM=>hI.h.dis x hM hx⟩,fun m' hm' hO=>⟨hm',hO⟩,(Evo.refl σ1).evoB,⟨hG.1,fun b' m' fl' la' hl'=> ?_⟩, ?_,p1,p2,p3⟩
 ·have hl2:gI b m fl j=gI b' m' fl' la':=by simpa [lk] using hl'
  obtain⟨rfl,rfl,rfl,rfl⟩:=OA hl2
  exact⟨hNb,ii⟩
 ·simp only[Rep]
  exact⟨[es[j].key,es[j].val],rfl,r2⟩
end
mutual
theorem OB {σ τ:Cf}:∀(x:AV) (v v':Value),Rep σ x v→Rep τ x v'→Rep {τ with al:=σ.al} x v'
 | .v _,_,_,_,h=>by simpa [Rep] using h
 | .sl a b c d,_,_,_,h=>Rep.ofPure (σ:=τ) (σ':={τ with al:=σ.al}) (fun b hb=>hb) (fun _ _=>rfl) (.sl a b c d) _ rfl h
 | .ro a b,_,_,_,h=>Rep.ofPure (σ:=τ) (σ':={τ with al:=σ.al}) (fun b hb=>hb) (fun _ _=>rfl) (.ro a b) _ rfl h
 | .agg cs,_,_,k,h=>by
  simp only[Rep] at h k⊢
  obtain⟨ys,k1,k2,k3⟩:=k
  obtain⟨xs,h1,h2,h3⟩:=h
  exact⟨xs,h1,h2,J0 cs ys xs k3 h3⟩
 | .tup cs,_,_,k,h=>by
  simp only[Rep] at h k⊢
  obtain⟨ys,k1,k3⟩:=k
  obtain⟨xs,h1,h3⟩:=h
  exact⟨xs,h1,J0 cs ys xs k3 h3⟩
 | .clo f cs bs,_,_,k,h=>by
  simp only[Rep] at h k⊢
  obtain⟨ys,zs,k1,k2,k3⟩:=k
  obtain⟨xs,us,h1,h2,h3⟩:=h
  exact⟨xs,us,h1,J0 cs ys xs k2 h2,J0 bs zs us k3 h3⟩
 | .box n o,_,_,k,h=>by simp only[Rep] at h k⊢;exact⟨k.1,h.2⟩
 | .own n l,_,_,k,h=>by simp only[Rep] at h k⊢;exact⟨k.1,h.2⟩
 | .elem _ _ _ _ _,_,_,k,h=>by simp only[Rep] at h k⊢;exact⟨k.1,h.2⟩
 | .mp _,_,_,k,h=>by simp only[Rep] at h k⊢;exact⟨k.1,h.2⟩
 | .gd b x,v,v',k,h=>by
  simp only[Rep] at h k⊢
  exact⟨fun hb=>OB x v v' (k.1 hb) (h.1 hb),h.2⟩
 | .un,_,_,_,_=>by simp[Rep]
theorem J0 {σ τ:Cf}:∀(xs:List AV) (vs vs':List Value),RepL σ xs vs→RepL τ xs vs'→RepL {τ with al:=σ.al} xs vs'
 |[],_,_,_,h=>by simpa [RepL] using h
 |x::xs,_,_,k,h=>by
  simp only[RepL] at h k⊢
  obtain⟨y,ys,_,k2,k3⟩:=k
  obtain⟨z,zs,h1,h2,h3⟩:=h
  exact⟨z,zs,h1,OB x y z k2 h2,J0 xs ys zs k3 h3⟩
end
theorem OC {σ τ:Cf} {sz b:Nat}:∀{rows:List (List AV)} {o:Nat} {b' o':Nat},RepRows σ sz b' o' rows→RepRows τ sz b o rows→RepRows {τ with al:=σ.al} sz b o rows
 |[],_,_,_,_,_=>by simp[RepRows]
 |r::rs,o,b',o',k,h=>by
  simp only[RepRows] at h k⊢
  refine⟨h.1,EE fun j c hc=> ?_,OC k.2.2 h.2.2⟩
  obtain⟨y,k1,k2,k3⟩:=FQ k.2.1 j c hc
  obtain⟨x,h1,h2,h3⟩:=FQ h.2.1 j c hc
  exact⟨x,h1,h2,OB c y x k3 h3⟩
theorem OD {σ τ:Cf}:∀{rows:List (List AV)} {es es':List MapEntry},RepEnts σ rows es→RepEnts τ rows es'→RepEnts {τ with al:=σ.al} rows es'
 |[],_,_,_,h=>h
 |r::rs,_,_,⟨e,es,k1,k2,k3⟩,⟨e',es',h1,h2,h3⟩=>⟨e',es',h1,J0 _ _ _ k2 h2,OD k3 h3⟩
theorem HInv.fgt {σ τ:Cf} {hp:Hp} (h:HInv σ hp) (k:HInv τ hp):HInv {τ with al:=σ.al} hp where
 ln:=k.ln
 cel n j c hc:=by
  obtain⟨h1,h2,h3⟩:=h.cel n j c hc
  obtain⟨k1,k2,k3⟩:=k.cel n j c hc
  refine⟨h1,k2, ?_⟩
  rcases k3 with⟨cs,T,x,g1,g2,g3,g4⟩|⟨rows,es,g1,g2,g3,g4,g5⟩
  ·refine .inl ⟨cs,T,x,g1,g2,g3, ?_⟩
   rcases h3 with⟨_,_,y,_,_,_,q4⟩|⟨rows,es,q1,_⟩
   ·exact OB c y x q4 g4
   ·rw[q1.1] at g4⊢
    simp only[Rep] at g4⊢
    refine⟨fun e=> ?_,g4.2⟩
    cases e
  ·refine .inr ⟨rows,es,g1,g2,g3, ?_,g5⟩
   rcases h3 with⟨_,_,y,_,_,q3,q4⟩|⟨rows',es',q1,_,_,q4,_⟩
   ·rw[g1.1] at q4
    simp only[Rep] at q4
    have:=q4.2 trivial
    subst this
    simp[undef,Bq] at q3
   ·have:=q1.1.symm.trans g1.1
    simp only[AV.gd.injEq,AV.sl.injEq,true_and,and_true] at this
    subst this
    exact OD q4 g4
 arr n sz live rows d hn:=by
  obtain⟨h1,h2,h3,h4⟩:=h.arr n sz live rows d hn
  obtain⟨k1,k2,k3,k4⟩:=k.arr n sz live rows d hn
  refine⟨h1,k2,k3, ?_⟩
  rcases k4 with⟨a,g1,g2⟩|⟨b,o,cap,g1,g2,g3,g4,g5,g6⟩
  ·exact .inl ⟨a,g1,g2⟩
  ·refine .inr ⟨b,o,cap,g1,g2,g3, ?_,g5,fun e=>g6 e⟩
   rcases h4 with⟨_,_,rfl⟩|⟨b',o',_,_,_,_,q4,_⟩
   ·simp[RepRows]
   ·exact OC q4 g4
 inj p q b hp hq:=k.inj p q b hp hq
 lt:=k.lt
 ou:=k.ou
 dis:=k.dis
theorem XW {P:Program} {S:Tab} (hS:TabOK P S) {f:Nat} (x:FnX P f) {args vs:List AV} {r:AV} (hfl:FD r=true) (hn:args.length≤x.nt)
  (h:∀hb hp cnt,args.map (qv hp)=vs→awp (Ctx.fn P S x.nt hb) x.c (Bw x.rv fun r' s=>wk r' r∧s.hp=hp) ⟨Cj 0 args,hp,cnt⟩):Ok P f args vs r:=by
 intro σ hp xs gl hI hal hx hv
 obtain⟨cnt,hal⟩:=hal
 refine callsIn_wide.1 ((LN hS x.hf x.hc x.hn hn gl hI hal hx (h _ hp cnt hv)).mono ?_)
 rintro en w' ⟨v,τ,s,r',rfl,rfl,e,g1,g2,g3,g4,rfl⟩
 refine⟨v,{τ with al:=σ.al},rfl,rfl,⟨fun n hn=>⟨hn,(e.box n hn).2⟩,e.arr,e.fro,e.out,e.sz,e.io⟩,hI.fgt g1,fun m hm=>hm,GQ r v hfl (Hx r' r v g4 g3)⟩
def KT (l:List (Nat×Spec)) (q:Nat→List AV→List AV→Option (Prop×AV)):Tab:=⟨IK l,false,false,noE,noP,q⟩
theorem eC (l q):(KT l q).f=IK l:=rfl
theorem eD (l q):(KT l q).w=false:=rfl
theorem eE (l q):(KT l q).m=false:=rfl
theorem eF (l q):(KT l q).e=noE:=rfl
theorem eG (l q):(KT l q).p=noP:=rfl
theorem eH (l q):(KT l q).q=q:=rfl
theorem Tf {P:Program} {l:List (Nat×Spec)} {q:Nat→List AV→List AV→Option (Prop×AV)} (h:TabOK P (Gb l)) (hq:∀f args vs vc r,q f args vs=some (vc,r)→vc→okF P f∧Ok P f args vs r):TabOK P (KT l q):=
 ⟨h.f,h.e,h.p,hq⟩
attribute [go_sem] eC eD eE eF eG eH
theorem HInv.ren {σ:Cf} {hp:Hp} (h:HInv σ hp) {n m:Nm} (hm:¬σ.al m) {sz:Nat} {rows rows':List (List AV)} {d:List AV} (hn:hl hp (.a n)=some (.sl sz true rows d)) (hlen:rows'.length=rows.length) (hpu:∀r∈rows',AB r=true) (hrep:∀b o cap,σ.ra n=(some ⟨b,o,none⟩,cap)→RepRows σ sz b o rows'):
  HInv (σ.move n m rows.length) ((.a m,.sl sz true rows' d)::(.a n,.un)::hp):=by
 have ev:=Evo.move (n:=n) (k:=rows.length) hm
 have hA:=h.arr n sz true rows d hn
 have hnm:n≠m:=by rintro rfl;exact hm hA.1
 have hc:∀p j,hl ((.a m,.sl sz true rows' d)::(.a n,.un)::hp) (.c p j)=hl hp (.c p j):=fun p j=>by
  simp only[hl];rw[if_neg (by intro e;cases e),if_neg (by intro e;cases e)]
 have ha:∀p,hl ((.a m,.sl sz true rows' d)::(.a n,.un)::hp) (.a p)=if p=m then some (.sl sz true rows' d) else if p=n then some .un else hl hp (.a p):=fun p=>by
  simp only[hl,Loc.a.injEq]
  by_cases e:p=m
  ·subst e;simp
  ·rw[if_neg (fun h=>e h.symm),if_neg e]
   by_cases e2:p=n
   ·subst e2;simp
   ·rw[if_neg (fun h=>e2 h.symm),if_neg e2]
 refine⟨fun p=> ?_,fun p j c hh=> ?_,fun p sz' live' rows2 d' hh=> ?_,fun p q b hp' hq'=> ?_,h.lt,h.ou,h.dis⟩
 ·unfold lenOf
  rw[ha]
  simp only[Cf.move]
  by_cases e:p=m
  ·rw[if_pos e,if_pos e];simp[hlen]
  ·rw[if_neg e,if_neg e]
   by_cases e2:p=n
   ·rw[if_pos e2,if_pos e2]
   ·rw[if_neg e2,if_neg e2];exact h.ln p
 ·rw[hc] at hh
  have q:=h.cel p j c hh
  exact q.keep ev q.2.1 rfl
 ·rw[ha] at hh
  by_cases e:p=m
  ·subst e
   rw[if_pos rfl] at hh
   cases hh
   obtain⟨q1,q2,q3,q4⟩:=hA
   refine⟨.inr rfl,q2,fun _=>hpu, ?_⟩
   rcases q4 with⟨a,g1,rfl⟩|⟨b,o,cap,g1,g2,g3,g4,g5,g6⟩
   ·exact .inl ⟨a,by simp[Cf.move,g1],List.eq_nil_of_length_eq_zero (by simpa using hlen)⟩
   ·exact .inr ⟨b,o,cap,by simp[Cf.move,g1],g2,by rw[hlen];exact g3,(hrep b o cap g1).keep ev fun j x _ hx=>hx,g5,fun e=>by cases e⟩
  ·rw[if_neg e] at hh
   by_cases e2:p=n
   ·rw[if_pos e2] at hh;cases hh
   ·rw[if_neg e2] at hh
    exact(h.arr p sz' live' rows2 d' hh).keep ev (by simp[Cf.move,e]) fun _ _ _ _ _ _ hM=>⟨hM,rfl⟩
 ·have key:∀p b,Owns (σ.move n m rows.length) ((.a m,.sl sz true rows' d)::(.a n,.un)::hp) p b→(p=(true,m)∧Owns σ hp (true,n) b)∨(p≠(true,m)∧p≠(true,n)∧Owns σ hp p b):=by
   rintro⟨f,p⟩ b (⟨h1,h2,j,c,h3⟩|⟨h1,⟨sz',rows2,d',h2⟩,o,cap,h3,h4⟩)
   ·simp only at h1 h2 h3
    subst h1
    rw[hc] at h3
    exact .inr ⟨by simp,by simp,.inl ⟨rfl,h2,j,c,h3⟩⟩
   ·simp only at h1 h2 h3
    subst h1
    rw[ha] at h2
    by_cases e:p=m
    ·subst e
     exact .inl ⟨rfl,.inr ⟨rfl,⟨_,_,_,hn⟩,o,cap,by simpa [Cf.move] using h3,h4⟩⟩
    ·rw[if_neg e] at h2
     by_cases e2:p=n
     ·rw[if_pos e2] at h2;cases h2
     ·rw[if_neg e2] at h2
      exact .inr ⟨by simp[e],by simp[e2],.inr ⟨rfl,⟨_,_,_,h2⟩,o,cap,by simpa [Cf.move,e] using h3,h4⟩⟩
  rcases key p b hp' with⟨rfl,a1⟩|⟨a0,a2,a1⟩<;>rcases key q b hq' with⟨rfl,b1⟩|⟨b0,b2,b1⟩
  ·rfl
  ·exact absurd (h.inj _ _ _ a1 b1).symm b2
  ·exact absurd (h.inj _ _ _ a1 b1) a2
  ·exact h.inj _ _ _ a1 b1
theorem RD {hp:Hp}:∀{cs:List AV},D3 hp cs→∀(j:Nat) (c:AV),cs[j]? =some c→rvc hp c
 |[],_,j,c,h=>by simp at h
 |x::xs,hv,0,c,h=>by simp only[D3] at hv;simp at h;subst h;exact hv.1
 |x::xs,hv,j+1,c,h=>by simp only[D3] at hv;exact RD hv.2 j c (by simpa using h)
theorem RE:∀{cs:List AV},E8 cs=true→∀(j:Nat) (c:AV),cs[j]? =some c→nob c=true
 |[],_,j,c,h=>by simp at h
 |x::xs,hv,0,c,h=>by simp only[E8,Bool.and_eq_true] at hv;simp at h;subst h;exact hv.1
 |x::xs,hv,j+1,c,h=>by simp only[E8,Bool.and_eq_true] at hv;exact RE hv.2 j c (by simpa using h)
theorem RF:∀{cs:List AV} (j:Nat) (c:AV),cs[j]? =some c→∀n∈ons c,n∈B8 cs
 |[],j,c,h,_,_=>by simp at h
 |x::xs,0,c,h,n,hn=>by simp at h;subst h;simp only[B8,List.mem_append];exact .inl hn
 |x::xs,j+1,c,h,n,hn=>by simp only[B8,List.mem_append];exact .inr (RF j c (by simpa using h) n hn)
theorem RG {hp:Hp} (cs:List AV):Ef hp cs=cs.map (res hp):=by
 induction cs with
 |nil=>rfl
 |cons c cs ih=>rw[Ef,ih,List.map_cons]
theorem XX {Γ:Ctx} (kn t:Nat) (L:List Nm) {n:Nm} {l sz:Nat} {rows rows':List (List AV)} {d:List AV} {x:AC} {Q:AE→St→Prop} {e:Env} {h:Hp} {c:Nat} (ht:t<Γ.nt) (he:lk e t= .own n l) (hn:hl h (.a n)=some (.sl sz true rows d)) (hl':l=rows.length)
  (hL:n∉L) (hrows:∀r∈rows,D3 h r∧E8 r=true∧∀m∈B8 r,m∈L) (hr':rows'=rows.map (Ef h)) (hpu:∀r∈rows',AB r=true)
  (hQ:awp Γ x Q ⟨(t,.own (kn,c+1) l)::e,(.a (kn,c+1),.sl sz true rows' d)::(.a n,.un)::(frz h L++h),c+1⟩):awp Γ x Q ⟨e,h,c⟩:=by
 intro code hcc σ a hA
 obtain⟨τ,ev,hI,hw,hal,hM,hra,hown,_⟩:=hA.1.h.frz L
 have hr:=hA.1.t t
 rw[he] at hr
 have hv:=GZ hA.1.h hn hr hl'
 have hm:¬τ.al (kn,c+1):=fun hm=>by have:=hA.2.1 _ (hal _ hm);simp at this;omega
 have hn1:hl (frz h L++h) (.a n)=some (.sl sz true rows d):=by rw[Iz hL];exact hn
 have hlen:rows'.length=rows.length:=by rw[hr',List.length_map]
 have hI2:=hI.ren (m:=(kn,c+1)) hm hn1 hlen hpu fun b o cap hb=>by
  obtain⟨_,_,_,q4⟩:=hA.1.h.arr n sz true rows d hn
  rw[hra] at hb
  have hR:RepRows σ sz b o rows:=by
   rcases q4 with⟨a',q4,rfl⟩|⟨b',o',cap',q4,_,_,q5,_⟩
   ·simp[RepRows]
   ·rw[q4] at hb
    simp only[Prod.mk.injEq,yE,Addr.mk.injEq,and_true] at hb
    obtain⟨⟨rfl,rfl⟩,rfl⟩:=hb
    exact q5
  subst hr'
  refine GY fun i r hi=> ?_
  rw[List.getElem?_map] at hi
  cases hri:rows[i]? with
  |none=>rw[hri] at hi;cases hi
  |some r0=>
   rw[hri] at hi
   cases hi
   obtain⟨g1,g2⟩:=E2 hR i r0 hri
   obtain⟨p1,p2,p3⟩:=hrows r0 (List.mem_of_getElem? hri)
   refine⟨by rw[RG,List.length_map];exact g1,EE fun j y hy=> ?_⟩
   rw[RG,List.getElem?_map] at hy
   cases hrj:r0[j]? with
   |none=>rw[hrj] at hy;cases hy
   |some y0=>
    rw[hrj] at hy
    cases hy
    obtain⟨v,k1,k2,k3⟩:=FQ g2 j y0 hrj
    exact⟨v,by rw[hw];exact k1,k2,K0 hA.1.h ev hw L hown y0 v (RD p1 j y0 hrj) (RE p2 j y0 hrj) (fun m hm=>p3 m (RF j y0 hrj m hm)) k3⟩
 have ev2:=ev.trans (Evo.move (n:=n) (k:=rows.length) hm)
 rw[show σ.w=(τ.move n (kn,c+1) rows.length).w from hw.symm]
 refine wpIn_mono (hQ code hcc (τ.move n (kn,c+1) rows.length) a ⟨⟨hI2,fun t'=> ?_,hA.1.sz,(hA.1.df.mono ev2).un (.inr (LB ht))⟩,fun m hm'=> ?_,Γ.g hA.2.2 ev2 fun t' ht'=> ?_⟩) fun e a w k=>k.mono (Γ.ofE ev2)
 ·simp only[lk]
  by_cases e:t=t'
  ·subst e
   rw[if_pos rfl]
   simp only[Rep] at hr⊢
   refine⟨.inr rfl,hr.2.1,fun l2 hl2=> ?_⟩
   simp only[Cf.move,if_true,yE] at hl2⊢
   subst hl2
   exact⟨by omega,fun _=>by rw[hra,hl'];exact hv⟩
  ·rw[if_neg e];exact(hA.1.t t').mono ev2
 ·rcases hm' with hm'|rfl
  ·have:=hA.2.1 m (hal m hm');simp at this⊢;omega
  ·simp
 ·right
  simp only[lk]
  rw[if_neg (by omega)]
theorem HInv.recel {σ:Cf} {hp:Hp} (h:HInv σ hp) {n:Nm} {j:Nat} {c c':AV} (hc:hl hp (.c n j)=some c) (hm:isM c=false)
  (hR:∀cs T x,σ.w.heap[σ.rb n]? =some (.cells cs T (0,0))→cs[j]? =some x→Rep σ c' x):HInv σ ((.c n j,c')::hp):=by
 have ha:∀m,hl ((.c n j,c')::hp) (.a m)=hl hp (.a m):=fun m=>by simp only[hl];rw[if_neg (by simp)]
 have ow:∀p b,Owns σ ((.c n j,c')::hp) p b→Owns σ hp p b:=by
  rintro⟨p1,p2⟩ x (⟨q1,q2,k,c2,q3⟩|⟨q1,⟨sz',rows',d',q2⟩,q3⟩)
  ·simp only[hl] at q3
   split at q3
   ·rename_i e
    simp only[Loc.c.injEq] at e
    refine .inl ⟨q1,q2,j,c, ?_⟩
    rw[←e.1];exact hc
   ·exact .inl ⟨q1,q2,k,c2,q3⟩
  ·rw[ha] at q2;exact .inr ⟨q1,⟨sz',rows',d',q2⟩,q3⟩
 refine⟨fun m=> ?_,fun m k c2 hk=> ?_,fun m sz live rows d hk=>h.arr m sz live rows d (by rw[←ha];exact hk),fun p q b hp hq=>h.inj p q b (ow p b hp) (ow q b hq),h.lt,h.ou,h.dis⟩
 ·rw[h.ln m];simp only[lenOf,ha]
 ·simp only[hl] at hk
  split at hk
  ·rename_i e
   simp only[Loc.c.injEq] at e
   obtain⟨rfl,rfl⟩:=e
   cases hk
   obtain⟨g1,g2,cs,T,x,g3,g4,g5,_⟩:=(h.cel n j c hc).cells hm
   exact⟨g1,g2,.inl ⟨cs,T,x,g3,g4,g5,hR cs T x g3 g4⟩⟩
  ·exact h.cel m k c2 hk
def QP (P:Program) (f sz:Nat) (rows:List (List AV)) (ax:List AV) (rows':List (List AV)):Prop:=
 ∀(σ:Cf) (vs vals:List Value) (base:Option Addr) (b o cap:Nat),Gl σ→(∀x,σ.M x∨σ.O x→x<σ.w.heap.size)→RepL σ ax vs→RepL σ rows.flatten vals→(∀x∈vals,Bq x=true)→vals.length=rows.length*sz→rows.length≤cap→
  (base=some ⟨b,o,none⟩∧0<cap∧Lies σ.w b o vals∧σ.M b∧(∃cs T,σ.w.heap[b]? =some (.cells cs T (0,0))∧o+cap*sz≤cs.size)∨cap=0∧σ.w.heap.size≤b)→
  Calls P f (.slice base rows.length cap::vs).toArray σ.w fun e w'=>∃vals':List Value,e= .returned (.tuple #[])∧KeptB b σ.w w'∧(rows=[]∨Lies w' b o vals'∧RepL σ rows'.flatten vals'∧∀x∈vals',Bq x=true)
theorem VG {P:Program} {σ:Cf} {hp:Hp} (gl:Gl σ) (h:HInv σ hp) {f sz len:Nat} {rows rows':List (List AV)} {ax d xs:List AV} {n nm bn:Nm} {j:Nat} {vs:List Value} {v0:Value}
  (hn:hl hp (.a n)=some (.sl sz true rows d)) (hlen:len=rows.length) (h0:Rep σ (.own n len) v0) (hx:RepL σ xs vs) (hax:Ef hp xs=ax) (hrv:D3 hp xs) (hnb:E8 xs=true) (hni:n∉B8 xs)
  (hbc:hl hp (.c bn j)=some (.own n len))
  (hr':∀r∈rows',r.length=sz∧AB r=true) (hl':rows'.length=rows.length) (hC:QP P f sz rows ax rows'):
  Calls P f (v0::vs).toArray σ.w fun e w'=>∃v σ',e= .returned v∧Next σ nm ((.c bn j,.sl sz false rows' d)::(.a n,.un)::(frz hp (B8 xs)++hp)) w' σ'∧Rep σ' (.tup []) v:=by
 obtain⟨σ1,f1,f2,f3,f4,f5,f6,f7,f8⟩:=h.frz (B8 xs)
 have hr:=G1 h f1 f3 (B8 xs) f7 xs vs hrv hnb (fun _ h=>h) hx
 rw[hax] at hr
 have hn1:hl (frz hp (B8 xs)++hp) (.a n)=some (.sl sz true rows d):=by rw[Iz hni];exact hn
 have hc1:hl (frz hp (B8 xs)++hp) (.c bn j)=some (.own n len):=by rw[Ly];exact hbc
 have hln:σ1.ln n=some rows.length:=by rw[f2.ln];simp[lenOf,hn1]
 have hv0:=h0.mono f1
 simp only[Rep] at hv0
 have hv:=(hv0.2.2 _ hln).2 hlen
 obtain⟨a1,a2,a3,a4⟩:=f2.arr n sz true rows d hn1
 obtain⟨vals,g1,g2,g3,g4,g5,g6⟩:=(f2.arr n sz true rows d hn1).vals
 have key:∃(base:Option Addr) (b o cap:Nat),σ1.ra n=(base,cap)∧rows.length≤cap∧(base=some ⟨b,o,none⟩∧0<cap∧Lies σ1.w b o vals∧σ1.M b∧(∃cs T,σ1.w.heap[b]? =some (.cells cs T (0,0))∧o+cap*sz≤cs.size)∨cap=0∧σ1.w.heap.size≤b):=by
  rcases a4 with⟨a,a4,a5⟩|⟨b,o,cap,a4,a5,a6,a7,a8,a9⟩
  ·exact⟨a,σ1.w.heap.size,0,0,a4,by rw[a5];exact Nat.le_refl _,.inr ⟨rfl,Nat.le_refl _⟩⟩
  ·refine⟨some ⟨b,o,none⟩,b,o,cap,a4,a6,.inl ⟨rfl,a5, ?_,(a8 rfl).1,(a8 rfl).2⟩⟩
   rw[a4] at g3
   rcases g3 with rfl|⟨b2,o2,g3,g3'⟩
   ·intro j v hj;simp at hj
   ·simp at g3
    rw[g3.1,g3.2]
    exact g3'
 obtain⟨base,b,o,cap,k1,k2,k3⟩:=key
 have hor:σ1.ra n=(some ⟨b,o,none⟩,cap)∧0<cap∨σ1.w.heap.size≤b:=by
  rcases k3 with⟨rfl,k3,_⟩|⟨_,k3⟩
  ·exact .inl ⟨k1,k3⟩
  ·exact .inr k3
 have hc:=hC σ1 vs vals base b o cap (gl.mono f1) (fun x hx=>hx.elim (f2.lt x) (f2.ou x)) hr g1 g2 g5 k2 k3
 rw[k1,hlen] at hv
 obtain⟨m1,m2,cs1,T1,x1,m3,m4,m5,m6⟩:=(f2.cel bn j _ hc1).cells rfl
 simp only[Rep] at m6
 have hx1:=(m6.2.2 _ hln).2 hlen
 rw[k1,hlen] at hx1
 have hne:σ1.rb bn≠b:=by
  intro e
  have hlt:=f2.lt _ m2
  rcases k3 with⟨rfl,k4,_,k5,_⟩|⟨_,k3⟩
  ·have o1:Owns σ1 (frz hp (B8 xs)++hp) (false,bn) b:= .inl ⟨rfl,e,j,_,hc1⟩
   have o2:Owns σ1 (frz hp (B8 xs)++hp) (true,n) b:= .inr ⟨rfl,⟨sz,rows,d,hn1⟩,⟨o,cap,k1,k4⟩⟩
   have:=f2.inj _ _ _ o1 o2
   simp at this
  ·omega
 have hlt1:=f2.lt _ m2
 subst hv
 rw[f3] at hc
 refine hc.mono ?_
 rintro en w' ⟨vals',rfl,q2,q6⟩
 obtain⟨e2,i2⟩:=f2.gone hn1 hor (w':=w') (by rw[f3];exact q2)
 refine⟨_,_,rfl,⟨f1.trans e2,i2.recel (by simp only[hl];rw[if_neg (by simp)];exact hc1) rfl (c':= .sl sz false rows' d) ?_,rfl,fun m hm=> .inl (f4 m hm)⟩,⟨[],rfl,rfl⟩⟩
 intro cs T x hh hj
 have hw:w'.heap[σ1.rb bn]? =σ1.w.heap[σ1.rb bn]? :=by rw[f3] at hlt1⊢;exact q2.heap _ hlt1 hne
 rw[show w'.heap[σ1.rb bn]? =some (.cells cs T (0,0)) from hh] at hw
 rw[m3] at hw
 cases hw
 rw[m4] at hj
 cases hj
 rw[hx1]
 simp only[Rep]
 refine⟨base,cap,by rw[hl'],by rw[hl'];exact k2,(fun e=>by cases e),fun r hr=>(hr' r hr).2, ?_⟩
 rcases q6 with q6|⟨q6,q7,q5⟩
 ·left
  rw[q6] at hl'
  exact List.eq_nil_of_length_eq_zero hl'
 ·rcases k3 with⟨rfl,k4,_,k5,_⟩|⟨k4,_⟩
  ·refine .inr ⟨b,o,rfl,⟨fun hM=>hM.2 rfl,fun hO=>f2.dis b k5 hO, ?_⟩,D9 (q7.mono e2) q5 q6 fun r hr=>(hr' r hr).1⟩
   have:=f2.lt b k5
   have:=q2.sz
   rw[f3] at*
   show b<w'.heap.size
   omega
  ·left
   have:rows'.length=0:=by omega
   exact List.eq_nil_of_length_eq_zero this
theorem ZY {Γ:Ctx} (hΓ:Γ.OK) (i:Nat) {rid:Nat} {ops:List AOp} {Q:AE→St→Prop} {e e1:Env} {h h1:Hp} {c:Nat} {vc:Prop} {dd:Option Nat} {f:Nat} {x0:Opd} {xo:List Opd} {sz len:Nat} {rows rows':List (List AV)} {ax d:List AV} {n bn:Nm} {j:Nat}
  (hf:okF Γ.P f) (hyo:ops[i]? =some ⟨dd,none,.call f (x0::xo)⟩) (hex:Bl Γ.S (c+1) (100*rid) (ops.take i) e h=some (vc,e1,h1)) (hvc:vc)
  (h0:ung true (opv e1 x0)= .own n len) (hn:hl h1 (.a n)=some (.sl sz true rows d)) (hlen:len=rows.length) (hax:Ef h1 (xo.map fun x=>ung true (opv e1 x))=ax) (hrv:D3 h1 (xo.map fun x=>ung true (opv e1 x))) (hnb:E8 (xo.map fun x=>ung true (opv e1 x))=true)
  (hni:n∉B8 (xo.map fun x=>ung true (opv e1 x))) (hbc:hl h1 (.c bn j)=some (.own n len)) (hr':∀r∈rows',r.length=sz∧AB r=true) (hl':rows'.length=rows.length) (hC:QP Γ.P f sz rows ax rows')
  {vc2:Prop} {e2:Env} {h3:Hp} (hpost:Bl Γ.S (c+1) (100*rid+(i+1)) (ops.drop (i+1)) (BX dd (.tup []) e1) ((.c bn j,.sl sz false rows' d)::(.a n,.un)::(frz h1 (B8 (xo.map fun x=>ung true (opv e1 x)))++h1))=some (vc2,e2,h3)) (hvc2:vc2) (hQ:Q .n ⟨e2,h3,c+1⟩):
  awp Γ (.reg rid ops) Q ⟨e,h,c⟩:=by
 refine Pu hΓ i hyo hex hvc (Eq.refl _) (fun x e=>by cases e) (fun e=>by cases e) (fun o a1 σ1 hk hI hnm=> ?_) hpost hvc2 hQ
 obtain⟨cl,ho,hcl,hargs⟩:=MY hk
 have hV:=EX (g:=true) rfl hI.t cl.args.toList
 rw[←hargs] at hV
 simp only[List.map_cons,RepL] at hV
 obtain⟨y,vs,hvs,hy,hV⟩:=hV
 have hy:Rep σ1 (ung true (opv e1 x0)) y:=hy
 rw[h0] at hy
 have hc:=VG (nm:=(100*rid+i,c+1)) hI.df.gl hI.h hn hlen hy hV hax hrv hnb hni hbc hr' hl' hC
 refine .inr ⟨f,_, ?_,hc⟩
 have hr:=EH hf (cl.args.map a1.eval) σ1.w
 have ha:cl.args.map a1.eval=(y::vs).toArray:=by
  rw[←hvs];apply Array.ext';simp
 rw[ha] at hr
 simp only[execOp,ho,resolve,hcl,Act.eval,Sem.run_bind,Deferred.ofValue,Sem.run_pure,Result.andThen,invoke]
 first|exact hr|(simp[ha];exact hr)
def Ud (P:Program) (f sz:Nat) (rows:List (List AV)) (ax:List AV) (rows':List (List AV)):Prop:=
 ∀(σ:Cf) (vs vals:List Value) (base:Option Addr) (b o cap:Nat),Gl σ→(∀x,σ.M x∨σ.O x→x<σ.w.heap.size)→RepL σ ax vs→RepL σ rows.flatten vals→(∀x∈vals,Bq x=true)→vals.length=rows.length*sz→rows.length≤cap→
  (base=some ⟨b,o,none⟩∧0<cap∧Lies σ.w b o vals∧σ.M b∧(∃cs T,σ.w.heap[b]? =some (.cells cs T (0,0))∧o+cap*sz≤cs.size)∨cap=0∧σ.w.heap.size≤b)→
  Calls P f (.slice base rows.length cap::vs).toArray σ.w fun e w'=>∃vals':List Value,e= .returned (.tuple #[])∧KeptB b σ.w w'∧(∀cs T,σ.w.heap[b]? =some (.cells cs T (0,0))→∃cs',w'.heap[b]? =some (.cells cs' T (0,0))∧cs'.size=cs.size)∧(rows=[]∨Lies w' b o vals'∧RepL σ rows'.flatten vals'∧∀x∈vals',Bq x=true)
theorem VH {P:Program} {σ:Cf} {hp:Hp} (gl:Gl σ) (h:HInv σ hp) {f sz len:Nat} {rows rows':List (List AV)} {ax d xs:List AV} {n nm:Nm} {vs:List Value} {v0:Value}
  (hn:hl hp (.a n)=some (.sl sz true rows d)) (hlen:len=rows.length) (h0:Rep σ (.own n len) v0) (hx:RepL σ xs vs) (hax:Ef hp xs=ax) (hrv:D3 hp xs) (hnb:E8 xs=true) (hni:n∉B8 xs)
  (hr':∀r∈rows',r.length=sz∧AB r=true) (hl':rows'.length=rows.length) (hC:Ud P f sz rows ax rows'):
  Calls P f (v0::vs).toArray σ.w fun e w'=>∃v σ',e= .returned v∧Next σ nm ((.a n,.sl sz true rows' d)::(frz hp (B8 xs)++hp)) w' σ'∧Rep σ' (.tup []) v:=by
 obtain⟨σ1,f1,f2,f3,f4,f5,f6,f7,f8⟩:=h.frz (B8 xs)
 have hr:=G1 h f1 f3 (B8 xs) f7 xs vs hrv hnb (fun _ h=>h) hx
 rw[hax] at hr
 have hn1:hl (frz hp (B8 xs)++hp) (.a n)=some (.sl sz true rows d):=by rw[Iz hni];exact hn
 have hln:σ1.ln n=some rows.length:=by rw[f2.ln];simp[lenOf,hn1]
 have hv0:=h0.mono f1
 simp only[Rep] at hv0
 have hv:=(hv0.2.2 _ hln).2 hlen
 obtain⟨a1,a2,a3,a4⟩:=f2.arr n sz true rows d hn1
 obtain⟨vals,g1,g2,g3,g4,g5,g6⟩:=(f2.arr n sz true rows d hn1).vals
 have key:∃(base:Option Addr) (b o cap:Nat),σ1.ra n=(base,cap)∧rows.length≤cap∧(base=some ⟨b,o,none⟩∧0<cap∧Lies σ1.w b o vals∧σ1.M b∧(∃cs T,σ1.w.heap[b]? =some (.cells cs T (0,0))∧o+cap*sz≤cs.size)∨cap=0∧σ1.w.heap.size≤b):=by
  rcases a4 with⟨a,a4,a5⟩|⟨b,o,cap,a4,a5,a6,a7,a8,a9⟩
  ·exact⟨a,σ1.w.heap.size,0,0,a4,by rw[a5];exact Nat.le_refl _,.inr ⟨rfl,Nat.le_refl _⟩⟩
  ·refine⟨some ⟨b,o,none⟩,b,o,cap,a4,a6,.inl ⟨rfl,a5, ?_,(a8 rfl).1,(a8 rfl).2⟩⟩
   rw[a4] at g3
   rcases g3 with rfl|⟨b2,o2,g3,g3'⟩
   ·intro j v hj;simp at hj
   ·simp at g3
    rw[g3.1,g3.2]
    exact g3'
 obtain⟨base,b,o,cap,k1,k2,k3⟩:=key
 have hc:=hC σ1 vs vals base b o cap (gl.mono f1) (fun x hx=>hx.elim (f2.lt x) (f2.ou x)) hr g1 g2 g5 k2 k3
 rw[k1,hlen] at hv
 subst hv
 rw[f3] at hc
 refine hc.mono ?_
 rintro en w' ⟨vals',rfl,q2,q3,q6⟩
 rw[←f3] at q2 q3
 have hMb:σ1.M b∨σ1.w.heap.size≤b:=by
  rcases k3 with⟨_,_,_,k5,_⟩|⟨_,k3⟩
  ·exact .inl k5
  ·exact .inr k3
 have ev:Evo σ1 (σ1.setArr n (σ1.ra n) σ1.M rows'.length w'):=Evo.setArr (.inr ⟨_,hln,by rw[hl'];exact Nat.le_refl _,fun _=>rfl⟩)
  (fun x ob hx hM=>by
   have hlt:=(Array.getElem?_eq_some_iff.1 hx).1
   have hne:x≠b:=fun e=>hMb.elim (fun k=>hM (e▸k)) (fun k=>by omega)
   exact⟨(q2.heap x hlt hne).trans hx,hM⟩) q2.sz q2.io
 have i2:HInv (σ1.setArr n (σ1.ra n) σ1.M rows'.length w') ((.a n,.sl sz true rows' d)::(frz hp (B8 xs)++hp)):=by
  refine f2.setArr ev (fun x hM hno=>⟨hM,q2.heap x (f2.lt x hM) ?_⟩) ⟨.inl a1,a2,fun _ r hr=>(hr' r hr).2, ?_⟩ (fun _ b2 o2 cap2 e2 c2=> .inl (.inr ⟨rfl,⟨sz,rows,d,hn1⟩,o2,cap2,e2,c2⟩)) (fun x hM=>Nat.lt_of_lt_of_le (f2.lt x hM) q2.sz) q2.sz
  ·rintro rfl
   rcases k3 with⟨rfl,k4,_,k5,_⟩|⟨_,k3⟩
   ·exact hno (.inr ⟨rfl,⟨sz,rows,d,hn1⟩,o,cap,k1,k4⟩)
   ·exact absurd (f2.lt _ hM) (by omega)
  ·have hra:(σ1.setArr n (σ1.ra n) σ1.M rows'.length w').ra n=(base,cap):=by simp[Cf.setArr,k1]
   rcases k3 with⟨rfl,k4,_,k5,cs,T,k6,k7⟩|⟨rfl,_⟩
   ·refine .inr ⟨b,o,cap,hra,k4,by rw[hl'];exact k2, ?_,fun _=>⟨k5, ?_⟩,fun e=>by cases e⟩
    ·rcases q6 with q6|⟨q6,q7,q5⟩
     ·rw[q6] at hl'
      rw[List.eq_nil_of_length_eq_zero hl']
      simp[RepRows]
     ·exact D9 (q7.mono ev) q5 q6 fun r hr=>(hr' r hr).1
    ·obtain⟨cs',q8,q9⟩:=q3 cs T k6
     exact⟨cs',T,q8,by rw[q9];exact k7⟩
   ·refine .inl ⟨base,hra, ?_⟩
    have:rows'.length=0:=by omega
    exact List.eq_nil_of_length_eq_zero this
 exact⟨_,_,rfl,⟨f1.trans ev,i2,rfl,fun m hm=> .inl (hm.elim (f4 m) fun e=>by subst e;exact f4 _ a1)⟩,⟨[],rfl,rfl⟩⟩
theorem Z0 {Γ:Ctx} (hΓ:Γ.OK) (i:Nat) {rid:Nat} {ops:List AOp} {Q:AE→St→Prop} {e e1:Env} {h h1:Hp} {c:Nat} {vc:Prop} {dd:Option Nat} {f:Nat} {x0:Opd} {xo:List Opd} {sz len:Nat} {rows rows':List (List AV)} {ax d:List AV} {n:Nm}
  (hf:okF Γ.P f) (hyo:ops[i]? =some ⟨dd,none,.call f (x0::xo)⟩) (hex:Bl Γ.S (c+1) (100*rid) (ops.take i) e h=some (vc,e1,h1)) (hvc:vc)
  (h0:ung true (opv e1 x0)= .own n len) (hn:hl h1 (.a n)=some (.sl sz true rows d)) (hlen:len=rows.length) (hax:Ef h1 (xo.map fun x=>ung true (opv e1 x))=ax) (hrv:D3 h1 (xo.map fun x=>ung true (opv e1 x))) (hnb:E8 (xo.map fun x=>ung true (opv e1 x))=true)
  (hni:n∉B8 (xo.map fun x=>ung true (opv e1 x))) (hr':∀r∈rows',r.length=sz∧AB r=true) (hl':rows'.length=rows.length) (hC:Ud Γ.P f sz rows ax rows')
  {vc2:Prop} {e2:Env} {h3:Hp} (hpost:Bl Γ.S (c+1) (100*rid+(i+1)) (ops.drop (i+1)) (BX dd (.tup []) e1) ((.a n,.sl sz true rows' d)::(frz h1 (B8 (xo.map fun x=>ung true (opv e1 x)))++h1))=some (vc2,e2,h3)) (hvc2:vc2) (hQ:Q .n ⟨e2,h3,c+1⟩):
  awp Γ (.reg rid ops) Q ⟨e,h,c⟩:=by
 refine Pu hΓ i hyo hex hvc (Eq.refl _) (fun x e=>by cases e) (fun e=>by cases e) (fun o a1 σ1 hk hI hnm=> ?_) hpost hvc2 hQ
 obtain⟨cl,ho,hcl,hargs⟩:=MY hk
 have hV:=EX (g:=true) rfl hI.t cl.args.toList
 rw[←hargs] at hV
 simp only[List.map_cons,RepL] at hV
 obtain⟨y,vs,hvs,hy,hV⟩:=hV
 have hy:Rep σ1 (ung true (opv e1 x0)) y:=hy
 rw[h0] at hy
 have hc:=VH (nm:=(100*rid+i,c+1)) hI.df.gl hI.h hn hlen hy hV hax hrv hnb hni hr' hl' hC
 refine .inr ⟨f,_, ?_,hc⟩
 have hr:=EH hf (cl.args.map a1.eval) σ1.w
 have ha:cl.args.map a1.eval=(y::vs).toArray:=by
  rw[←hvs];apply Array.ext';simp
 rw[ha] at hr
 simp only[execOp,ho,resolve,hcl,Act.eval,Sem.run_bind,Deferred.ofValue,Sem.run_pure,Result.andThen,invoke]
 first|exact hr|(simp[ha];exact hr)
theorem XY {Γ:Ctx} (t:Nat) (y:AV) {x0:AV} {x:AC} {Q:AE→St→Prop} {e:Env} {h:Hp} {c:Nat} (ht:t<Γ.nt) (he:lk e t=x0)
  (hw:∀σ v,Rep σ x0 v→Rep σ y v) (hQ:awp Γ x Q ⟨(t,y)::e,h,c⟩):awp Γ x Q ⟨e,h,c⟩:=by
 intro code hcc σ a hA
 have hr:=hA.1.t t
 rw[he] at hr
 have ev:=Evo.refl σ
 refine hQ code hcc σ a ⟨⟨hA.1.h,fun t'=> ?_,hA.1.sz,(hA.1.df.mono ev).un (.inr (LB ht))⟩,hA.2.1,Γ.g hA.2.2 ev fun t' ht'=> ?_⟩
 ·simp only[lk]
  by_cases e:t=t'
  ·subst e;rw[if_pos rfl];exact hw _ _ hr
  ·rw[if_neg e];exact hA.1.t t'
 ·right
  simp only[lk]
  rw[if_neg (by omega)]
theorem rK {Γ:Ctx} (t:Nat) {z:Nat} {f:Bool} {d:List AV} {x:AC} {Q:AE→St→Prop} {e:Env} {h:Hp} {c:Nat} (ht:t<Γ.nt) (he:lk e t= .sl z f [] d)
  (h1:∀k,awp Γ x Q ⟨(t,.v (.slice none 0 k))::e,h,c⟩) (h2:∀b k,awp Γ x Q ⟨(t,.v (.slice (some b) 0 k))::e,h,c⟩):awp Γ x Q ⟨e,h,c⟩:=by
 intro code hcc σ a hA
 have hr:=hA.1.t t
 rw[he] at hr
 obtain⟨base,cap,hv,_⟩:=hr
 have ev:=Evo.refl σ
 have key:∀y,(∀v,v=a.tmps.getD t undef→Rep σ y v)→awp Γ x Q ⟨(t,y)::e,h,c⟩→code.wpIn Γ.F 0 Γ.P (lift Γ σ Q) a σ.w:=fun y hw hQ=>by
  refine hQ code hcc σ a ⟨⟨hA.1.h,fun t'=> ?_,hA.1.sz,(hA.1.df.mono ev).un (.inr (LB ht))⟩,hA.2.1,Γ.g hA.2.2 ev fun t' ht'=> ?_⟩
  ·simp only[lk]
   by_cases e:t=t'
   ·subst e;rw[if_pos rfl];exact hw _ rfl
   ·rw[if_neg e];exact hA.1.t t'
  ·right
   simp only[lk]
   rw[if_neg (by omega)]
 cases base with
 |none=>exact key _ (fun v e=>by subst e;simp only[Rep];exact hv) (h1 cap)
 |some b=>exact key _ (fun v e=>by subst e;simp only[Rep];exact hv) (h2 b cap)
theorem rL {σ:Cf} {z:Nat} {d:List AV} {b:Option Addr} {k:Nat} (v:Value) (h:Rep σ (.v (.slice b 0 k)) v):Rep σ (.sl z false [] d) v:=by
 simp only[Rep] at h⊢
 exact⟨b,k,h,Nat.zero_le _,fun h=>Bool.noConfusion h,fun r hr=>absurd hr List.not_mem_nil,.inl trivial⟩
theorem XZ {Γ:Ctx} (m:Nm) (j:Nat) (y:AV) {x0:AV} {x:AC} {Q:AE→St→Prop} {e:Env} {h:Hp} {c:Nat} (he:hl h (.c m j)=some x0) (hm:isM x0=false)
  (hw:∀σ v,Rep σ x0 v→Rep σ y v) (hQ:awp Γ x Q ⟨e,(.c m j,y)::h,c⟩):awp Γ x Q ⟨e,h,c⟩:=by
 intro code hc σ a hA
 obtain⟨k1,k2,cs,T,v,k3,k4,k5,k6⟩:=(hA.1.h.cel m j _ he).cells hm
 have hI:=hA.1.h
 have ev:=Evo.refl σ
 refine hQ code hc σ a ⟨⟨⟨fun n'=> ?_,fun n' j' c' hc'=> ?_,fun n' sz live rows d' hc'=> ?_,fun p q b hp hq=> ?_,hI.lt,hI.ou,hI.dis⟩,hA.1.t,hA.1.sz,hA.1.df⟩,hA.2.1,hA.2.2⟩
 ·have:=hI.ln n'
  simpa only[lenOf,hl,if_neg (show¬Loc.c m j=Loc.a n' by intro e;cases e)] using this
 ·simp only[hl] at hc'
  by_cases e:Loc.c m j=Loc.c n' j'
  ·rw[if_pos e] at hc'
   cases e
   simp at hc'
   subst hc'
   exact⟨k1,k2,.inl ⟨cs,T,_,k3,k4,k5,hw _ _ k6⟩⟩
  ·rw[if_neg e] at hc'
   exact hI.cel n' j' c' hc'
 ·simp only[hl,if_neg (show¬Loc.c m j=Loc.a n' by intro e;cases e)] at hc'
  exact hI.arr n' sz live rows d' hc'
 ·have key:∀p b,Owns σ ((.c m j,y)::h) p b→Owns σ h p b:=by
   rintro p b (⟨g1,g2,j',c',g3⟩|⟨g1,⟨sz,rows,d',g2⟩,o,cap,g3,g4⟩)
   ·simp only[hl] at g3
    by_cases e:Loc.c m j=Loc.c p.2 j'
    ·cases e
     exact .inl ⟨g1,g2,j,x0,he⟩
    ·rw[if_neg e] at g3
     exact .inl ⟨g1,g2,j',c',g3⟩
   ·simp only[hl] at g2
    rw[if_neg (by intro e;cases e)] at g2
    exact .inr ⟨g1,⟨sz,rows,d',g2⟩,o,cap,g3,g4⟩
  exact hI.inj p q b (key p b hp) (key q b hq)
theorem Tg {σ:Cf} {z z':Nat} {f:Bool} {d d':List AV} (v:Value) (h:Rep σ (.sl z f [] d) v):Rep σ (.sl z' false [] d') v:=by
 simp only[Rep] at h⊢
 obtain⟨b,k,h1,h2,_⟩:=h
 exact⟨b,k,h1,h2,fun h=>Bool.noConfusion h,fun r hr=>absurd hr List.not_mem_nil,.inl trivial⟩
theorem Z1 {Γ:Ctx} (m:Nm) (j:Nat) (z':Nat) (d':List AV) {z:Nat} {f:Bool} {d:List AV} {x:AC} {Q:AE→St→Prop} {e:Env} {h:Hp} {c:Nat} (he:hl h (.c m j)=some (.sl z f [] d))
  (hQ:awp Γ x Q ⟨e,(.c m j,.sl z' false [] d')::h,c⟩):awp Γ x Q ⟨e,h,c⟩:=XZ m j _ he rfl (fun _=>Tg) hQ
end Go.Proofs.YtciphecegkfaiaaGreat.Am
