import Derived.Test.YtdabfcbelkjmgaaGreatDoorA16
namespace Go.Proofs.YtdabfcbelkjmgaaGreatDoor.Am
set_option linter.unusedSimpArgs false
set_option linter.unusedVariables false
open Go
def D1 (S:Tab) (hp:Hp) (f:Nat) (args:List AV):Option (Prop×Value):=
 match Bo args with
 |some n=>match S.p f args (A3 hp n 0 40) with
  |some (vc,v)=>some (Cp args=true∧CA (A3 hp n 0 40)=true∧(A3 hp n 0 40).isEmpty=false∧Du hp n (A3 hp n 0 40).length∧vc,v)
  |none=>none
 |none=>none
theorem Ke {S:Tab} {hp hp':Hp} {f:Nat} {xs:List AV} (h:Ag hp hp' (rdL hp xs)):D1 S hp f xs=D1 S hp' f xs:=by
 unfold D1
 cases hb:Bo xs with
 |none=>rfl
 |some n=>
  have h5:∀j,hl hp (.c n j)=hl hp' (.c n j):=fun j=>h (.b n) (G7 hb) _ ⟨j,rfl⟩
  have h6:Du hp n=Du hp' n:=by funext k;unfold Du;simp only[h5]
  simp only[DJ h5,h6]
section
variable {P:Program} {S:Tab} {σ:Cf} {hp:Hp} {vc:Prop}
theorem MT (hS:TabOK P S) (gl:Gl σ) (h:HInv σ hp) {f:Nat} {args:List AV} {vs:List Value} {v:Value} (hx:RepL σ args vs) (hex:D1 S hp f args=some (vc,v)) (hvc:vc):
  okF P f∧Calls P f vs.toArray σ.w fun e w'=>∃σ',e= .panicked [⟨v,false,false⟩]∧σ'.w=w'∧Evo σ σ'∧HInv σ' hp∧∀m,σ'.al m→σ.al m:=by
 unfold D1 at hex
 split at hex
 ·rename_i n hn
  split at hex
  ·rename_i p v' hs
   simp only[yE,Prod.mk.injEq] at hex
   obtain⟨rfl,rfl⟩:=hex
   obtain⟨v1,v4,v5,v6,v7⟩:=hvc
   obtain⟨k1,k2⟩:=hS.p f _ _ _ _ n hs v7 hn
   refine⟨k1, ?_⟩
   have hc:∀j c,(A3 hp n 0 40)[j]? =some c↔hl hp (.c n j)=some c:=fun j c=>by
    refine⟨fun h=>by simpa using D7 h,fun h=> ?_⟩
    rcases Nat.lt_or_ge j (A3 hp n 0 40).length with h1|h1
    ·rw[List.getElem?_eq_getElem h1]
     have:=D7 (List.getElem?_eq_getElem h1)
     rw[Nat.zero_add,h] at this
     exact this.symm
    ·rw[v6 j h1] at h;cases h
   refine(k2 (σ.only n) vs (fun b j hj=>⟨(gl b j hj).1.only,(gl b j hj).2⟩) (h.only (fun j c h=>(hc j c).1 h) v4) (fun m hm=>hm.1) (Fy v1 hn hx)).mono ?_
   rintro en w' ⟨σ',rfl,hw,ev,hcel⟩
   obtain⟨e1,e2⟩:=h.back (us:=[]) hc v5 v4 rfl hw ev hcel
   exact⟨σ.at w',rfl,rfl,e1,e2,fun m hm=>hm⟩
  ·simp at hex
 ·simp at hex
theorem Jh {F:Fence} (hS:TabOK P S) (hF:Wide F) {n nt i:Nat} {hb:HB} {ops:Array Oper} {Q:Exit→Act→World→Prop} {K:Act→World→Prop} {o:Oper} {a:Act} {env:Env} {d:Option Nat} {f:Nat} {ys:List Opd} {v:Value}
  (hi:ops[i]? =some o) (hc:cOp P nt ops o=some ⟨d,none,.call f ys⟩) (hI:Inv σ env hp a nt hb) (hex:D1 S hp f (ys.map fun x=>ung true (opv env x))=some (vc,v)) (hvc:vc)
  (hQ:∀σ',Evo σ σ'→HInv σ' hp→(∀m,σ'.al m→σ.al m)→Q (.panic [⟨v,false,false⟩]) a σ'.w):wpOpIn F n P ops Q i K a σ.w:=by
 obtain⟨c,ho,hcal,rfl,hd,hg⟩:=JA hc rfl
 have hw:=BH (ao:=none) hI.t hg rfl
 obtain⟨k1,k2⟩:=MT hS hI.df.gl hI.h (Ci rfl hI.t c.args.toList) hex hvc
 unfold wpOpIn
 simp only[hi,hw,if_true]
 refine⟨fun f _=>hF.fn f, ?_⟩
 rw[Oper.semAt_eq F.round a.eval o (fun c' e=>by rw[ho] at e;cases e)]
 have hr:(execOp a.eval o).run P σ.w= .ok (.enter f (c.args.toList.map a.eval).toArray) σ.w:=by
  have hr:=BN k1 (c.args.map a.eval) σ.w
  rw[←Array.toList_map,Array.toArray_toList]
  simp[execOp,ho,resolve,hcal,Act.eval,Deferred.ofValue,invoke,hr]
 rw[hr]
 refine⟨fun h=>by simp[hF.depth] at h,hF.calls (k2.mono ?_)⟩
 rintro e w' ⟨σ',rfl,rfl,ev,hh,hal⟩
 exact hQ σ' ev hh hal
end
def unE:List AOp→Env→Env
 |[],e=>e
 |o::l,e=>AX o.d .un (unE l e)
theorem LD:∀(l:List AOp) (e:Env) (t:Nat),lk (unE l e) t= .un∨(lk (unE l e) t=lk e t∧∀o∈l,o.d≠some t)
 |[],e,t=> .inr ⟨rfl,by simp⟩
 |o::l,e,t=>by
  simp only[unE,HI]
  by_cases h:o.d=some t
  ·rw[if_pos h];exact .inl rfl
  ·rw[if_neg h]
   rcases LD l e t with h1|⟨h1,h2⟩
   ·exact .inl h1
   ·exact .inr ⟨h1,fun p hp=>by rcases List.mem_cons.1 hp with rfl|hp;exact h;exact h2 p hp⟩
theorem Kp {nt t:Nat} (ht:nt≤t):∀{l:List AOp} {e:Env},(∀o∈l,∀d,o.d=some d→d<nt)→lk (unE l e) t=lk e t
 |[],_,_=>rfl
 |o::l,e,h=>by
  simp only[unE]
  rw[Cu (h o (by simp)) ht]
  exact Kp ht fun p hp=>h p (by simp[hp])
theorem MU {P:Program} {nt:Nat} {ops':Array Oper} {ops:List AOp} (h:BO P nt ops' ops'.toList=some ops):∀o∈ops,∀d,o.d=some d→d<nt:=by
 obtain⟨c1,c2⟩:=Bm h
 intro o ho
 obtain⟨i,hi⟩:=List.getElem?_of_mem ho
 have hlt:i<ops'.toList.length:=by rw[←c1];exact(List.getElem?_eq_some_iff.1 hi).1
 obtain⟨x,g1,g2⟩:=c2 i _ (List.getElem?_eq_getElem hlt)
 rw[hi] at g1;cases g1
 exact B3 g2
variable {Γ:Ctx}
theorem MV (hΓ:Γ.OK) (i:Nat) {rid:Nat} {ops:List AOp} {Q:AE→St→Prop} {e e1:Env} {h h1:Hp} {c:Nat} {vc vp:Prop} {d:Option Nat} {f:Nat} {ys:List Opd} {v:Value} (hyo:ops[i]? =some ⟨d,none,.call f ys⟩)
  (hex:AM Γ.S (c+1) (100*rid) (ops.take i) e h=some (vc,e1,h1)) (hvc:vc) (hp:D1 Γ.S h1 f (ys.map fun x=>ung true (opv e1 x))=some (vp,v)) (hvp:vp) (hQ:Q (.p v) ⟨e1,h1,c+1⟩):awp Γ (.reg rid ops) Q ⟨e,h,c⟩:=by
 intro code hc σ a hA
 cases code with
 |region id ops' d'=>
  simp only[cCode] at hc
  obtain⟨l0,hx0,⟨rfl,e0⟩|⟨_,_,_,_,e0⟩⟩:=AW hc
  ·cases e0
   refine wpIn_region ?_
   obtain⟨c1,c2⟩:=Bm hx0
   obtain⟨t1,t2⟩:=Bj i hx0
   have hi:i<ops.length:=(List.getElem?_eq_some_iff.1 hyo).1
   have hsz:ops.length=ops'.size:=c1.trans (by simp)
   have hi':i<ops'.size:=by omega
   obtain⟨yo',g1,g2⟩:=c2 i ops'[i] (by simp)
   rw[hyo] at g1
   cases g1
   have hr:List.range ops'.size=List.range' 0 (ops'.toList.take i).length++i::List.range' (i+1) (ops'.size-(i+1)):=by
    have e1:(ops'.toList.take i).length=i:=by simp;omega
    rw[e1,List.range_eq_range',show List.range' 0 ops'.size=List.range' 0 (i+(ops'.size-i)) by rw[show i+(ops'.size-i)=ops'.size by omega],←List.range'_append_1,Nat.zero_add,show ops'.size-i=(ops'.size-(i+1))+1 by omega,List.range'_succ]
   rw[hr]
   refine CU hΓ (cnt:=c) (100*rid) e _ (ops'.toList.take i) 0 (ops.take i) σ e e1 h h1 a vc (fun _ _=>rfl) (fun j hj=> ?_) t1 hex hvc hA.1 (fun m hm=> .inl (hA.2.1 m hm)) fun a1 σ1 ev1 hI1 hal1 hfar1=> ?_
   ·have:j<i:=by simp at hj;omega
    simp[List.getElem?_take,this]
   rw[wpOpsIn_cons]
   refine Jh hΓ.S hΓ.F (Array.getElem?_eq_getElem hi') g2 hI1 hp hvp fun σ2 ev2 hh2 hal2=> ?_
   exact⟨σ2,⟨e1,h1,c+1⟩,_,rfl,Γ.ofE (ev1.trans ev2),⟨⟨hh2,hI1.t.mono ev2,hI1.sz,hI1.df.mono ev2⟩,fun m hm=>by show m.2≤c+1;rcases hal1 m (hal2 m hm) with h|⟨h,_⟩<;>omega,Γ.g hA.2.2 (ev1.trans ev2) fun t ht=> .inr (hfar1 t ht)⟩,rfl,hQ⟩
  ·cases e0
 |seq x y=>simp only[cCode] at hc;split at hc<;>simp at hc
 |cond c x y=>simp only[cCode] at hc;split at hc<;>simp at hc
 |rangeFunc f ps x y=>simp only[cCode] at hc;split at hc<;>simp at hc
 |_=>simp[cCode] at hc
def exX (S:Tab) (ver pk:Nat) (v:Value) (fk:AV) (k:Nat) (env:Env) (hp:Hp) (o:AOp):Option (Prop×AV×Hp):=
 if k=pk then(match o.g,o.k with
  |none,.call f ys=>match D1 S hp f (ys.map fun x=>ung true (opv env x)) with
   |some (vc,v')=>some (vc∧v'=v,fk,[])
   |none=>none
  |_,_=>none)
 else Dw S (k,ver) env hp o
theorem LE {S:Tab} {ver pk k:Nat} {v:Value} {fk:AV} {env env':Env} {hp hp':Hp} {o:AOp} (ht:∀t∈Ew o,lk env t=lk env' t) (hh:Ag hp hp' (rdO env hp o)):exX S ver pk v fk k env hp o=exX S ver pk v fk k env' hp' o:=by
 unfold exX
 by_cases h:k=pk
 ·rw[if_pos h,if_pos h]
  obtain⟨d,g,kk⟩:=o
  cases g with
  |some p=>rfl
  |none=>
   cases kk with
   |call f ys=>
    have h1:(ys.map fun x=>ung true (opv env x))=ys.map fun x=>ung true (opv env' x):=B6 fun t h=>ht t (by simp[Ew,akT,h])
    simp only[rdO,Bv,rdK] at hh
    simp only
    rw[←h1,Ke hh]
   |_=>rfl
 ·rw[if_neg h,if_neg h]
  exact FB ht hh
def E8 (D:List AOp):List AOp→Bool
 |[]=>true
 |o::r=>bif D.all (fun m=>C8 m o) then !hw o.k&&E8 D r else E8 (o::D) r
theorem Fq {B:List Nat} {n:Nat} {L:List Nat} {ao:Nat→AOp} (hD:Done n B L) (tmp:∀k j,k<j→j<n→(B.getD j 0).testBit k=true∨C8 (ao k) (ao j)=true):∀(l:List AOp) (D:List AOp) (k:Nat),E8 D l=true→(∀i o,l[i]? =some o→ao (k+i)=o)→k+l.length=n→
  (∀m∈D,∃j,j<k∧ao j=m∧j∉L)→∀i,i<l.length→k+i∈L→hw (ao (k+i)).k=false
 |[],_,_,_,_,_,_,i,hi,_=>by simp at hi
 |o::l,D,k,hq,hl,hn,hDD,i,hi,hL=>by
  have hk:ao k=o:=by simpa using hl 0 o rfl
  have hl':∀i p,l[i]? =some p→ao (k+1+i)=p:=fun i p h=>by
   rw[show k+1+i=k+(i+1) by omega];exact hl (i+1) p (by simpa using h)
  simp only[List.length_cons] at hn hi
  simp only[E8] at hq
  cases hall:D.all fun m=>C8 m o with
  |true=>
   rw[hall,cond_true,Bool.and_eq_true] at hq
   rcases i with _|i
   ·rw[Nat.add_zero,hk];simpa using hq.1
   ·rw[show k+(i+1)=k+1+i by omega] at hL⊢
    exact Fq hD tmp l D (k+1) hq.2 hl' (by omega) (fun m hm=>by obtain⟨j,a,b⟩:=hDD m hm;exact⟨j,by omega,b⟩) i (by omega) hL
  |false=>
   rw[hall,cond_false] at hq
   have hkL:k∉L:=fun h=>by
    obtain⟨m,hm,hf⟩:∃m∈D,C8 m o=false:=by
     simpa [List.all_eq_false] using hall
    obtain⟨j,h1,rfl,h2⟩:=hDD m hm
    rcases tmp j k h1 (by omega) with h3|h3
    ·exact h2 (hD.cl k h j h3)
    ·rw[hk,hf] at h3;cases h3
   rcases i with _|i
   ·exact absurd hL hkL
   ·rw[show k+(i+1)=k+1+i by omega] at hL⊢
    refine Fq hD tmp l (o::D) (k+1) hq hl' (by omega) (fun m hm=> ?_) i (by omega) hL
    rcases List.mem_cons.1 hm with rfl|hm
    ·exact⟨k,by omega,hk,hkL⟩
    ·obtain⟨j,a,b⟩:=hDD m hm;exact⟨j,by omega,b⟩
theorem Ji {rec:Nat→Rec} {env:Env} {t:Nat}:∀(L:List Nat),(∀i∈L,(rec i).d≠some t)→lk (Bp rec env L) t=lk env t
 |[],_=>rfl
 |i::L,h=>by
  simp only[Bp,HI]
  rw[if_neg (h i (by simp))]
  exact Ji L fun j hj=>h j (by simp[hj])
theorem Kq {rec:Nat→Rec} {hp:Hp}:∀(L:List Nat),(∀i∈L,(rec i).ws=[])→hpL rec hp L=hp
 |[],_=>rfl
 |i::L,h=>by
  simp only[hpL,h i (by simp),List.nil_append]
  exact Kq L fun j hj=>h j (by simp[hj])
theorem MW (hΓ:Γ.OK) (p:Nat) (fk:AV) {rid:Nat} {ops:List AOp} {un:List (Nat×Nat)} {Q:AE→St→Prop} {e e':Env} {h h':Hp} {c:Nat} {vc:Prop} {recs:List Rec} {d:Option Nat} {f:Nat} {ys:List Opd} {v:Value} (hyo:ops[p]? =some ⟨d,none,.call f ys⟩)
  (hex:Ds (exX Γ.S (c+1) (100*rid+p) v fk) (100*rid) ops e h=some (vc,e',h',recs)) (hun:FD recs un=true) (hvc:vc) (hq:((ops.take p).all fun o=> !hw o.k)=true) (hq2:E8 (ops.drop p|>.take 1) (ops.drop (p+1))=true)
  (hQ:Q (.p v) ⟨unE ops e,h,c+1⟩):awp Γ (.drw rid ops un) Q ⟨e,h,c⟩:=by
 intro code hc σ a hA
 cases code with
 |region id ops' d=>
  simp only[cCode] at hc
  obtain⟨l,hx,⟨_,e⟩|⟨rfl,hf,un',hu,e⟩⟩:=AW hc
  ·cases e
  ·cases e
   refine wpIn_region_any hf ?_
   obtain⟨B,b1,b2,rfl⟩:=FI hu
   obtain⟨c1,c2⟩:=Bm hx
   have hlen:ops.length=ops'.size:=by simpa using c1
   have hrl:=DL hex
   have hop:∀i o,ops'[i]? =some o→∃x,ops[i]? =some x∧cOp Γ.P Γ.nt ops' o=some x:=fun i o ho=>c2 i o (by simpa using ho)
   have hao:∀i x,ops[i]? =some x→ops.getD i default=x:=fun i x h=>by simp[List.getD_eq_getElem?_getD,h]
   have hsp:=Em (rec:=fun i=>recs.getD i default) (env0:=e) (hp0:=h) (all:=ops) (bs:=100*rid) ops 0 recs vc e' h' (fun i=>by simp) hex hvc (fun i hi=>by
    have:i<recs.length:=by omega
    simp[List.getD_eq_getElem?_getD,this])
   simp only[Nat.zero_add] at hsp
   obtain⟨e1,e2,run⟩:=hsp
   have get:∀i,i<ops.length→ops[i]? =some (ops.getD i default):=fun i hi=>by simp[List.getD_eq_getElem?_getD,hi]
   have hp:p<ops.length:=(List.getElem?_eq_some_iff.1 hyo).1
   have hpo:=hao p _ hyo
   have ne:∀i,i<ops.length→hw (ops.getD i default).k=false→100*rid+i≠100*rid+p:=fun i hi hf he=>by
    have:i=p:=by omega
    subst this
    rw[hpo] at hf;simp[hw] at hf
   have hws:∀i,i<ops.length→hw (ops.getD i default).k=false→(recs.getD i default).ws=[]:=fun i hi hf=>by
    obtain⟨_,_,g,_⟩:=run i _ (get i hi)
    unfold exX at g
    rw[if_neg (ne i hi hf)] at g
    exact G8 hf g
   have hrd:∀i,i<ops.length→ht (ops.getD i default).k=false→(recs.getD i default).rd=[]:=fun i hi h=>by
    obtain⟨_,_,_,_,g⟩:=run i _ (get i hi)
    rw[g];exact GA h
   have G:Good Γ.P (fun i e h=>exX Γ.S (c+1) (100*rid+p) v fk (100*rid+i) e h (ops.getD i default)) Γ.nt ops.length ops' B (fun i=>recs.getD i default) e h fun i=>ops.getD i default:=
    {cg:=fun i e e' h h' ht hh=>LE ht hh
     sz:=Nat.le_of_eq hlen
     bef:=fun i o ho=>by
      have:=Ej b1 i o (by simpa using ho)
      simpa using this
     op:=fun i o ho=>by
      obtain⟨x,h1,h2⟩:=hop i o ho
      simp only[hao i x h1];exact h2
     run:=fun i hi=>run i _ (get i hi)
     tmp:=fun k j hk hj=>by
      have h1:=FF b2 j _ (get j hj)
      rw[Nat.zero_add] at h1
      have h2:=Ek h1 k (ops.getD k default) (by rw[List.getElem?_take,if_pos hk];exact get k (by omega))
      rwa [Nat.zero_add] at h2
     mem:=fun k j hk hj=>by
      have h2:=El (B:=B.getD j 0) (j:=j) (o:=ops.getD j default) (l:=ops.take j) (k:=0) k (ops.getD k default) (by rw[List.getElem?_take,if_pos hk];exact get k (by omega))
      rw[Nat.zero_add] at h2
      rcases h2 with h|h|h
      ·exact .inl h
      ·right;right
       simp only[Bool.or_eq_false_iff,Bool.and_eq_false_iff] at h
       have hk':k<ops.length:=by omega
       rcases h.1 with g1|g1
       ·rcases h.2 with g2|g2
        ·exact .inr (.inr ⟨hws k hk' g1,hrd k hk' g2⟩)
        ·exact .inl ⟨hws k hk' g1,hws j hj g2⟩
       ·exact .inr (.inl ⟨hws j hj (Ld g1),hrd j hj g1⟩)
      ·exact .inr (.inl (F8 hun k j (FG (all:=ops) (j:=0) j _ (get j hj) _ (by rw[Nat.zero_add];exact h))))}
   have far:=MU hx
   obtain⟨σ',w1,w2,w3⟩:=hA.drawn (σ.w.drawn+1)
   rw[←w1]
   refine Ky (bs:=100*rid) (fun i=>i=p) G hlen.symm (fun hall=>absurd rfl (hall p hp)) hA.2.2 (fun i o L σ1 a1 K hin g2 hst hD ha ho ev1 hI hal hK=> ?_) ops'.size [] _ σ' a (by simp) ⟨by simp,by simp,.nil⟩ (by simp) (fun i hi=> ?_) (by rw[FH,hlen]) w2 w3.1 fun m hm=> .inl (w3.2.1 m hm)
   ·obtain⟨vc,hvc,hex,hd,_⟩:=G.run i hin
    rw[←G.same hD hin g2 ha] at hex
    simp only[exX] at hex
    by_cases hip:i=p
    ·subst hip
     rw[if_pos rfl,hpo] at hex
     simp only at hex
     have hiL:i∉L:=g2
     have q1:∀j∈L,hw (ops.getD j default).k=false:=fun j hj=>by
      have hjn:=hD.lt j hj
      rcases Nat.lt_trichotomy j i with hlt|heq|hgt
      ·have:=List.all_eq_true.1 hq (ops.getD j default) (List.mem_of_getElem? (i:=j) (by rw[List.getElem?_take,if_pos hlt];exact get j hjn))
       simpa using this
      ·exact absurd hj (heq▸hiL)
      ·have:=Fq hD G.tmp (ops.drop (i+1)) _ (i+1) hq2 (fun k o ho=>by
        rw[List.getElem?_drop] at ho
        exact hao _ _ ho) (by simp;omega) (fun m hm=> ?_) (j-(i+1)) (by simp;omega) (by rw[show i+1+(j-(i+1))=j by omega];exact hj)
       ·rwa [show i+1+(j-(i+1))=j by omega] at this
       ·refine⟨i,Nat.lt_succ_self i, ?_,hiL⟩
        obtain⟨k,hk⟩:=List.getElem?_of_mem hm
        rw[List.getElem?_take] at hk
        split at hk
        ·rename_i hk1
         rw[List.getElem?_drop,show i+k=i by omega] at hk
         exact hao _ _ hk
        ·cases hk
     have hph:hpL (fun i=>recs.getD i default) h L=h:=Kq L fun j hj=>hws j (hD.lt j hj) (q1 j hj)
     rw[hph] at hI hex
     split at hex
     ·rename_i vp v' hpan
      simp only[yE,Prod.mk.injEq] at hex
      obtain⟨rfl,_,_⟩:=hex
      obtain⟨hvp,rfl⟩:=hvc
      have hco:=G.op i o ho
      rw[hpo] at hco
      refine Jh hΓ.S hΓ.F ho hco hI hpan hvp fun σ2 ev2 hh2 hal2=> ?_
      have hfar:∀t,Γ.nt≤t→lk (unE ops e) t=lk e t:=fun t ht=>Kp ht far
      refine⟨σ2,⟨unE ops e,h,c+1⟩,_,rfl,Γ.ofE (ev1.trans ev2),⟨⟨hh2,fun t=> ?_,hI.sz, ?_⟩,fun m hm=> ?_,Γ.g hA.2.2 (ev1.trans ev2) fun t ht=> .inr (hfar t ht)⟩,rfl,hQ⟩
      ·rcases LD ops e t with h1|⟨h1,h2⟩
       ·rw[h1];simp[Rep]
       ·rw[h1]
        have h3:=hI.t.mono ev2 t
        rwa [Ji L fun j hj=> ?_] at h3
        obtain⟨_,_,_,hdj,_⟩:=G.run j (hD.lt j hj)
        rw[hdj]
        exact h2 _ (List.mem_of_getElem? (get j (hD.lt j hj)))
      ·have h3:=hI.df.mono ev2
       rw[G9 (t:=dk Γ.nt) L (fun j hj=>G.far j (hD.lt j hj)) (Nat.le_add_right _ _)] at h3
       rw[hfar (dk Γ.nt) (Nat.le_add_right _ _)]
       exact h3
      ·rcases hal m (hal2 m hm) with h|⟨k,_,rfl⟩
       ·exact Nat.le_succ_of_le h
       ·exact Nat.le_refl _
     ·cases hex
    ·rw[if_neg (by omega)] at hex
     refine DI hΓ.S hΓ.F ho (G.op i o ho) hI (fun h=> ?_) hex hvc (hK hip)
     rcases hal _ h with h|⟨k,hk,e⟩
     ·exact absurd h (Nat.not_succ_le_self c)
     ·simp only[Prod.mk.injEq,Nat.add_left_cancel_iff,and_true] at e
      exact g2 (e▸hk)
   ·simp[Array.getD,hi]
 |seq x y=>simp only[cCode] at hc;split at hc<;>simp at hc
 |cond c x y=>simp only[cCode] at hc;split at hc<;>simp at hc
 |rangeFunc f ps x y=>simp only[cCode] at hc;split at hc<;>simp at hc
 |_=>simp[cCode] at hc
theorem CF {b:AC} {Q:AE→St→Prop} {s:St} {v:Value} (h:Q (.p v) s):Ed Γ b Q (.p v) s:=h
theorem CG {id:Nat} {Q:AE→St→Prop} {s:St} {v:Value} (h:Q (.p v) s):Df id Q (.p v) s:=h
theorem CQ {b:AC} {Q:AE→St→Prop} {m:Nat} {s:St} {v:Value} (h:Q (.p v) s):Ih Γ b Q m (.p v) s:=h
theorem Cr {X:Type} {I:X→St} {Pre:X→Prop} {μ:X→Nat} {n:Nat} {Q:AE→St→Prop} {s:St} {v:Value} (h:Q (.p v) s):Dr I Pre μ n Q (.p v) s:=h
def Pf (v:Value) (K:St→Prop):AE→St→Prop
 | .p u,s=>u=v∧K s
 |_,_=>False
theorem Pg {v:Value} {K:St→Prop} {s:St} (h:K s):Pf v K (.p v) s:=⟨rfl,h⟩
theorem LF {P:Program} {S:Tab} (hS:TabOK P S) {f:Nat} {fn:Func} {c:AC} {rvs:List RV} {n:Nm} {args cells:List AV} {v:Value} (nt:Nat) (hf:P.funcs[f]? =some fn) (hc:Bl P fn=some (c,rvs)) (hnt:fn.ntmps=nt) (hn:args.length≤nt)
  (h:∀hb,awp (Ctx.fn P S nt hb) c (Pf v fun s=>∀j c,hl (A5 n 0 cells) (.c n j)=some c→hl s.hp (.c n j)=some c) ⟨A1 0 args,A5 n 0 cells,n.2⟩):Hu P f n args cells v:=by
 intro σ vs hgl hI hal hv
 subst hnt
 unfold Bl at hc
 split at hc
 ·rename_i b hbd
  split at hc
  ·rename_i c' r' g1 g2
   simp at hc
   obtain⟨rfl,rfl⟩:=hc
   have hlen:=AP hv
   have hw:=h σ.w.heap.size b g1 σ {tmps:=vs.toArray++Array.replicate (fn.ntmps-vs.toArray.size) undef,defers:=[]} ?_
   ·refine callsIn_wide.1 (callsIn_of_wp_marks (n:=0) hf hbd trivial (wpIn_mono hw ?_))
    rintro e a' w' ⟨σ',s',e',rfl,ev,h3,h4,h5⟩
    have ev:Evo σ σ':=ev
    cases e with
    |panic c=>
     obtain⟨v,rfl,rfl⟩:=AE.of_panic h4
     obtain⟨rfl,h5⟩:=h5
     have:=FA (dd:=[]) (u:= .panicking [⟨v,false,false⟩]) (F:=Fence.wide) (n:=0) (P:=P) (fn:=fn) (tmps:=a'.tmps) (R:=fun e w'=>∃σ',e= .panicked [⟨v,false,false⟩]∧σ'.w=w'∧Evo σ σ'∧(∀j c,hl (A5 n 0 cells) (.c n j)=some c→CelF σ' n j c)) (by simp) a'.defers σ' (fun b hb=>⟨h3.1.h.ou b hb,fun hM=>h3.1.h.dis b hM hb⟩) (DOK.of' h3.1.df) fun ρ ko kO kb=> ?_
     ·rwa [List.append_nil] at this
     ·have evρ:Evo σ ρ:=⟨fun n hn=>by rw[ko.al,ko.rb];exact ev.box n hn,fun n hn l' hl'=>by rw[ko.ra];rw[ko.ln] at hl';exact ev.arr n hn l' hl',fun b o hb hm=>by
       obtain⟨q1,q2⟩:=ev.fro b o hb hm
       exact⟨kb b o (.inl (Array.getElem?_eq_some_iff.1 hb).1) q1,by rw[ko.M];exact q2⟩,kO.trans ev.out,Nat.le_trans ev.sz ko.sz,ev.io.trans ko.io⟩
      exact⟨ρ,rfl,rfl,evρ,fun j c hj=>(h3.1.h.oth ko).cel n j c (h5 j c hj)⟩
    |normal=>simp[AE.of] at h4;subst h4;exact h5.elim
    |ret=>simp[AE.of] at h4;subst h4;exact h5.elim
    |exit i=>simp[AE.of] at h4;subst h4;exact h5.elim
    |goto l=>simp[AE.of] at h4
    |outgrown=>simp[AE.of] at h4
   ·refine⟨⟨hI,fun t=> ?_,by show _=fn.ntmps;simp;omega,DOK.nil (Nat.le_refl _) hgl⟩,fun m hm=>by rw[hal m hm];exact Nat.le_refl _,trivial⟩
    rw[Cl]
    split
    ·rename_i ht
     simp only[Nat.zero_le,Nat.zero_add,true_and] at ht
     have hg:args[t]? =some args[t]:=List.getElem?_eq_getElem ht
     obtain⟨x,g1,g2⟩:=Bc hv t _ hg
     have e1:args.getD (t-0) .un=args[t]:=by simp[ht]
     have hlt':t<vs.length:=by omega
     have e2:(vs.toArray++Array.replicate (fn.ntmps-vs.toArray.size) undef).getD t undef=x:=by
      rw[List.getElem?_eq_getElem hlt'] at g1
      simp at g1
      simp[Array.getD_eq_getD_getElem?,Array.getElem?_append_left,hlt',g1]
     rw[e1,e2];exact g2
    ·simp[Rep]
  ·simp at hc
 ·simp at hc
attribute [go_sem] D1 exX Ds unE
theorem G4 {Γ:Ctx} {Fa:Prop} (hΓ:Γ.OK) (fa:Fa) (i:Nat) {rid:Nat} {ops:List AOp} {Q:AE→St→Prop} {e e1:Env} {h h1:Hp} {c:Nat} {vc vp:Prop} {d:Option Nat} {f:Nat} {ys:List Opd} {p:Value} (hQ:Q (.p p) ⟨e1,h1,c+1⟩) (hyo:ops[i]? =some ⟨d,none,.call f ys⟩:=by rfl)
  (hex:Fa→AM Γ.S (c+1) (100*rid) (ops.take i) e h=some (vc,e1,h1):=by intro fa;simp only[go_sem,seval,fa]<;>eq_refl) (hvc:Fa→vc:=by intro fa;simp only[go_sem,seval,fa]) (hp:Fa→D1 Γ.S h1 f (ys.map fun x=>ung true (opv e1 x))=some (vp,p):=by intro fa;simp only[go_sem,seval,fa]<;>eq_refl)
  (hvp:Fa→vp:=by intro fa;simp only[go_sem,seval,fa]):awp Γ (.reg rid ops) Q ⟨e,h,c⟩:=MV hΓ i hyo (hex fa) (hvc fa) (hp fa) (hvp fa) hQ
theorem Q1 {Γ:Ctx} {Fa:Prop} (hΓ:Γ.OK) (fa:Fa) (i:Nat) (fk:AV) {rid:Nat} {ops:List AOp} {un:List (Nat×Nat)} {Q:AE→St→Prop} {e e':Env} {h h':Hp} {c:Nat} {vc:Prop} {recs:List Rec} {d:Option Nat} {f:Nat} {ys:List Opd} {p:Value} (hQ:Q (.p p) ⟨unE ops e,h,c+1⟩)
  (hyo:ops[i]? =some ⟨d,none,.call f ys⟩:=by rfl) (hex:Fa→Ds (exX Γ.S (c+1) (100*rid+i) p fk) (100*rid) ops e h=some (vc,e',h',recs):=by intro fa;simp only[go_sem,seval,fa]<;>eq_refl) (hun:FD recs un=true:=by simp only[go_sem,seval]) (hvc:Fa→vc:=by intro fa;repeat' (first|omega|(simp only[go_sem,seval,fa];done)|(refine And.intro ?_ ?_)))
  (hq:((ops.take i).all fun o=> !hw o.k)=true:=by rfl) (hq2:E8 (ops.drop i|>.take 1) (ops.drop (i+1))=true:=by rfl):awp Γ (.drw rid ops un) Q ⟨e,h,c⟩:=MW hΓ i fk hyo (hex fa) hun (hvc fa) hq hq2 hQ
end Go.Proofs.YtdabfcbelkjmgaaGreatDoor.Am
