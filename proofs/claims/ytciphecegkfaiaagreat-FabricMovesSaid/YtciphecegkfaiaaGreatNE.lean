import Derived.Test.YtciphecegkfaiaaGreatNC
namespace Go.Proofs.YtciphecegkfaiaaGreat.Am
set_option linter.unusedSimpArgs false
set_option linter.unusedVariables false
set_option linter.unusedSectionVars false
theorem yY {α:Type} [DecidableEq α] {L:Nat→Int→Option (Sum Unit Bool)} {a b:List α} (hl:a.length=b.length) (step:∀n k (ha:k<a.length) (hb:k<b.length),L (n+1) (k:Nat)=if a[k]=b[k] then L n ((k+1:Nat):Int) else some (.inr false)) (fin:∀n,L (n+1) (a.length:Nat)=some (.inl ())):∀n k,k≤a.length→a.length<n+k→L n (k:Nat)=some (if a.drop k=b.drop k then .inl () else .inr false)
 |0,k,h1,h2=>by omega
 |n+1,k,h1,h2=>by
  by_cases e:k=a.length
  ·subst e
   rw[fin,List.drop_length,hl,List.drop_length,if_pos rfl]
  ·have ha:k<a.length:=by omega
   have hb:k<b.length:=by omega
   rw[step n k ha hb,List.drop_eq_getElem_cons ha,List.drop_eq_getElem_cons hb]
   by_cases c:a[k]=b[k]
   ·rw[if_pos c,yY hl step fin n (k+1) (by omega) (by omega),c]
    congr 1
    by_cases d:a.drop (k+1)=b.drop (k+1)
    ·rw[if_pos d,if_pos (by rw[d])]
    ·rw[if_neg d,if_neg fun q=>d (List.cons.inj q).2]
   ·rw[if_neg c,if_neg fun q=>c (List.cons.inj q).1]
theorem xN {α:Type} [DecidableEq α] {L:Nat→Int→Option (Sum Unit Bool)} {a b:List α} {N:Nat} (hN:a.length<N) (step:∀n k (ha:k<a.length) (hb:k<b.length),L (n+1) (k:Nat)=if a[k]=b[k] then L n ((k+1:Nat):Int) else some (.inr false)) (fin:∀n,L (n+1) (a.length:Nat)=some (.inl ())):
  (bif decide ((a.length:Int)≠(b.length:Int)) then some false else(L N 0).bind fun o=>match o with| .inl ()=>some true| .inr r=>some r)=some (decide (a=b)):=by
 by_cases hl:a.length=b.length
 ·have:=yY hl step fin N 0 (by omega) (by omega)
  rw[Int.natCast_zero,List.drop_zero,List.drop_zero] at this
  rw[cF' _ (decide_eq_false (by omega)),this,bS]
  by_cases c:a=b
  ·rw[if_pos c,decide_eq_true c]
  ·rw[if_neg c,decide_eq_false c]
 ·rw[cT' _ (decide_eq_true (by omega)),decide_eq_false fun e=>hl (by rw[e])]
section
variable {N:Nat} (hN:N≤100000)
include hN
theorem yZ {a:List Int} (b:List Int) (h:a.length<N):C8 N a b=some (decide (a=b)):=by
 refine xN (L:=Fm N a b) h (fun n k ha hb=> ?_) fun n=> ?_
 ·rw[Fm,dlt ha,cT,Tq,List.getElem?_eq_getElem ha,bS,Tq,List.getElem?_eq_getElem hb,bS]
  by_cases c:a[k]=b[k]
  ·rw[cF' _ (decide_eq_false (by simpa using c)),if_pos c,Ab (by unfold I64;omega),ns]
  ·rw[cT' _ (decide_eq_true c),if_neg c]
 ·rw[Fm,dge,cF]
theorem xH {a:List (Int×Int)} (b:List (Int×Int)) (h:a.length<N):Cq N a b=some (decide (a=b)):=by
 refine xN (L:=Ek N a b) h (fun n k ha hb=> ?_) fun n=> ?_
 ·rw[Ek,dlt ha,cT,Tq,List.getElem?_eq_getElem ha,bS,Tq,List.getElem?_eq_getElem hb]
  generalize a[k]=x
  generalize b[k]=y
  obtain⟨x1,x2⟩:=x
  obtain⟨y1,y2⟩:=y
  simp only
  rw[bS]
  simp only
  by_cases c:(x1,x2)=(y1,y2)
  ·have c':=Prod.mk.inj c
   rw[cF' _ (by rw[decide_eq_true c'.1,decide_eq_true c'.2];rfl),if_pos c,Ab (by unfold I64;omega),ns]
  ·rw[cT' _ (by rw[Bool.not_eq_true',Bool.and_eq_false_iff,decide_eq_false_iff_not,decide_eq_false_iff_not];by_cases q:x1=y1;exact .inr fun r=>c (by rw[q,r]);exact .inl q),if_neg c]
 ·rw[Ek,dge,cF]
theorem xS {a:List Con} (b:List Con) (h:a.length<N):Bj N a b=some (decide (a=b)):=by
 refine xN (L:=DG N a b) h (fun n k ha hb=> ?_) fun n=> ?_
 ·rw[DG,dlt ha,cT,Tq,List.getElem?_eq_getElem ha,bS,Tq,List.getElem?_eq_getElem hb]
  generalize a[k]=x
  generalize b[k]=y
  obtain⟨x1,x2,⟨⟨x3,x4⟩,x5,x6⟩,x7,x8⟩:=x
  obtain⟨y1,y2,⟨⟨y3,y4⟩,y5,y6⟩,y7,y8⟩:=y
  simp only
  rw[bS]
  simp only
  by_cases c:((x1,x2,((x3,x4),x5,x6),x7,x8):Con)=(y1,y2,((y3,y4),y5,y6),y7,y8)
  ·have c':=c
   simp only[Prod.mk.injEq] at c'
   obtain⟨c1,c2,⟨⟨c3,c4⟩,c5,c6⟩,c7,c8⟩:=c'
   rw[cF' _ (by rw[decide_eq_true c1,decide_eq_true c2,decide_eq_true c3,decide_eq_true c4,decide_eq_true c5,decide_eq_true c6,decide_eq_true c7,decide_eq_true c8];rfl),if_pos c,Ab (by unfold I64;omega),ns]
  ·rw[cT' _ (by
    rw[Bool.not_eq_true',Bool.eq_false_iff]
    intro q
    simp only[Bool.and_eq_true,decide_eq_true_eq] at q
    obtain⟨c1,c2,c3,c4,c5,c6,c7,c8⟩:=q
    exact c (by rw[c1,c2,c3,c4,c5,c6,c7,c8])),if_neg c]
 ·rw[DG,dge,cF]
theorem AaZ {a:List (List Int)} (b:List (List Int)) (h:a.length<N) (h2:∀l∈a,l.length<N):Ce N a b=some (decide (a=b)):=by
 refine xN (L:=Ec N a b) h (fun n k ha hb=> ?_) fun n=> ?_
 ·rw[Ec,dlt ha,cT,Tq,List.getElem?_eq_getElem ha,bS,Tq,List.getElem?_eq_getElem hb,bS,yZ hN _ (h2 _ (List.getElem_mem ha)),bS]
  by_cases c:a[k]=b[k]
  ·rw[decide_eq_true c,cF' _ (by rfl),if_pos c,Ab (by unfold I64;omega),ns]
  ·rw[decide_eq_false c,cT' _ (by rfl),if_neg c]
 ·rw[Ec,dge,cF]
end
def wK (u:Un):Int:=Ht u.2.2.2.1*(u.2.2.2.2.2-u.2.2.2.2.1)
theorem zC {u:Un} (h:UV u): -128000000≤wK u∧wK u≤128000000:=by
 have:=W4 (x:=Ht u.2.2.2.1) (y:=u.2.2.2.2.2-u.2.2.2.2.1) (A:=16000000) (B:=8) (Wi h.l) (by have:=h.d;omega) (by omega)
 unfold wK;omega
noncomputable def wL (f:List Un):Int:=(f.map wK).sum
theorem zD {N:Nat} (hN:1001≤N) {f:List Un} (h:FV f):∀n i (o:Int),i≤f.length→f.length<n+i→(-128000000*i≤o∧o≤128000000*i)→FY N f n o (i:Nat)=some (o+wL (f.drop i))
 |0,i,o,h1,h2,_=>by omega
 |n+1,i,o,h1,h2,h3=>by
  have hl:=h.len
  rw[FY]
  by_cases e:i=f.length
  ·subst e;rw[dge,cF,List.drop_length];unfold wL;simp
  ·have hi:i<f.length:=by omega
   have u:=h.val _ (FO hi)
   have vb:=zC u
   rw[dlt hi,cT,GC hi,bS]
   simp only
   rw[kC (by omega) u,bS,show Ht (uat f i).2.2.2.1*((uat f i).2.2.2.2.2-(uat f i).2.2.2.2.1)=wK (uat f i) from rfl,Ab (by unfold I64;omega),Ab (by unfold I64;omega),←ns,zD hN h n (i+1) _ (by omega) (by omega) (by omega),List.drop_eq_getElem_cons hi,←Fr hi]
   unfold wL
   rw[List.map_cons,List.sum_cons,Int.add_assoc]
theorem yK {N:Nat} (hN:1001≤N) {f:List Un} (h:FV f):Bk N f=some (wL f):=by
 have hl:=h.len
 have L:=zD hN h N 0 0 (by omega) (by omega) (by omega)
 rw[Int.natCast_zero,List.drop_zero,Int.zero_add] at L
 unfold Bk
 rw[UZ hN,bS,decide_eq_true h,cF' _ (by rfl),L,bS]
def mvU (d:Pt) (u:Un):Un:=(u.1,u.2.1,u.2.2.1,u.2.2.2.1.map (mv d),u.2.2.2.2.1,u.2.2.2.2.2)
def mvC (d:Pt) (c:Con):Con:=(c.1,c.2.1,mv2 d c.2.2.1,c.2.2.2)
def okU (d:Pt) (u:Un):Prop:=∀x∈u.2.2.2.1,On (mv d x)
open Classical in
theorem AbA {N:Nat} (hN:100≤N) {u:Un} (h:UV u) {d:Pt} (hd:R9 d):H5 N u.1 u.2.1 u.2.2.1 u.2.2.2.1 u.2.2.2.2.1 u.2.2.2.2.2 d.1 d.2=some (if okU d u then(mvU d u,0) else(un0,80)):=by
 unfold H5
 rw[bD hN h.l hd,Ko hN h]
 by_cases ho:okU d u
 ·have ho':∀p∈u.2.2.2.1,On (mv d p):=ho
  rw[if_pos ho,if_pos ho',bS]
  simp only
  rw[EO (fun _=>Option.isSome_some),cF' _ (by rfl)]
  rfl
 ·have ho':¬∀p∈u.2.2.2.1,On (mv d p):=ho
  rw[if_neg ho,if_neg ho',bS]
  simp only
  rw[EO (fun _=>Option.isSome_some),cT' _ (by rfl)]
  rfl
open Classical in
theorem zE {N:Nat} (hN:1001≤N) {f:List Un} (h:FV f) {d:Pt} (hd:R9 d):∀n i (l:List Un),i≤f.length→f.length<n+i→l.length≤i→G6 N f d.1 d.2 n (i:Nat) l=some (if∀u∈f.drop i,okU d u then .inl (l++(f.drop i).map (mvU d)) else .inr ([],120))
 |0,i,l,h1,h2,_=>by omega
 |n+1,i,l,h1,h2,h3=>by
  have hl:=h.len
  rw[G6]
  by_cases e:i=f.length
  ·subst e;rw[dge,cF,List.drop_length,if_pos (by simp)];simp
  ·have hi:i<f.length:=by omega
   rw[dlt hi,cT,GC hi,bS]
   simp only
   rw[AbA (by omega) (h.val _ (FO hi)) hd,List.drop_eq_getElem_cons hi,←Fr hi]
   by_cases c:okU d (uat f i)
   ·rw[if_pos c,bS]
    simp only[mvU]
    rw[cF' _ (by rfl),Ab (by omega),Ab (by unfold I64;omega),←ns,zE hN h hd n (i+1) _ (by omega) (by omega) (by simp;omega)]
    congr 1
    by_cases g:∀u∈f.drop (i+1),okU d u
    ·rw[if_pos g,if_pos (fun u hu=>by rcases List.mem_cons.1 hu with rfl|hu;exact c;exact g u hu),List.append_assoc]
     rfl
    ·rw[if_neg g,if_neg fun q=>g fun u hu=>q u (List.mem_cons_of_mem _ hu)]
   ·rw[if_neg c,bS]
    simp only[un0]
    rw[cT' _ (by rfl),if_neg fun q=>c (q _ List.mem_cons_self)]
open Classical in
theorem AbB {N:Nat} (hN:1001≤N) {f:List Un} (h:FV f) {d:Pt} (hd:R9 d):Ic N f d.1 d.2=some (if∀u∈f,okU d u then(f.map (mvU d),0) else([],120)):=by
 have hl:=h.len
 have L:=zE hN h hd N 0 [] (by omega) (by omega) (by simp)
 rw[Int.natCast_zero,List.drop_zero,List.nil_append] at L
 unfold Ic
 rw[UZ hN,bS,decide_eq_true h,cF' _ (by rfl),L,bS]
 by_cases g:∀u∈f,okU d u
 ·rw[if_pos g,if_pos g]
 ·rw[if_neg g,if_neg g]
theorem Aax {d:Pt} {u:Un} (h:UV u) (ho:okU d u):UV (mvU d u):=⟨h.a,h.b,h.c,h.d,mT d h.l ho⟩
theorem Abv {d:Pt} {f:List Un} (h:FV f) (ho:∀u∈f,okU d u):FV (f.map (mvU d)):=by
 refine⟨by rw[List.length_map];exact h.len,fun u hu=> ?_, ?_, ?_⟩
 ·obtain⟨v,hv,rfl⟩:=List.mem_map.1 hu
  exact Aax (h.val v hv) (ho v hv)
 ·rw[List.pairwise_map];exact h.srt
 ·rw[List.pairwise_map]
  refine h.dis.imp_of_mem fun {u v} hu hv e=> ?_
  rw[Bool.eq_false_iff] at e⊢
  intro q
  obtain⟨⟨q1,q2,q3⟩,q4⟩:=UX.1 q
  exact e (UX.2 ⟨⟨q1,h.val u hu,h.val v hv⟩,fun a=>q4 ((qG d _ _).2 a)⟩)
theorem Abi {d:Pt} {u:Un} (h:UV u):wK (mvU d u)=wK u:=by
 have:=h.l.l3
 show Ht (u.2.2.2.1.map (mv d))*_=_
 rw[rQ d (by omega)]
 rfl
theorem Aay {d:Pt} (hd:d.2=0) {l:List Pt} {i:Nat}:gnd (l.map (mv d)) i↔gnd l i:=by
 unfold gnd
 rw[List.length_map]
 refine and_congr_right fun hi=> ?_
 rw[Gh hi,Gh (Nat.mod_lt _ (by omega))]
 unfold mv
 rw[hd];simp
theorem zF {d:Pt} (hd:d.2=0) {u:Un} (h:UV u) (ho:okU d u):stO (mvU d u)=(stO u).map (mvC d):=by
 by_cases q:∃i,gnd u.2.2.2.1 i
 ·obtain⟨i,hi⟩:=q
  have l3:=h.l.l3
  rw[vJ h hi,vJ (Aax h ho) (i:=i) ((Aay hd).2 hi)]
  show some (u.1,(-1:Int),(pa (u.2.2.2.1.map (mv d)) i,pa (u.2.2.2.1.map (mv d)) ((i+1)%(u.2.2.2.1.map (mv d)).length)),_)=_
  rw[List.length_map,Gh hi.1,Gh (Nat.mod_lt _ (by omega))]
  rfl
 ·rw[vK fun i hi=>q ⟨i,hi⟩,vK fun i hi=>q ⟨i,(Aay hd).1 hi⟩]
  rfl
theorem Aaz {d:Pt} (hd:0<d.2) {u:Un} (h:UV u):stO (mvU d u)=none:=vK fun i hi=>by
 obtain⟨h1,h2,_⟩:=hi
 have h1:i<(u.2.2.2.1.map (mv d)).length:=h1
 rw[List.length_map] at h1
 have h2:(pa (u.2.2.2.1.map (mv d)) i).2=0:=h2
 rw[Gh h1] at h2
 have:=(h.l.on _ (AA h1)).2.1
 unfold mv at h2
 simp only at h2
 omega
theorem Abw (d:Pt) (u v:Un):tcO (mvU d u) (mvU d v)=(tcO u v).map (mvC d):=by
 unfold tcO tcS W5 Gj mvU
 simp only
 by_cases c:max u.2.2.2.2.1 v.2.2.2.2.1<min u.2.2.2.2.2 v.2.2.2.2.2
 ·rw[if_pos c,if_pos c]
  by_cases a:apart u.2.2.2.1 v.2.2.2.1
  ·rw[if_pos a,if_pos ((qG d _ _).2 a),qH]
   cases IX u.2.2.2.1 v.2.2.2.1<;>rfl
  ·rw[if_neg a,if_neg fun q=>a ((qG d _ _).1 q)]
   rfl
 ·rw[if_neg c,if_neg c]
  rfl
def kp (d:Pt) (c:Con):Bool:=decide (d.2=0)||decide (c.2.1≠-1)
theorem zZ {d:Pt} (hd:0≤d.2):∀{f:List Un},(∀u∈f,UV u)→(∀u∈f,okU d u)→tY (f.map (mvU d))=((tY f).filter (kp d)).map (mvC d)
 |[],_,_=>rfl
 |u::r,h,ho=>by
  have hu:=h u List.mem_cons_self
  have ou:=ho u List.mem_cons_self
  have ih:=zZ hd (fun v hv=>h v (List.mem_cons_of_mem _ hv)) fun v hv=>ho v (List.mem_cons_of_mem _ hv)
  rw[List.map_cons,tY,tY,ih,List.filter_append,List.filter_append,List.map_append,List.map_append]
  congr 1
  ·by_cases z:d.2=0
   ·rw[zF z hu ou,List.filter_eq_self.2 fun c _=>by unfold kp;rw[decide_eq_true z];rfl]
    cases stO u<;>rfl
   ·rw[Aaz (by omega) hu]
    cases hs:stO u with
    |none=>rfl
    |some c=>
     have k:=uU hs
     rw[Option.toList_some,List.filter_cons,if_neg]
     ·rfl
     ·unfold kp;rw[decide_eq_false z,k.2];decide
  ·congr 1
   rw[List.filterMap_map]
   have e:(tcO (mvU d u)∘mvU d)=fun v=>(tcO u v).map (mvC d):=funext fun v=>Abw d u v
   rw[e,List.filter_eq_self.2,List.map_filterMap]
   intro c hc
   obtain⟨v,hv,q⟩:=List.mem_filterMap.1 hc
   have k:=tZ q
   have:=(h v (List.mem_cons_of_mem _ hv)).a.1
   unfold kp
   rw[decide_eq_true (show c.2.1≠-1 by omega),Bool.or_true]
end Go.Proofs.YtciphecegkfaiaaGreat.Am
