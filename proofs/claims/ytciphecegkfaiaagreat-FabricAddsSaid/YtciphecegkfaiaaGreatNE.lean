import Derived.Test.YtciphecegkfaiaaGreatNC
namespace Go.Proofs.YtciphecegkfaiaaGreat.Am
set_option linter.unusedSimpArgs false
set_option linter.unusedVariables false
set_option linter.unusedSectionVars false
theorem yY {α:Type} [DecidableEq α] {L:Nat→Int→Option (Sum Unit Bool)} {a b:List α} (hl:a.length=b.length) (step:∀n k (ha:k<a.length) (hb:k<b.length),L (n+1) (k:Nat)=if a[k]=b[k] then L n ((k+1:Nat):Int) else some (.inr false)) (fin:∀n,L (n+1) (a.length:Nat)=some (.inl ())):∀n k,k≤a.length→a.length<n+k→L n (k:Nat)=some (if a.drop k=b.drop k then .inl () else .inr false)
 |0,k,h1,h2=>by omega
 |n+1,k,h1,h2=>by
  by_cases e:k=a.length
  ·subst e
   rw[fin,List.drop_length,hl,List.drop_length,if_pos rfl]
  ·have ha:k<a.length:=by omega
   have hb:k<b.length:=by omega
   rw[step n k ha hb,List.drop_eq_getElem_cons ha,List.drop_eq_getElem_cons hb]
   by_cases c:a[k]=b[k]
   ·rw[if_pos c,yY hl step fin n (k+1) (by omega) (by omega),c]
    congr 1
    by_cases d:a.drop (k+1)=b.drop (k+1)
    ·rw[if_pos d,if_pos (by rw[d])]
    ·rw[if_neg d,if_neg fun q=>d (List.cons.inj q).2]
   ·rw[if_neg c,if_neg fun q=>c (List.cons.inj q).1]
theorem xN {α:Type} [DecidableEq α] {L:Nat→Int→Option (Sum Unit Bool)} {a b:List α} {N:Nat} (hN:a.length<N) (step:∀n k (ha:k<a.length) (hb:k<b.length),L (n+1) (k:Nat)=if a[k]=b[k] then L n ((k+1:Nat):Int) else some (.inr false)) (fin:∀n,L (n+1) (a.length:Nat)=some (.inl ())):
  (bif decide ((a.length:Int)≠(b.length:Int)) then some false else(L N 0).bind fun o=>match o with| .inl ()=>some true| .inr r=>some r)=some (decide (a=b)):=by
 by_cases hl:a.length=b.length
 ·have:=yY hl step fin N 0 (by omega) (by omega)
  rw[Int.natCast_zero,List.drop_zero,List.drop_zero] at this
  rw[cF' _ (decide_eq_false (by omega)),this,bS]
  by_cases c:a=b
  ·rw[if_pos c,decide_eq_true c]
  ·rw[if_neg c,decide_eq_false c]
 ·rw[cT' _ (decide_eq_true (by omega)),decide_eq_false fun e=>hl (by rw[e])]
section
variable {N:Nat} (hN:N≤100000)
include hN
theorem xH {a:List (Int×Int)} (b:List (Int×Int)) (h:a.length<N):Cq N a b=some (decide (a=b)):=by
 refine xN (L:=Ek N a b) h (fun n k ha hb=> ?_) fun n=> ?_
 ·rw[Ek,dlt ha,cT,Tq,List.getElem?_eq_getElem ha,bS,Tq,List.getElem?_eq_getElem hb]
  generalize a[k]=x
  generalize b[k]=y
  obtain⟨x1,x2⟩:=x
  obtain⟨y1,y2⟩:=y
  simp only
  rw[bS]
  simp only
  by_cases c:(x1,x2)=(y1,y2)
  ·have c':=Prod.mk.inj c
   rw[cF' _ (by rw[decide_eq_true c'.1,decide_eq_true c'.2];rfl),if_pos c,Ab (by unfold I64;omega),ns]
  ·rw[cT' _ (by rw[Bool.not_eq_true',Bool.and_eq_false_iff,decide_eq_false_iff_not,decide_eq_false_iff_not];by_cases q:x1=y1;exact .inr fun r=>c (by rw[q,r]);exact .inl q),if_neg c]
 ·rw[Ek,dge,cF]
theorem xS {a:List Con} (b:List Con) (h:a.length<N):Bj N a b=some (decide (a=b)):=by
 refine xN (L:=DG N a b) h (fun n k ha hb=> ?_) fun n=> ?_
 ·rw[DG,dlt ha,cT,Tq,List.getElem?_eq_getElem ha,bS,Tq,List.getElem?_eq_getElem hb]
  generalize a[k]=x
  generalize b[k]=y
  obtain⟨x1,x2,⟨⟨x3,x4⟩,x5,x6⟩,x7,x8⟩:=x
  obtain⟨y1,y2,⟨⟨y3,y4⟩,y5,y6⟩,y7,y8⟩:=y
  simp only
  rw[bS]
  simp only
  by_cases c:((x1,x2,((x3,x4),x5,x6),x7,x8):Con)=(y1,y2,((y3,y4),y5,y6),y7,y8)
  ·have c':=c
   simp only[Prod.mk.injEq] at c'
   obtain⟨c1,c2,⟨⟨c3,c4⟩,c5,c6⟩,c7,c8⟩:=c'
   rw[cF' _ (by rw[decide_eq_true c1,decide_eq_true c2,decide_eq_true c3,decide_eq_true c4,decide_eq_true c5,decide_eq_true c6,decide_eq_true c7,decide_eq_true c8];rfl),if_pos c,Ab (by unfold I64;omega),ns]
  ·rw[cT' _ (by
    rw[Bool.not_eq_true',Bool.eq_false_iff]
    intro q
    simp only[Bool.and_eq_true,decide_eq_true_eq] at q
    obtain⟨c1,c2,c3,c4,c5,c6,c7,c8⟩:=q
    exact c (by rw[c1,c2,c3,c4,c5,c6,c7,c8])),if_neg c]
 ·rw[DG,dge,cF]
end
def wK (u:Un):Int:=Ht u.2.2.2.1*(u.2.2.2.2.2-u.2.2.2.2.1)
theorem zC {u:Un} (h:UV u): -128000000≤wK u∧wK u≤128000000:=by
 have:=W4 (x:=Ht u.2.2.2.1) (y:=u.2.2.2.2.2-u.2.2.2.2.1) (A:=16000000) (B:=8) (Wi h.l) (by have:=h.d;omega) (by omega)
 unfold wK;omega
noncomputable def wL (f:List Un):Int:=(f.map wK).sum
theorem zD {N:Nat} (hN:1001≤N) {f:List Un} (h:FV f):∀n i (o:Int),i≤f.length→f.length<n+i→(-128000000*i≤o∧o≤128000000*i)→FY N f n o (i:Nat)=some (o+wL (f.drop i))
 |0,i,o,h1,h2,_=>by omega
 |n+1,i,o,h1,h2,h3=>by
  have hl:=h.len
  rw[FY]
  by_cases e:i=f.length
  ·subst e;rw[dge,cF,List.drop_length];unfold wL;simp
  ·have hi:i<f.length:=by omega
   have u:=h.val _ (FO hi)
   have vb:=zC u
   rw[dlt hi,cT,GC hi,bS]
   simp only
   rw[kC (by omega) u,bS,show Ht (uat f i).2.2.2.1*((uat f i).2.2.2.2.2-(uat f i).2.2.2.2.1)=wK (uat f i) from rfl,Ab (by unfold I64;omega),Ab (by unfold I64;omega),←ns,zD hN h n (i+1) _ (by omega) (by omega) (by omega),List.drop_eq_getElem_cons hi,←Fr hi]
   unfold wL
   rw[List.map_cons,List.sum_cons,Int.add_assoc]
theorem yK {N:Nat} (hN:1001≤N) {f:List Un} (h:FV f):Bk N f=some (wL f):=by
 have hl:=h.len
 have L:=zD hN h N 0 0 (by omega) (by omega) (by omega)
 rw[Int.natCast_zero,List.drop_zero,Int.zero_add] at L
 unfold Bk
 rw[UZ hN,bS,decide_eq_true h,cF' _ (by rfl),L,bS]
theorem Abu {f:List Un} (h:FV f): -1536000000≤wL f∧wL f≤1536000000:=by
 have:=O1 wK 128000000 f fun u hu=>zC (h.val u hu)
 have hl:=h.len
 unfold wL;omega
def kp (d:Pt) (c:Con):Bool:=decide (d.2=0)||decide (c.2.1≠-1)
end Go.Proofs.YtciphecegkfaiaaGreat.Am
