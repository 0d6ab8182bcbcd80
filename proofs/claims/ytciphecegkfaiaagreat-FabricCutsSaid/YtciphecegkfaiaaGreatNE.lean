import Derived.Test.YtciphecegkfaiaaGreatNC
namespace Go.Proofs.YtciphecegkfaiaaGreat.Am
set_option linter.unusedSimpArgs false
set_option linter.unusedVariables false
set_option linter.unusedSectionVars false
section
variable {N:Nat} (hN:N≤100000)
include hN
end
def wK (u:Un):Int:=Ht u.2.2.2.1*(u.2.2.2.2.2-u.2.2.2.2.1)
theorem zC {u:Un} (h:UV u): -128000000≤wK u∧wK u≤128000000:=by
 have:=W4 (x:=Ht u.2.2.2.1) (y:=u.2.2.2.2.2-u.2.2.2.2.1) (A:=16000000) (B:=8) (Wi h.l) (by have:=h.d;omega) (by omega)
 unfold wK;omega
noncomputable def wL (f:List Un):Int:=(f.map wK).sum
theorem zD {N:Nat} (hN:1001≤N) {f:List Un} (h:FV f):∀n i (o:Int),i≤f.length→f.length<n+i→(-128000000*i≤o∧o≤128000000*i)→FY N f n o (i:Nat)=some (o+wL (f.drop i))
 |0,i,o,h1,h2,_=>by omega
 |n+1,i,o,h1,h2,h3=>by
  have hl:=h.len
  rw[FY]
  by_cases e:i=f.length
  ·subst e;rw[dge,cF,List.drop_length];unfold wL;simp
  ·have hi:i<f.length:=by omega
   have u:=h.val _ (FO hi)
   have vb:=zC u
   rw[dlt hi,cT,GC hi,bS]
   simp only
   rw[kC (by omega) u,bS,show Ht (uat f i).2.2.2.1*((uat f i).2.2.2.2.2-(uat f i).2.2.2.2.1)=wK (uat f i) from rfl,Ab (by unfold I64;omega),Ab (by unfold I64;omega),←ns,zD hN h n (i+1) _ (by omega) (by omega) (by omega),List.drop_eq_getElem_cons hi,←Fr hi]
   unfold wL
   rw[List.map_cons,List.sum_cons,Int.add_assoc]
theorem yK {N:Nat} (hN:1001≤N) {f:List Un} (h:FV f):Bk N f=some (wL f):=by
 have hl:=h.len
 have L:=zD hN h N 0 0 (by omega) (by omega) (by omega)
 rw[Int.natCast_zero,List.drop_zero,Int.zero_add] at L
 unfold Bk
 rw[UZ hN,bS,decide_eq_true h,cF' _ (by rfl),L,bS]
def kp (d:Pt) (c:Con):Bool:=decide (d.2=0)||decide (c.2.1≠-1)
end Go.Proofs.YtciphecegkfaiaaGreat.Am
