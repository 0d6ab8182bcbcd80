import Derived.Test.YtciphecegkfaiaaGreatMY
import Derived.Test.YtciphecegkfaiaaGreatM7
import Derived.Test.YtciphecegkfaiaaGreatMQ
import Derived.Test.YtciphecegkfaiaaGreatDA
namespace Go.Proofs.YtciphecegkfaiaaGreat.Am
set_option linter.unusedSimpArgs false
set_option linter.unusedVariables false
theorem Aas {u v:List Pt} (h:u.length=v.length) (hp:∀i,i<u.length→pa u i=pa v i):u=v:=by
 apply List.ext_getElem h
 intro i h1 h2
 have:=hp i h1
 rwa [C9 h1,C9 h2] at this
theorem xR {l:List Pt} {i k:Nat} (hik:i≤k) (hk:k<l.length):(l.drop i).take (k+1-i)=arc l i (k-i):=by
 apply Aas
 ·rw[Nc,List.length_take,List.length_drop];omega
 ·intro t ht
  rw[List.length_take,List.length_drop] at ht
  rw[K8 (by omega),HX (by omega),C9 (by rw[List.length_take,List.length_drop];omega),C9 (by omega),List.getElem_take,List.getElem_drop]
theorem Ach {l:List Pt} {i k:Nat} (hik:k<i) (hi:i<l.length):l.drop i++l.take (k+1)=arc l i (k+l.length-i):=by
 apply Aas
 ·rw[Nc,List.length_append,List.length_take,List.length_drop];omega
 ·intro t ht
  rw[List.length_append,List.length_take,List.length_drop] at ht
  rw[K8 (by omega)]
  by_cases h:t<l.length-i
  ·rw[HU (by rw[List.length_drop];omega),HX (by omega),C9 (by rw[List.length_drop];omega),C9 (by omega),List.getElem_drop]
  ·rw[K6 (by rw[List.length_drop];omega) (by rw[List.length_drop,List.length_take];omega),List.length_drop,C9 (by rw[List.length_take];omega),List.getElem_take]
   have e:i+t=(t-(l.length-i))+l.length:=by omega
   rw[e,Hg,HX (by omega),C9 (by omega)]
theorem yL {N:Nat} (hN:100≤N) {u v:List Pt} (h:0<u.length) (hu:u.length≤1000) (hv:v.length≤1000):wC N [u,v]=some (u++v):=by
 unfold wC
 have s1:∀n,vZ N [u,v] (n+1+1+1) 0 0=some (0+(u.length:Int)+(v.length:Int)):=fun n=>by
  rw[vZ,cT' _ (by rfl),show nth [u,v] 0=some u from rfl,bS,Ab (by unfold I64;omega),Ab (decide_eq_false (by omega)),Ab (by decide),vZ,cT' _ (by rfl),show nth [u,v] (0+1)=some v from rfl,bS,Ab (by unfold I64;omega),Ab (decide_eq_false (by omega)),Ab (by decide),vZ,cF' _ (by rfl)]
 have s3:∀n,wA N [u,v] (n+1+1+1) 0 []=some ([]++u++v):=fun n=>by
  rw[wA,cT' _ (by rfl),show nth [u,v] 0=some u from rfl,bS,Ab (by simp;omega),Ab (by decide),wA,cT' _ (by rfl),show nth [u,v] (0+1)=some v from rfl,bS,Ab (by simp;omega),Ab (by decide),wA,cF' _ (by rfl)]
 obtain⟨n,e⟩:∃n,N=n+1+1+1:=⟨N-3,by omega⟩
 have h1:=s1 n
 have h3:=s3 n
 rw[←e] at h1 h3
 rw[h1,bS,Ab (decide_eq_false (by omega)),Ab (by unfold I64;omega),cT' _ (decide_eq_true (by omega)),Ab (by decide),Ab (by omega),Ab (by omega),h3,bS,List.nil_append]
theorem wT {n i k:Nat} (hik:i≤k) (hk:k<n):stp n i k=k-i:=by
 unfold stp;rw[Nat.mod_eq_sub_mod (by omega),Nat.mod_eq_of_lt (by omega)];omega
theorem wX {n i k:Nat} (hik:k<i) (hi:i<n):stp n i k=k+n-i:=by
 unfold stp;rw[Nat.mod_eq_of_lt (by omega)]
theorem yG {n i k:Nat} (hi:i<n) (hk:k<n) (h:i≠k):stp n i k+stp n k i=n:=by
 rcases Nat.lt_or_gt_of_ne h with q|q
 ·rw[wT (by omega) hk,wX q hk];omega
 ·rw[wX q hi,wT (by omega) hi];omega
theorem Abb {N:Nat} (hN:100≤N) {l:List Pt} (h:VP l) {i k:Nat} (hi:i<l.length) (hk:k<l.length):wR N l i k=some (tP l i k):=by
 unfold wR tP
 have l8:=h.l8
 have t1:((k:Int)+1).toNat=k+1:=by omega
 have t2:((i:Int)+1).toNat=i+1:=by omega
 rw[GP hN h,bS,cF' _ (by simp;omega),t1,t2,Int.toNat_natCast,Int.toNat_natCast,Nat.sub_zero,Nat.sub_zero]
 have ne:∀j m,arc l j m≠[]:=fun j m e=>by have:=Nc l j m;rw[e] at this;simp at this
 rcases Nat.lt_trichotomy i k with q|q|q
 ·rw[cT' _ (decide_eq_true (by omega)),cF' _ (decide_eq_false (by omega)),wT (by omega) hk,wX q hk,xR (by omega) hk]
  rw[Ab (by unfold I64;omega),Ab ⟨by omega,by omega,by omega⟩,Ab (ne _ _),Ab (by rw[Nc];omega),Ab ⟨by omega,by omega⟩,Ab (by unfold I64;omega),Ab ⟨by omega,by omega,by omega⟩,
   yL hN (by rw[List.length_drop];omega) (by rw[List.length_drop];omega) (by rw[List.length_take];omega),bS,Ach q hk,Nc,Nc]
  by_cases hc:k-i<2∨i+l.length-k<2
  ·rw[if_pos hc,cT' _ (decide_eq_true (by omega))]
  ·rw[if_neg hc,cF' _ (decide_eq_false (by omega))]
 ·subst q
  rw[cT' _ (decide_eq_true (by omega)),cT' _ (decide_eq_true (by omega)),wT (by omega) hk,xR (by omega) hk]
  rw[Ab (by unfold I64;omega),Ab ⟨by omega,by omega,by omega⟩,Ab (ne _ _),Ab (by rw[Nc];omega),Ab (by unfold I64;omega),Ab ⟨by omega,by omega,by omega⟩,Ab (ne _ _),Ab (by rw[Nc];omega),Nc,if_pos (by omega),cT' _ (decide_eq_true (by omega))]
 ·rw[cF' _ (decide_eq_false (by omega)),wX q hi,wT (by omega) hi,xR (by omega) hi]
  rw[Ab ⟨by omega,by omega⟩,Ab (by unfold I64;omega),Ab ⟨by omega,by omega,by omega⟩,
   yL hN (by rw[List.length_drop];omega) (by rw[List.length_drop];omega) (by rw[List.length_take];omega),bS,cT' _ (decide_eq_true (by omega)),Ach q hi,Ab (by unfold I64;omega),Ab ⟨by omega,by omega,by omega⟩,Ab (ne _ _),Ab (by rw[Nc];omega),Nc,Nc]
  by_cases hc:k+l.length-i<2∨i-k<2
  ·rw[if_pos hc,cT' _ (decide_eq_true (by omega))]
  ·rw[if_neg hc,cF' _ (decide_eq_false (by omega))]
theorem Aat (F:Pt×Pt→Int) (l:List Pt) (i m:Nat):cs F (arc l i m)=rs (fun t=>F (qa l (i+t),qa l (i+(t+1)))) m+F (qa l (i+m),qa l i):=by
 rw[Zh,Nc,Jd]
 have e1:∀t,t≤m→qa (arc l i m) t=qa l (i+t):=fun t ht=>by rw[HX (by rw[Nc];omega),K8 ht]
 have e2:qa (arc l i m) (m+1)=qa l i:=by
  have:=Hg (arc l i m) 0
  rw[Nc,Nat.zero_add] at this
  rw[this,e1 0 (by omega),Nat.add_zero]
 rw[e2,e1 m (Nat.le_refl _)]
 congr 1
 exact LW fun t ht=>by rw[e1 t (by omega),e1 (t+1) (by omega)]
theorem yU {F:Pt×Pt→Int} (anti:∀a b,F (a,b)= -F (b,a)) (l:List Pt) {i k:Nat} (hi:i<l.length) (hk:k<l.length) (h:i≠k):cs F (arc l i (stp l.length i k))+cs F (arc l k (stp l.length k i))=cs F l:=by
 have hs:=yG hi hk h
 have h1:=iC hi hk
 have h2:=iC hk hi
 have q1:qa l (i+stp l.length i k)=qa l k:=by rw[←sI,h1]
 have q2:qa l (k+stp l.length k i)=qa l i:=by rw[←sI,h2]
 rw[Aat,Aat,q1,q2,anti (qa l i) (qa l k),Zh]
 have r:=sK (f:=fun t=>F (qa l t,qa l (t+1))) (n:=l.length) (fun t=>by
  rw[Hg,show t+l.length+1=t+1+l.length by omega,Hg]) i
 rw[←r]
 have a:=O5 (fun t=>F (qa l (i+t),qa l (i+t+1))) (stp l.length i k) (stp l.length k i)
 rw[hs] at a
 rw[a]
 have c:rs (fun t=>F (qa l (i+(stp l.length i k+t)),qa l (i+(stp l.length i k+t)+1))) (stp l.length k i)=rs (fun t=>F (qa l (k+t),qa l (k+(t+1)))) (stp l.length k i):=LW fun t _=>by
  have e:∀t,qa l (i+(stp l.length i k+t))=qa l (k+t):=fun t=>by
   rw[←Nat.add_assoc,←sI,Nat.add_mod,h1,←Nat.mod_eq_of_lt hk,←Nat.add_mod,sI]
   rw[Nat.mod_eq_of_lt hk]
  rw[e,show i+(stp l.length i k+t)+1=i+(stp l.length i k+(t+1)) by omega,e]
 rw[c]
 simp only[Nat.add_assoc]
 omega
theorem AaR (l:List Pt) {i k:Nat} (hi:i<l.length) (hk:k<l.length) (h:i≠k):
  Ht (arc l i (stp l.length i k))+Ht (arc l k (stp l.length k i))=Ht l∧NP (arc l i (stp l.length i k))+NP (arc l k (stp l.length k i))=NP l∧NQ (arc l i (stp l.length i k))+NQ (arc l k (stp l.length k i))=NQ l:=by
 simp only[bN,rU,rV]
 refine⟨yU (fun a b=> ?_) l hi hk h,yU (fun a b=> ?_) l hi hk h,yU (fun a b=> ?_) l hi hk h⟩<;>(unfold crs;simp only;grind)
theorem xY {l:List Pt} {i m t:Nat} (ht:t≤m):qa (arc l i m) t=qa l (i+t):=by rw[HX (by rw[Nc];omega),K8 ht]
theorem Aak (l:List Pt) (i m:Nat):qa (arc l i m) (m+1)=qa l i:=by
 have:=Hg (arc l i m) 0
 rw[Nc,Nat.zero_add] at this
 rw[this,xY (Nat.zero_le _),Nat.add_zero]
theorem xF {l:List Pt} {i m:Nat} (p:Pt):E (arc l i m) m p=trn (qa l (i+m)) (qa l i) p:=by
 rw[iO (by rw[Nc];omega) (by rw[Nc];omega),xY (Nat.le_refl _),Aak]
theorem Abc {l:List Pt} {i m:Nat} {p:Pt}:p∈arc l i m↔∃t,t≤m∧p=qa l (i+t):=by
 unfold arc
 simp only[List.mem_map,List.mem_range]
 exact⟨fun⟨t,h,e⟩=>⟨t,by omega,e.symm⟩,fun⟨t,h,e⟩=>⟨t,by omega,e.symm⟩⟩
structure CutAt (l:List Pt) (i k m m':Nat):Prop where
 h:VP l
 hm:2≤m
 hm':2≤m'
 hs:m+m'=l.length
 hk:qa l (i+m)=qa l k
 hi:qa l (k+m')=qa l i
 hkt:∀t,qa l (i+(m+t))=qa l (k+t)
theorem Abd {l:List Pt} {i k m m':Nat} (C:CutAt l i k m m'):qa l k≠qa l i:=by
 obtain⟨h,hm,hm',hs,hk,hi,hkt⟩:=id C
 intro e
 have:=Hh h.cv (s:=i) (a:=m) hm (by omega)
 rw[hk,e,FI] at this
 omega
theorem wQ {l:List Pt} {i k m m':Nat} (C:CutAt l i k m m') {t s:Nat} (ht:t<m) (hs':s≤m') (hz:trn (qa l (i+t)) (qa l (i+t+1)) (qa l (k+s))=0):(s=0∧t+1=m)∨(s=m'∧t=0):=by
 obtain⟨h,hm,hm',hs,hk,hi,hkt⟩:=id C
 have e:qa l (k+s)=qa l (i+t+(m+s-t)):=by rw[←hkt];congr 1;omega
 rw[e] at hz
 by_cases a1:m+s-t=1
 ·exact .inl ⟨by omega,by omega⟩
 by_cases a2:m+s-t=l.length
 ·exact .inr ⟨by omega,by omega⟩
 have:=Hh h.cv (s:=i+t) (a:=m+s-t) (by omega) (by omega)
 omega
theorem xQ {l:List Pt} {i k m m':Nat} (C:CutAt l i k m m') {s:Nat} (hs':s≤m') (hz:trn (qa l k) (qa l i) (qa l (k+s))=0):s=0∨s=m':=by
 obtain⟨h,hm,hm',hs,hk,hi,hkt⟩:=id C
 by_cases h0:s=0
 ·exact .inl h0
 by_cases h1:s=m'
 ·exact .inr h1
 exfalso
 have:=Jw h.cv k s (by omega) (m'-s-1) (by omega)
 rw[show k+(s+(m'-s-1)+1)=k+m' by omega,hi] at this
 have e:trn (qa l k) (qa l i) (qa l (k+s))= -trn (qa l k) (qa l (k+s)) (qa l i):=by unfold trn;grind
 omega
theorem yV {l a:List Pt} {j n:Nat} {e:Pt×Pt} (ea:a=arc l j n) (he:e∈Bm a):(∃t,t<n∧e=(qa l (j+t),qa l (j+t+1)))∨e=(qa l (j+n),qa l j):=by
 subst ea
 obtain⟨t,ht,rfl⟩:=Gg.1 he
 rw[Nc] at ht⊢
 by_cases e:t=n
 ·subst e
  rw[Nat.mod_self,K8 (Nat.le_refl _),K8 (Nat.zero_le _),Nat.add_zero]
  exact .inr rfl
 ·rw[Nat.mod_eq_of_lt (by omega),K8 (by omega),K8 (by omega)]
  exact .inl ⟨t,by omega,rfl⟩
theorem yM {l:List Pt} {i k m m':Nat} (C:CutAt l i k m m'):FA (qa l k,qa l i) (qa l i,qa l k)=some (qa l k,qa l i):=by
 obtain⟨h,hm,hm',hs,hk,hi,hkt⟩:=id C
 have hne:=Abd C
 generalize qa l k=P at*
 generalize qa l i=Q at*
 unfold FA
 rw[if_neg (by simp only[FI,Et];simp)]
 have z:D6 P Q≠0:=fun e=>hne (tF.1 e)
 have ll:∀u v:Pt,lo u v=lo v u:=fun u v=>by
  unfold lo
  split<;>split<;>rename_i h1 h2
  ·rw[Jx] at h1 h2;omega
  ·rfl
  ·rfl
  ·have:D6 u v=0:=by
    have h3:¬0<D6 u v:=fun q=>h1 (by rw[Jx];rw[Lb] at q;omega)
    omega
   exact tF.1 this
 have hh:∀u v:Pt,Am.hi u v=Am.hi v u:=fun u v=>by
  unfold Am.hi
  split<;>split<;>rename_i h1 h2
  ·rw[Jx] at h1 h2;omega
  ·rfl
  ·rfl
  ·have:D6 u v=0:=by
    have h3:¬0<D6 u v:=fun q=>h1 (by rw[Jx];rw[Lb] at q;omega)
    omega
   exact(tF.1 this).symm
 have mx:∀u:Pt,Im u u=u:=fun u=>by unfold Im;split<;>rfl
 have mn:∀u:Pt,In u u=u:=fun u=>by unfold In;split<;>rfl
 have ec:Ci P Q Q P=(lo P Q,Am.hi P Q):=by
  unfold Ci
  rw[ll Q P,hh Q P,mx,mn]
 rw[ec]
 by_cases hg:0<D6 P Q
 ·have h1:D6 Q P<0:=by rw[Jx];rw[Lb] at hg;exact hg
  have e1:lo P Q=Q:=if_pos h1
  have e2:Am.hi P Q=P:=if_pos h1
  simp only[e1,e2]
  rw[if_neg (by
   rintro(q|q)
   ·exact hne q.symm
   ·omega),if_pos hg]
 ·have h1:¬D6 Q P<0:=fun q=>hg (by rw[Lb];rw[Jx] at q;exact q)
  have e1:lo P Q=P:=if_neg h1
  have e2:Am.hi P Q=Q:=if_neg h1
  simp only[e1,e2]
  rw[if_neg (by
   rintro(q|q)
   ·exact hne q
   ·exact hg q),if_neg hg]
end Go.Proofs.YtciphecegkfaiaaGreat.Am
