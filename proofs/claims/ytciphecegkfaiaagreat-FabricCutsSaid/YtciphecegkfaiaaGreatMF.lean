import Derived.Test.YtciphecegkfaiaaGreatME
namespace Go.Proofs.YtciphecegkfaiaaGreat.Am
set_option linter.unusedSimpArgs false
set_option linter.unusedVariables false
theorem Aau {l:List Pt} {i k m m':Nat} (C:CutAt l i k m m'):apart (arc l i m) (arc l k m'):=by
 obtain⟨h,hm,hm',hs,hk,hi,hkt⟩:=id C
 refine .inl ⟨m,by rw[Nc];omega,fun p hp=> ?_⟩
 obtain⟨s,hs',rfl⟩:=Abc.1 hp
 rw[xF,hk,←hi]
 by_cases h0:s=0
 ·subst h0;rw[Nat.add_zero,FI];omega
 by_cases h1:s=m'
 ·subst h1;rw[Et];omega
 have:=Jw h.cv k s (by omega) (m'-s-1) (by omega)
 rw[show k+(s+(m'-s-1)+1)=k+m' by omega] at this
 have e:trn (qa l k) (qa l (k+m')) (qa l (k+s))= -trn (qa l k) (qa l (k+s)) (qa l (k+m')):=by unfold trn;grind
 omega
theorem AaT {l:List Pt} {i k m m':Nat} (C:CutAt l i k m m'):IX (arc l i m) (arc l k m')=some (qa l k,qa l i):=by
 obtain⟨h,hm,hm',hs,hk,hi,hkt⟩:=id C
 have all:∀e∈Bm (arc l i m),∀f∈Bm (arc l k m'),∀s,FA e f=some s→s=(qa l k,qa l i):=by
  intro e he f hf s hs'
  have hz:trn e.1 e.2 f.1=0∧trn e.1 e.2 f.2=0:=by
   unfold FA at hs'
   split at hs'
   ·cases hs'
   ·rename_i q
    constructor
    ·by_cases z:trn e.1 e.2 f.1=0
     ·exact z
     ·exact absurd (.inl z) q
    ·by_cases z:trn e.1 e.2 f.2=0
     ·exact z
     ·exact absurd (.inr z) q
  rcases yV rfl he with⟨t,ht,rfl⟩|rfl<;>rcases yV rfl hf with⟨s',hs2,rfl⟩|rfl
  ·have h1:=wQ C ht (by omega:s'≤m') hz.1
   have h2:=wQ C ht (by omega:s'+1≤m') hz.2
   omega
  ·have h1:=wQ C ht (Nat.le_refl m') hz.1
   have h2:=wQ C ht (Nat.zero_le m') (by rw[Nat.add_zero];exact hz.2)
   omega
  ·simp only[hk] at hz
   have h1:=xQ C (by omega:s'≤m') hz.1
   have h2:=xQ C (by omega:s'+1≤m') hz.2
   omega
  ·rw[hk,hi,yM C] at hs'
   exact(yJ hs').symm
 have e0:(qa l k,qa l i)∈Bm (arc l i m):=Gg.2 ⟨m,by rw[Nc];omega,by
  rw[Nc,Nat.mod_self,K8 (Nat.le_refl _),K8 (Nat.zero_le _),hk,Nat.add_zero]⟩
 have f0:(qa l i,qa l k)∈Bm (arc l k m'):=Gg.2 ⟨m',by rw[Nc];omega,by
  rw[Nc,Nat.mod_self,K8 (Nat.le_refl _),K8 (Nat.zero_le _),hi,Nat.add_zero]⟩
 unfold IX
 cases hc:(Bm (arc l i m)).findSome? fun e=>(Bm (arc l k m')).findSome? (FA e) with
 |none=>
  rw[List.findSome?_eq_none_iff] at hc
  have:=hc _ e0
  rw[List.findSome?_eq_none_iff] at this
  have:=this _ f0
  rw[yM C] at this
  cases this
 |some s=>
  obtain⟨e,he,hc⟩:=List.exists_of_findSome?_eq_some hc
  obtain⟨f,hf,hc⟩:=List.exists_of_findSome?_eq_some hc
  rw[all e he f hf s hc]
theorem Abr {l:List Pt} (h:VP l) {i k:Nat} (hi:i<l.length) (hk:k<l.length) (h1:2≤stp l.length i k) (h2:2≤stp l.length k i):CutAt l i k (stp l.length i k) (stp l.length k i):=by
 have hne:i≠k:=by
  rintro rfl
  rw[wT (Nat.le_refl _) hi] at h1
  omega
 have s1:=iC hi hk
 have s2:=iC hk hi
 refine⟨h,h1,h2,yG hi hk hne, ?_, ?_,fun t=> ?_⟩
 ·rw[←sI,s1]
 ·rw[←sI,s2]
 ·rw[←Nat.add_assoc]
  unfold qa
  congr 1
  rw[Nat.add_mod,s1,←Nat.mod_eq_of_lt hk,←Nat.add_mod,Nat.mod_eq_of_lt hk]
theorem AbF {n i k:Nat} (hi:i<n) (hk:k<n) (hn:3≤n):(i=k∨(i+1)%n=k∨(k+1)%n=i)↔(stp n i k<2∨stp n k i<2):=by
 have a1:(i+1)%n=if i+1=n then 0 else i+1:=by
  split
  ·rename_i h;rw[h,Nat.mod_self]
  ·exact Nat.mod_eq_of_lt (by omega)
 have a2:(k+1)%n=if k+1=n then 0 else k+1:=by
  split
  ·rename_i h;rw[h,Nat.mod_self]
  ·exact Nat.mod_eq_of_lt (by omega)
 rw[a1,a2]
 rcases Nat.lt_trichotomy i k with q|q|q
 ·rw[wT (by omega) hk,wX q hk]
  split<;>split<;>omega
 ·subst q
  rw[wT (by omega) hk]
  simp
 ·rw[wX q hi,wT (by omega) hi]
  split<;>split<;>omega
end Go.Proofs.YtciphecegkfaiaaGreat.Am
