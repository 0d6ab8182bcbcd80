import Derived.Test.YtciphecegkfaiaaGreatNC
import Derived.Test.YtciphecegkfaiaaGreatMI
import Derived.Test.YtciphecegkfaiaaGreatL3
namespace Go.Proofs.YtciphecegkfaiaaGreat.Am
set_option linter.unusedSimpArgs false
set_option linter.unusedVariables false
set_option linter.unusedSectionVars false
theorem AaL {u v:Un} {c:Con} (h:tcO u v=some c):∃s,IX u.2.2.2.1 v.2.2.2.1=some s∧apart u.2.2.2.1 v.2.2.2.1∧max u.2.2.2.2.1 v.2.2.2.2.1<min u.2.2.2.2.2 v.2.2.2.2.2∧c=(u.1,v.1,s,max u.2.2.2.2.1 v.2.2.2.2.1,min u.2.2.2.2.2 v.2.2.2.2.2):=by
 obtain⟨h1,rfl⟩:=vA h
 obtain⟨e,h2,h3⟩:=vP h1
 rw[e]
 unfold Gj at h2⊢
 split at h2
 ·rename_i ha
  rw[if_pos ha]
  cases hs:IX u.2.2.2.1 v.2.2.2.1 with
  |none=>rw[hs] at h2;cases h2
  |some s=>exact⟨s,rfl,ha,h3,rfl⟩
 ·cases h2
theorem AaM {u v:Un} {s:Pt×Pt} (h1:IX u.2.2.2.1 v.2.2.2.1=some s) (h2:apart u.2.2.2.1 v.2.2.2.1) (h3:max u.2.2.2.2.1 v.2.2.2.2.1<min u.2.2.2.2.2 v.2.2.2.2.2):tcO u v=some (u.1,v.1,s,max u.2.2.2.2.1 v.2.2.2.2.1,min u.2.2.2.2.2 v.2.2.2.2.2):=by
 unfold tcO tcS W5 Gj
 rw[if_pos h3,if_pos h2,h1]
 rfl
def Aap (c:Con):Con:=(c.2.1,c.1,(c.2.2.1.2,c.2.2.1.1),c.2.2.2)
theorem wM {u v:Un} (hu:UV u) (hv:UV v) {c:Con} (h:tcO u v=some c):tcO v u=some (Aap c):=by
 obtain⟨s,h1,h2,h3,rfl⟩:=AaL h
 have h4:=vM hu.l hv.l h2
 rw[h1] at h4
 rw[AaM h4 h2.symm (by rw[Int.max_comm,Int.min_comm];exact h3),Int.max_comm,Int.min_comm]
 rfl
def wI (c:Con):Option (Int×Int):=if c.2.2.1.1.1<c.2.2.1.2.1 then some (c.1,c.2.1) else if c.2.2.1.2.1<c.2.2.1.1.1 then some (c.2.1,c.1) else none
noncomputable def wG (f:List Un):List (Int×Int):=MN leP ((tY f).filterMap wI)
theorem Acd (N:Nat) {cs:List Con} (hc:cs.length≤1000):∀n i l,i≤cs.length→cs.length<n+i→l.length≤i→EP N cs n (i:Nat) l=some (l++(cs.drop i).filterMap wI)
 |0,i,l,h1,h2,_=>by omega
 |n+1,i,l,h1,h2,h3=>by
  rw[EP]
  by_cases e:i=cs.length
  ·subst e;rw[dge,cF,List.drop_length];simp
  ·have hi:i<cs.length:=by omega
   rw[dlt hi,cT,Tq,List.getElem?_eq_getElem hi,bS,List.drop_eq_getElem_cons hi,List.filterMap_cons]
   generalize cs[i]=c
   obtain⟨c1,c2,⟨⟨c3,c4⟩,c5,c6⟩,c7,c8⟩:=c
   simp only[wI]
   rw[JT,bS]
   by_cases k1:c3<c5
   ·rw[if_pos k1,cT' _ (by rfl),if_pos k1,Ab (by omega),Ab (by unfold I64;omega),←ns,Acd N hc n (i+1) _ (by omega) (by omega) (by simp;omega),List.append_assoc]
    rfl
   ·rw[if_neg k1,if_neg k1]
    by_cases k2:c5<c3
    ·rw[if_pos k2,cF' _ (by rfl),cT' _ (by rfl),if_pos k2,Ab (by omega),Ab (by unfold I64;omega),←ns,Acd N hc n (i+1) _ (by omega) (by omega) (by simp;omega),List.append_assoc]
     rfl
    ·rw[if_neg k2,cF' _ (by rfl),cF' _ (by rfl),if_neg k2,Ab (by unfold I64;omega),←ns,Acd N hc n (i+1) _ (by omega) (by omega) (by omega)]
theorem xD {f:List Un} (h:FV f):(tY f).length≤1000:=by
 have hl:=h.len
 have pl:=uH f
 have q:f.length*f.length≤12*12:=Nat.mul_le_mul hl hl
 have fl:=List.length_filterMap_le stO f
 have:=List.length_filterMap_le (fun e:Un×Un=>tcO e.1 e.2) (DC f)
 rw[←(uB f).length_eq]
 unfold uA;rw[List.length_append];omega
theorem wZ {N:Nat} (hN:1001≤N) (f:List Un):Co N f=some (if FV f then wG f else[]):=by
 unfold Co
 rw[UZ hN,bS]
 by_cases h:FV f
 ·have L:=Acd N (xD h) N 0 [] (by omega) (by have:=xD h;omega) (by simp)
  have len:=List.length_filterMap_le wI (tY f)
  have cl:=xD h
  rw[Int.natCast_zero,List.drop_zero,List.nil_append] at L
  rw[decide_eq_true h,cF' _ (by rfl),vQ hN h,bS,L,bS,Ab (by omega),if_pos h,cD]
  rfl
 ·rw[decide_eq_false h,cT' _ (by rfl),if_neg h]
theorem wJ {f:List Un} {c:Con}:c∈tY f↔(∃u∈f,stO u=some c)∨∃i k,i<k∧k<f.length∧tcO (uat f i) (uat f k)=some c:=by
 rw[←(uB f).mem_iff]
 unfold uA
 rw[List.mem_append,List.mem_filterMap,List.mem_filterMap]
 refine or_congr Iff.rfl ?_
 have h:(∀e∈DC f,(fun u v=>tcO u v≠some c) e.1 e.2)↔f.Pairwise fun u v=>tcO u v≠some c:=MJ (R:=fun u v=>tcO u v≠some c)
 rw[H9] at h
 constructor
 ·rintro⟨e,he,hc⟩
  exact Classical.byContradiction fun hn=>(h.2 fun i k hik hk q=>hn ⟨i,k,hik,hk,q⟩) e he hc
 ·rintro⟨i,k,hik,hk,hc⟩
  exact Classical.byContradiction fun hn=>(h.1 fun e he q=>hn ⟨e,he,q⟩) i k hik hk hc
theorem xI {f:List Un} (h:FV f) {c:Con}:c∈tY f↔(∃u∈f,stO u=some c)∨∃u∈f,∃v∈f,u.1<v.1∧tcO u v=some c:=by
 rw[wJ]
 refine or_congr Iff.rfl ⟨?_, ?_⟩
 ·rintro⟨i,k,hik,hk,e⟩
  exact⟨_,FO (by omega),_,FO hk,H9.1 h.srt i k hik hk,e⟩
 ·rintro⟨u,hu,v,hv,hlt,e⟩
  obtain⟨i,hi,rfl⟩:=MI hu
  obtain⟨k,hk,rfl⟩:=MI hv
  refine⟨i,k, ?_,hk,e⟩
  by_cases c1:i<k
  ·exact c1
  ·have:=Sj h (show k≤i by omega) hi;omega
theorem wO {c:Con} {p:Int×Int} (h:wI c=some p):p=(c.1,c.2.1)∨p=(c.2.1,c.1):=by
 unfold wI at h
 split at h
 ·exact .inl (yJ h).symm
 ·split at h
  ·exact .inr (yJ h).symm
  ·cases h
theorem xT {f:List Un} (h:FV f) {c:Con} (hc:c∈tY f):0≤c.1∧(c.2.1= -1∨c.1<c.2.1):=by
 rcases wJ.1 hc with⟨u,hu,e⟩|⟨i,k,hik,hk,e⟩
 ·have:=uU e
  have:=h.id0 u hu
  exact⟨by omega,.inl (by omega)⟩
 ·have k1:=tZ e
  have:=h.id0 _ (FO (f:=f) (k:=i) (by omega))
  have:=H9.1 h.srt i k hik hk
  exact⟨by omega,.inr (by omega)⟩
theorem AaO {f:List Un} (h:FV f) {c d:Con} (hc:c∈tY f) (hd:d∈tY f) (e1:c.1=d.1) (e2:c.2.1=d.2.1):c=d:=
 bZ (uX (uM h.srt h.id0)) hc hd e1 e2
theorem AaP {f:List Un} (h:FV f):((tY f).filterMap wI).Nodup:=by
 have hs:=uM h.srt h.id0
 refine List.Pairwise.filterMap wI (R:=fun c d:Con=>c∈tY f∧d∈tY f∧ltK c d) ?_ (hs.imp_of_mem fun hc hd h=>⟨hc,hd,h⟩)
 rintro c d ⟨hc,hd,hlt⟩ p hp q hq e
 subst e
 have k1:=xT h hc
 have k2:=xT h hd
 unfold ltK at hlt
 rcases wO hp with r|r<;>rcases wO hq with s|s<;>rw[r] at s<;>simp only[Prod.mk.injEq] at s<;>omega
theorem wP (f:List Un):(wG f).Perm ((tY f).filterMap wI):=MO leP _
theorem yD {f:List Un} (h:FV f):(wG f).Nodup:=(wP f).nodup_iff.2 (AaP h)
def wW (x y:Int×Int):Prop:=x.1<y.1∨x.1=y.1∧x.2<y.2
theorem Aaq {l:List (Int×Int)} (h:l.Nodup) (hs:l.Pairwise fun a b=>leP a b=true):l.Pairwise wW:=by
 refine(h.and hs).imp ?_
 rintro a b ⟨h1,h2⟩
 rw[Q4] at h2
 unfold wW
 have:¬(a.1=b.1∧a.2=b.2):=fun e=>h1 (Prod.ext e.1 e.2)
 omega
theorem xU {f:List Un} (h:FV f):(wG f).Pairwise wW:=Aaq (yD h) (TL jH bY _)
theorem xP {f:List Un} (h:0<f.length) (c:Int):∃i:Nat,pk c f.length=i∧i<f.length:=by
 have:= @HW c f.length (by omega)
 exact⟨(pk c f.length).toNat,by omega,by omega⟩
end Go.Proofs.YtciphecegkfaiaaGreat.Am
