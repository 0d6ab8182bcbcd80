import Derived.Test.YtciphecegkfaiaaGreatNC
import Derived.Test.YtciphecegkfaiaaGreatMI
import Derived.Test.YtciphecegkfaiaaGreatL3
namespace Go.Proofs.YtciphecegkfaiaaGreat.Am
set_option linter.unusedSimpArgs false
set_option linter.unusedVariables false
set_option linter.unusedSectionVars false
theorem AaL {u v:Un} {c:Con} (h:tcO u v=some c):∃s,IX u.2.2.2.1 v.2.2.2.1=some s∧apart u.2.2.2.1 v.2.2.2.1∧max u.2.2.2.2.1 v.2.2.2.2.1<min u.2.2.2.2.2 v.2.2.2.2.2∧c=(u.1,v.1,s,max u.2.2.2.2.1 v.2.2.2.2.1,min u.2.2.2.2.2 v.2.2.2.2.2):=by
 obtain⟨h1,rfl⟩:=vA h
 obtain⟨e,h2,h3⟩:=vP h1
 rw[e]
 unfold Gj at h2⊢
 split at h2
 ·rename_i ha
  rw[if_pos ha]
  cases hs:IX u.2.2.2.1 v.2.2.2.1 with
  |none=>rw[hs] at h2;cases h2
  |some s=>exact⟨s,rfl,ha,h3,rfl⟩
 ·cases h2
theorem AaM {u v:Un} {s:Pt×Pt} (h1:IX u.2.2.2.1 v.2.2.2.1=some s) (h2:apart u.2.2.2.1 v.2.2.2.1) (h3:max u.2.2.2.2.1 v.2.2.2.2.1<min u.2.2.2.2.2 v.2.2.2.2.2):tcO u v=some (u.1,v.1,s,max u.2.2.2.2.1 v.2.2.2.2.1,min u.2.2.2.2.2 v.2.2.2.2.2):=by
 unfold tcO tcS W5 Gj
 rw[if_pos h3,if_pos h2,h1]
 rfl
def Aap (c:Con):Con:=(c.2.1,c.1,(c.2.2.1.2,c.2.2.1.1),c.2.2.2)
theorem wM {u v:Un} (hu:UV u) (hv:UV v) {c:Con} (h:tcO u v=some c):tcO v u=some (Aap c):=by
 obtain⟨s,h1,h2,h3,rfl⟩:=AaL h
 have h4:=vM hu.l hv.l h2
 rw[h1] at h4
 rw[AaM h4 h2.symm (by rw[Int.max_comm,Int.min_comm];exact h3),Int.max_comm,Int.min_comm]
 rfl
theorem wJ {f:List Un} {c:Con}:c∈tY f↔(∃u∈f,stO u=some c)∨∃i k,i<k∧k<f.length∧tcO (uat f i) (uat f k)=some c:=by
 rw[←(uB f).mem_iff]
 unfold uA
 rw[List.mem_append,List.mem_filterMap,List.mem_filterMap]
 refine or_congr Iff.rfl ?_
 have h:(∀e∈DC f,(fun u v=>tcO u v≠some c) e.1 e.2)↔f.Pairwise fun u v=>tcO u v≠some c:=MJ (R:=fun u v=>tcO u v≠some c)
 rw[H9] at h
 constructor
 ·rintro⟨e,he,hc⟩
  exact Classical.byContradiction fun hn=>(h.2 fun i k hik hk q=>hn ⟨i,k,hik,hk,q⟩) e he hc
 ·rintro⟨i,k,hik,hk,hc⟩
  exact Classical.byContradiction fun hn=>(h.1 fun e he q=>hn ⟨e,he,q⟩) i k hik hk hc
theorem xI {f:List Un} (h:FV f) {c:Con}:c∈tY f↔(∃u∈f,stO u=some c)∨∃u∈f,∃v∈f,u.1<v.1∧tcO u v=some c:=by
 rw[wJ]
 refine or_congr Iff.rfl ⟨?_, ?_⟩
 ·rintro⟨i,k,hik,hk,e⟩
  exact⟨_,FO (by omega),_,FO hk,H9.1 h.srt i k hik hk,e⟩
 ·rintro⟨u,hu,v,hv,hlt,e⟩
  obtain⟨i,hi,rfl⟩:=MI hu
  obtain⟨k,hk,rfl⟩:=MI hv
  refine⟨i,k, ?_,hk,e⟩
  by_cases c1:i<k
  ·exact c1
  ·have:=Sj h (show k≤i by omega) hi;omega
theorem AaO {f:List Un} (h:FV f) {c d:Con} (hc:c∈tY f) (hd:d∈tY f) (e1:c.1=d.1) (e2:c.2.1=d.2.1):c=d:=
 bZ (uX (uM h.srt h.id0)) hc hd e1 e2
theorem xP {f:List Un} (h:0<f.length) (c:Int):∃i:Nat,pk c f.length=i∧i<f.length:=by
 have:= @HW c f.length (by omega)
 exact⟨(pk c f.length).toNat,by omega,by omega⟩
end Go.Proofs.YtciphecegkfaiaaGreat.Am
