import Derived.Test.YtciphecegkfaiaaGreatNE
import Derived.Test.YtciphecegkfaiaaGreatNR
import Derived.Test.YtciphecegkfaiaaGreatNG
import Derived.Test.YtciphecegkfaiaaGreatNZ
import Derived.Test.YtciphecegkfaiaaGreatL5
namespace Go.Proofs.YtciphecegkfaiaaGreat.Am
set_option linter.unusedSimpArgs false
set_option linter.unusedVariables false
set_option linter.unusedSectionVars false
theorem yH {f:List Un} (h:FV f) {u:Un} (hu:u∈f):ML (jC f u.1) u=f:=by
 obtain⟨i,hi,rfl⟩:=MI hu
 obtain⟨r,p⟩:=h.pos (uat f i).1
 have hr:r=i:=by
  have h1:r≤i:=by
   by_cases c:r≤i
   ·exact c
   ·have:=p.lo i (by omega);omega
  by_cases c:r=i
  ·exact c
  ·have:=p.hi r (Nat.le_refl _) (by omega)
   have:=H9.1 h.srt r i (by omega) hi
   omega
 subst hr
 have e1:MK (jC f (uat f r).1) (uat f r).1=MK f (uat f r).1:=by
  unfold MK jC
  rw[List.filter_filter]
  exact List.filter_congr fun v hv=>by rw[Bool.eq_iff_iff,Bool.and_eq_true,decide_eq_true_eq,decide_eq_true_eq];omega
 have e2:geU f (uat f r).1=uat f r::geU (jC f (uat f r).1) (uat f r).1:=by
  have hd:geU f (uat f r).1=uat f r::f.drop (r+1):=by rw[←p.split.2,List.drop_eq_getElem_cons hi,Fr hi]
  rw[hd]
  congr 1
  have hg:geU (jC f (uat f r).1) (uat f r).1=(geU f (uat f r).1).filter fun v=>decide (v.1≠(uat f r).1):=by
   unfold geU jC
   rw[List.filter_filter,List.filter_filter]
   exact List.filter_congr fun v hv=>Bool.and_comm _ _
  rw[hg,hd,List.filter_cons,if_neg (by simp)]
  refine(List.filter_eq_self.2 fun v hv=> ?_).symm
  obtain⟨k,hk,rfl⟩:=List.mem_drop_iff_getElem.1 hv
  have:=H9.1 h.srt r (k+(r+1)) (by omega) (by omega)
  rw[Fr (show k+(r+1)<f.length by omega)] at this
  simp only[Nat.add_comm (r+1) k]
  rw[decide_eq_true_eq];omega
 unfold ML
 rw[e1]
 exact(congrArg (MK f (uat f r).1++·) e2.symm).trans (h.cut _)
theorem zP {f:List Un} (h:FV f) {u:Un} (hu:u∈f):Fit (jC f u.1) u:=by
 refine⟨h.sub List.filter_sublist,h.val u hu, ?_,fun v hv=>by have:=(List.mem_filter.1 hv).2;simpa using this,fun v hv=> ?_⟩
 ·have hl:=h.len
  have:(jC f u.1).length<f.length:=by
   unfold jC
   refine List.length_filter_lt_length_iff_exists.2 ⟨u,hu,by simp⟩
  omega
 ·obtain⟨hv1,hv2⟩:=List.mem_filter.1 hv
  rw[decide_eq_true_eq] at hv2
  obtain⟨i,hi,rfl⟩:=MI hu
  obtain⟨k,hk,rfl⟩:=MI hv1
  by_cases c:i<k
  ·exact H9.1 h.dis i k c hk
  ·have:k≠i:=fun e=>hv2 (by rw[e])
   rw[LY]
   exact H9.1 h.dis k i (by omega) hi
section
variable {f:List Un} {u:Un} (h:Fit f u)
include h
end
theorem xM {f:List Un} {u:Un} (h:Fit f u):wL (ML f u)=wL f+wK u:=by
 unfold wL
 have e:(f.map wK).sum=((MK f u.1).map wK).sum+((geU f u.1).map wK).sum:=by
  rw[←List.sum_append,←List.map_append,h.hf.cut]
 rw[e]
 unfold ML
 rw[List.map_append,List.sum_append,List.map_cons,List.sum_cons]
 omega
end Go.Proofs.YtciphecegkfaiaaGreat.Am
