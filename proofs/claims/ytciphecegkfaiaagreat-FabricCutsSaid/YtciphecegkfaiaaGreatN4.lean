import Derived.Test.YtciphecegkfaiaaGreatW4
import Derived.Test.YtciphecegkfaiaaGreatF4
import Derived.Test.YtciphecegkfaiaaGreatF9
namespace Go.Proofs.YtciphecegkfaiaaGreat.Am
set_option linter.unusedSimpArgs false
set_option linter.unusedVariables false
set_option linter.unusedSectionVars false
def UV (u:Un):Prop:=UP u.1 u.2.1 u.2.2.1 u.2.2.2.1 u.2.2.2.2.1 u.2.2.2.2.2
noncomputable def uvB (u:Un):Bool:=Fs u.1 u.2.1 u.2.2.1 u.2.2.2.2.1 u.2.2.2.2.2&&vB u.2.2.2.1
theorem Pa {u:Un}:uvB u=true↔UV u:=Gp
noncomputable def dpB (u v:Un):Bool:=N8 u.1 u.2.1 u.2.2.1 u.2.2.2.1 u.2.2.2.2.1 u.2.2.2.2.2 v.1 v.2.1 v.2.2.1 v.2.2.2.1 v.2.2.2.2.1 v.2.2.2.2.2
open Classical in
noncomputable def ovB (u v:Un):Bool:=dpB u v&&decide (¬apart u.2.2.2.1 v.2.2.2.1)
theorem QZ {u v:Un}:dpB u v=true↔(max u.2.2.2.2.1 v.2.2.2.2.1<min u.2.2.2.2.2 v.2.2.2.2.2)∧UV u∧UV v:=by
 unfold dpB N8 UV
 rw[Bool.and_eq_true,Bool.and_eq_true,decide_eq_true_eq,Gp,Gp,and_assoc]
open Classical in
theorem UX {u v:Un}:ovB u v=true↔((max u.2.2.2.2.1 v.2.2.2.2.1<min u.2.2.2.2.2 v.2.2.2.2.2)∧UV u∧UV v)∧¬apart u.2.2.2.1 v.2.2.2.1:=by
 unfold ovB
 rw[Bool.and_eq_true,QZ,decide_eq_true_eq]
theorem LY (u v:Un):ovB u v=ovB v u:=by
 rw[Bool.eq_iff_iff,UX,UX,Int.max_comm,Int.min_comm,and_comm (a:=UV u),show apart u.2.2.2.1 v.2.2.2.1↔apart v.2.2.2.1 u.2.2.2.1 from⟨apart.symm,apart.symm⟩]
structure FV (f:List Un):Prop where
 len:f.length≤12
 val:∀u∈f,UV u
 srt:f.Pairwise fun u v=>u.1<v.1
 dis:f.Pairwise fun u v=>ovB u v=false
noncomputable instance (f:List Un):Decidable (FV f):=Classical.propDecidable _
def uat (f:List Un) (k:Nat):Un:=f.getD k (0,0,0,[],0,0)
theorem GC {f:List Un} {k:Nat} (h:k<f.length):nth f (k:Int)=some ((uat f k).1,(uat f k).2.1,(uat f k).2.2.1,(uat f k).2.2.2.1,(uat f k).2.2.2.2.1,(uat f k).2.2.2.2.2):=by
 rw[ON (0,0,0,[],0,0) (by omega) (by omega),Int.toNat_natCast];rfl
theorem Fr {f:List Un} {k:Nat} (h:k<f.length):uat f k=f[k]:=by
 unfold uat;rw[List.getD_eq_getElem?_getD,List.getElem?_eq_getElem h];rfl
theorem FO {f:List Un} {k:Nat} (h:k<f.length):uat f k∈f:=by rw[Fr h];exact List.getElem_mem h
theorem MI {f:List Un} {u:Un} (h:u∈f):∃k,k<f.length∧uat f k=u:=by
 obtain⟨k,hk,e⟩:=List.mem_iff_getElem.1 h
 exact⟨k,hk,(Fr hk).trans e⟩
theorem H9 {f:List Un} {R:Un→Un→Prop}:f.Pairwise R↔∀i k,i<k→k<f.length→R (uat f i) (uat f k):=by
 rw[List.pairwise_iff_getElem]
 constructor
 ·intro h i k hik hk
  rw[Fr (by omega),Fr hk]
  exact h i k (by omega) hk hik
 ·intro h i k hi hk hik
  have:=h i k hik hk
  rw[Fr hi,Fr hk] at this
  exact this
theorem bP {f:List Un} (h:∀k,0<k→k<f.length→(uat f (k-1)).1<(uat f k).1):f.Pairwise fun u v=>u.1<v.1:=by
 rw[H9]
 intro i k hik hk
 induction k with
 |zero=>omega
 |succ k ih=>
  have h1:=h (k+1) (by omega) hk
  rw[Nat.add_sub_cancel] at h1
  by_cases e:i=k
  ·rw[e];exact h1
  ·have:=ih (by omega) (by omega)
   omega
theorem MJ {α:Type} {R:α→α→Prop}:∀{f:List α},(∀e∈DC f,R e.1 e.2)↔f.Pairwise R
 |[]=>by simp[DC]
 |u::r=>by
  rw[List.pairwise_cons,DC,←MJ]
  simp only[List.mem_append,List.mem_map]
  constructor
  ·intro h
   exact⟨fun v hv=>h (u,v) (.inl ⟨v,hv,rfl⟩),fun e he=>h e (.inr he)⟩
  ·rintro⟨h1,h2⟩ e (⟨v,hv,rfl⟩|he)
   ·exact h1 v hv
   ·exact h2 e he
def Je (f:List Un) (k:Nat):Prop:=uvB (uat f k)=true∧(0<k→(uat f (k-1)).1<(uat f k).1)
def okR (f:List Un) (k:Nat):Prop:=Je f k∧∀j,j<k→ovB (uat f k) (uat f j)=false
theorem Lg {f:List Un} {k:Nat} (hk:k<f.length):((!uvB (uat f k))||((decide (0<(k:Int)))&&(decide ((uat f k).1≤(f.getD ((k:Int)-1).toNat (0,0,0,[],0,0)).1))))=true↔¬Je f k:=by
 have e:((k:Int)-1).toNat=k-1:=by omega
 rw[e,show f.getD (k-1) (0,0,0,[],0,0)=uat f (k-1) from rfl]
 unfold Je
 simp only[Bool.or_eq_true,Bool.and_eq_true,decide_eq_true_eq,Bool.not_eq_true']
 cases uvB (uat f k)<;>simp<;>omega
section
variable {N:Nat} (hN:1001≤N)
include hN
theorem UY (u:Un):BA N u.1 u.2.1 u.2.2.1 u.2.2.2.1 u.2.2.2.2.1 u.2.2.2.2.2=some (uvB u):=Gn (by omega) _ _ _ _ _ _
theorem jB (u:Un):Bs N u.1 u.2.1 u.2.2.1 u.2.2.2.1 u.2.2.2.2.1 u.2.2.2.2.2=some (uvB u):=Hl hN _ _ _ _ _ _
open Classical in
theorem uov (u v:Un):Cz N u.1 u.2.1 u.2.2.1 u.2.2.2.1 u.2.2.2.2.1 u.2.2.2.2.2 v.1 v.2.1 v.2.2.1 v.2.2.2.1 v.2.2.2.2.1 v.2.2.2.2.2=some (ovB u v):=by
 obtain⟨h1,h2⟩:=P0 hN u.1 u.2.1 u.2.2.1 u.2.2.2.1 u.2.2.2.2.1 u.2.2.2.2.2 v.1 v.2.1 v.2.2.1 v.2.2.2.1 v.2.2.2.2.1 v.2.2.2.2.2
 obtain⟨r,g1,g2⟩:=Qp hN u.2.2.2.1 v.2.2.2.1
 unfold Cz
 rw[h1,g1,bS]
 simp only
 rw[EO (fun _=>Option.isSome_some),Option.getD_some]
 unfold ovB
 rw[show N8 u.1 u.2.1 u.2.2.1 u.2.2.2.1 u.2.2.2.2.1 u.2.2.2.2.2 v.1 v.2.1 v.2.2.1 v.2.2.2.1 v.2.2.2.2.1 v.2.2.2.2.2=dpB u v from rfl]
 cases hd:dpB u v with
 |false=>rfl
 |true=>
  have hv:=QZ.1 hd
  have e:=JU hN hv.2.1.l hv.2.2.l
  rw[g1] at e
  rw[yJ e]
  congr 2
  rw[Bool.eq_iff_iff,Bool.not_eq_true',decide_eq_true_eq,←J2 (a:=u.2.2.2.1),Bool.not_eq_true]
theorem rov (u v:Un):DF N u.1 u.2.1 u.2.2.1 u.2.2.2.1 u.2.2.2.2.1 u.2.2.2.2.2 v.1 v.2.1 v.2.2.1 v.2.2.2.1 v.2.2.2.2.1 v.2.2.2.2.2=some (ovB u v):=by
 obtain⟨r,h1,h2⟩:=nK hN u.1 u.2.1 u.2.2.1 u.2.2.2.1 u.2.2.2.2.1 u.2.2.2.2.2 v.1 v.2.1 v.2.2.1 v.2.2.2.1 v.2.2.2.2.1 v.2.2.2.2.2
 rw[h2,←h1,uov hN]
theorem bQ {f:List Un} (hf:f.length≤12):(CG N f N 0=some (.inl ())∧∀k,k<f.length→Je f k)∨(CG N f N 0=some (.inr false)∧∃k,k<f.length∧¬Je f k):=by
 classical
 have F:=GB (L:=CG N f) (len:=f.length) (fun k=>if Je f k then none else some false) (fun n k hk e=> ?_) (fun n k r hk e=> ?_) (fun n=> ?_) N (by omega)
 ·rcases F with⟨e,h⟩|⟨j,r,hj,h,_,e⟩
  ·refine .inl ⟨e,fun k hk=> ?_⟩
   have:=h k hk
   by_cases c:Je f k
   ·exact c
   ·rw[if_neg c] at this;cases this
  ·by_cases c:Je f j
   ·rw[if_pos c] at h;cases h
   ·rw[if_neg c] at h;cases h
    exact .inr ⟨e,j,hj,c⟩
 ·by_cases c:Je f k
  ·rw[CG,dlt hk,cT,GC hk,bS]
   simp only
   rw[UY hN,bS,EO (fun h=>by simp only[decide_eq_true_eq] at h;unfold I64;omega),EO (fun h=>by simp only[decide_eq_true_eq] at h;omega),cF' _ (by rw[Bool.eq_false_iff];exact fun h=>(Lg hk).1 h c),Ab (by unfold I64;omega),ns]
  ·rw[if_neg c] at e;cases e
 ·by_cases c:Je f k
  ·rw[if_pos c] at e;cases e
  ·rw[if_neg c] at e;cases e
   rw[CG,dlt hk,cT,GC hk,bS]
   simp only
   rw[UY hN,bS,EO (fun h=>by simp only[decide_eq_true_eq] at h;unfold I64;omega),EO (fun h=>by simp only[decide_eq_true_eq] at h;omega),cT' _ ((Lg hk).2 c)]
 ·rw[CG,dge,cF]
open Classical in
theorem TD:∀ps:List (Un×Un),Dp N ps=some (if∀e∈ps,ovB e.1 e.2=false then .inl () else .inr false)
 |[]=>by rw[Dp,if_pos (by simp)]
 |((y29,y30,y31,y32,y33,y34),(y35,y36,y37,y38,y39,y40))::ys=>by
  have e:=uov hN (y29,y30,y31,y32,y33,y34) (y35,y36,y37,y38,y39,y40)
  simp only at e
  rw[Dp,e,bS,TD ys]
  cases h:ovB (y29,y30,y31,y32,y33,y34) (y35,y36,y37,y38,y39,y40) with
  |true=>rw[cT,if_neg fun h2=>by have:=h2 _ List.mem_cons_self;rw[h] at this;cases this]
  |false=>
   rw[cF]
   congr 1
   by_cases c:∀e∈ys,ovB e.1 e.2=false
   ·rw[if_pos c,if_pos]
    intro e he
    rcases List.mem_cons.1 he with rfl|he
    ·exact h
    ·exact c e he
   ·rw[if_neg c,if_neg fun h2=>c fun e he=>h2 e (List.mem_cons_of_mem _ he)]
omit hN in
theorem Zo {f:List Un} (h1:f.length≤12) (h2:∀k,k<f.length→Je f k) (h3:f.Pairwise fun u v=>ovB u v=false):FV f:=
 ⟨h1,fun u hu=>by obtain⟨k,hk,rfl⟩:=MI hu;exact Pa.1 (h2 k hk).1,bP fun k h0 hk=>(h2 k hk).2 h0,h3⟩
omit hN in
theorem FV.at {f:List Un} (h:FV f) {k:Nat} (hk:k<f.length):Je f k:=
 ⟨Pa.2 (h.val _ (FO hk)),fun h0=>H9.1 h.srt (k-1) k (by omega) hk⟩
open Classical in
theorem UZ (f:List Un):AT N f=some (decide (FV f)):=by
 unfold AT
 by_cases hl:f.length≤12
 ·rw[cF' _ (by rw[decide_eq_false_iff_not];omega)]
  rcases bQ hN hl with⟨e,h⟩|⟨e,k,hk,h⟩
  ·rw[e,bS]
   simp only
   rw[Ab (by omega),TD hN,bS]
   by_cases c:∀e∈DC f,ovB e.1 e.2=false
   ·rw[if_pos c]
    simp only
    rw[decide_eq_true (Zo hl h (MJ.1 c))]
   ·rw[if_neg c]
    simp only
    rw[decide_eq_false fun v=>c (MJ.2 v.dis)]
  ·rw[e,bS]
   simp only
   rw[decide_eq_false fun v=>h (v.at hk)]
 ·rw[cT' _ (by rw[decide_eq_true_eq];omega),decide_eq_false fun v=>hl v.len]
theorem TE {f:List Un} {i:Nat} (hi:i<f.length) (hf:f.length≤12):(BZ N i f (uat f i).1 (uat f i).2.1 (uat f i).2.2.1 (uat f i).2.2.2.1 (uat f i).2.2.2.2.1 (uat f i).2.2.2.2.2 N 0=some (.inl ())∧∀k,k<i→ovB (uat f i) (uat f k)=false)∨
  (BZ N i f (uat f i).1 (uat f i).2.1 (uat f i).2.2.1 (uat f i).2.2.2.1 (uat f i).2.2.2.2.1 (uat f i).2.2.2.2.2 N 0=some (.inr false)∧∃k,k<i∧ovB (uat f i) (uat f k)=true):=by
 have F:=GB (L:=BZ N i f (uat f i).1 (uat f i).2.1 (uat f i).2.2.1 (uat f i).2.2.2.1 (uat f i).2.2.2.2.1 (uat f i).2.2.2.2.2) (len:=i) (fun k=>bif ovB (uat f i) (uat f k) then some false else none) (fun n k hk e=> ?_) (fun n k r hk e=> ?_) (fun n=> ?_) N (by omega)
 ·rcases F with⟨e,h⟩|⟨j,r,hj,h,_,e⟩
  ·refine .inl ⟨e,fun k hk=> ?_⟩
   have:=h k hk
   cases c:ovB (uat f i) (uat f k) with
   |false=>rfl
   |true=>rw[c,cT] at this;cases this
  ·cases c:ovB (uat f i) (uat f j) with
   |false=>rw[c,cF] at h;cases h
   |true=>rw[c,cT] at h;cases h;exact .inr ⟨e,j,hj,c⟩
 ·cases c:ovB (uat f i) (uat f k) with
  |true=>rw[c,cT] at e;cases e
  |false=>
   rw[BZ,dlt hk,cT,GC (by omega),bS]
   simp only
   rw[rov hN,bS,c,cF,Ab (by unfold I64;omega),ns]
 ·cases c:ovB (uat f i) (uat f k) with
  |false=>rw[c,cF] at e;cases e
  |true=>
   rw[c,cT] at e;cases e
   rw[BZ,dlt hk,cT,GC (by omega),bS]
   simp only
   rw[rov hN,bS,c,cT]
 ·rw[BZ,dge,cF]
theorem YB {f:List Un} (hf:f.length≤12):(B0 N f N 0=some (.inl ())∧∀k,k<f.length→okR f k)∨(B0 N f N 0=some (.inr false)∧∃k,k<f.length∧¬okR f k):=by
 classical
 have F:=GB (L:=B0 N f) (len:=f.length) (fun k=>if okR f k then none else some false) (fun n k hk e=> ?_) (fun n k r hk e=> ?_) (fun n=> ?_) N (by omega)
 ·rcases F with⟨e,h⟩|⟨j,r,hj,h,_,e⟩
  ·refine .inl ⟨e,fun k hk=> ?_⟩
   have:=h k hk
   by_cases c:okR f k
   ·exact c
   ·rw[if_neg c] at this;cases this
  ·by_cases c:okR f j
   ·rw[if_pos c] at h;cases h
   ·rw[if_neg c] at h;cases h
    exact .inr ⟨e,j,hj,c⟩
 ·by_cases c:okR f k
  ·rw[B0,dlt hk,cT,GC hk,bS]
   simp only
   rw[jB hN,bS,EO (fun h=>by simp only[decide_eq_true_eq] at h;unfold I64;omega),EO (fun h=>by simp only[decide_eq_true_eq] at h;omega),cF' _ (by rw[Bool.eq_false_iff];exact fun h=>(Lg hk).1 h c.1)]
   rcases TE hN hk hf with⟨e,h⟩|⟨e,j,hj,h⟩
   ·rw[e,bS]
    simp only
    rw[Ab (by unfold I64;omega),ns]
   ·have:=c.2 j hj;rw[h] at this;cases this
  ·rw[if_neg c] at e;cases e
 ·by_cases c:okR f k
  ·rw[if_pos c] at e;cases e
  ·rw[if_neg c] at e;cases e
   rw[B0,dlt hk,cT,GC hk,bS]
   simp only
   rw[jB hN,bS,EO (fun h=>by simp only[decide_eq_true_eq] at h;unfold I64;omega),EO (fun h=>by simp only[decide_eq_true_eq] at h;omega)]
   by_cases c1:Je f k
   ·rw[cF' _ (by rw[Bool.eq_false_iff];exact fun h=>(Lg hk).1 h c1)]
    rcases TE hN hk hf with⟨e,h⟩|⟨e,j,hj,h⟩
    ·exact absurd ⟨c1,h⟩ c
    ·rw[e,bS]
   ·rw[cT' _ ((Lg hk).2 c1)]
 ·rw[B0,dge,cF]
open Classical in
theorem Q0 (f:List Un):Bp N f=some (decide (FV f)):=by
 unfold Bp
 by_cases hl:f.length≤12
 ·rw[cF' _ (by rw[decide_eq_false_iff_not];omega)]
  rcases YB hN hl with⟨e,h⟩|⟨e,k,hk,h⟩
  ·rw[e,bS]
   simp only
   rw[decide_eq_true (Zo hl (fun k hk=>(h k hk).1) (H9.2 fun i k hik hk=>by rw[LY];exact(h k hk).2 i hik))]
  ·rw[e,bS]
   simp only
   rw[decide_eq_false fun v=>h ⟨v.at hk,fun j hj=>by rw[LY];exact H9.1 v.dis j k hj hk⟩]
 ·rw[cT' _ (by rw[decide_eq_true_eq];omega),decide_eq_false fun v=>hl v.len]
end
structure Pos (f:List Un) (t:Int) (i:Nat):Prop where
 le:i≤f.length
 lo:∀k,k<i→(uat f k).1<t
 hi:∀k,i≤k→k<f.length→t≤(uat f k).1
theorem bR:∀s,s<60→IntKind.wrap .i64 (Cp .shr .u64 (IntKind.wrap .u64 ((s:Nat):Int)) 1)=((s/2:Nat):Int):=by decide+kernel
theorem Sj {f:List Un} (h:FV f) {i k:Nat} (hik:i≤k) (hk:k<f.length):(uat f i).1≤(uat f k).1:=by
 by_cases e:i=k
 ·rw[e];omega
 ·have:=H9.1 h.srt i k (by omega) hk
  omega
theorem U0 (N:Nat) (u:Un) (t:Int):Fy N u.1 u.2.1 u.2.2.1 u.2.2.2.1 u.2.2.2.2.1 u.2.2.2.2.2 t=some (if u.1<t then-1 else if t<u.1 then 1 else 0):=by
 unfold Fy;rw[JT,bS]
theorem PR (N:Nat) {f:List Un} (h:FV f) (t:Int):∀(n i j:Nat),i≤j→j≤f.length→j<n+i→(∀k,k<i→(uat f k).1<t)→(∀k,j≤k→k<f.length→t≤(uat f k).1)→
  ∃r:Nat,Az N f t n i j=some (r:Int)∧Pos f t r
 |0,i,j,h1,_,h3,_,_=>by omega
 |n+1,i,j,h1,h2,h3,h4,h5=>by
  have hl:=h.len
  rw[Az]
  by_cases e:i=j
  ·subst e
   rw[dge,cF]
   exact⟨i,rfl,h2,h4,h5⟩
  ·have hm:(i+j)/2<f.length:=by omega
   rw[dlt (by omega),cT,Ab (by unfold I64;omega),←Int.natCast_add,bR _ (by omega),GC hm,bS]
   simp only
   rw[U0,bS]
   by_cases c:(uat f ((i+j)/2)).1<t
   ·rw[if_pos c,cT' _ (by rfl),Ab (by unfold I64;omega),←ns]
    exact PR N h t n _ j (by omega) h2 (by omega) (fun k hk=>by have:=Sj h (i:=k) (k:=(i+j)/2) (by omega) hm;omega) h5
   ·rw[if_neg c,cF' _ (by split<;>rfl)]
    exact PR N h t n i _ (by omega) (by omega) (by omega) h4 (fun k h6 h7=>by have:=Sj h h6 h7;omega)
theorem Pos.found {f:List Un} (h:FV f) {t:Int} {i:Nat} (p:Pos f t i):(i<f.length∧(uat f i).1=t)↔∃u∈f,u.1=t:=by
 constructor
 ·rintro⟨h1,h2⟩;exact⟨_,FO h1,h2⟩
 ·rintro⟨u,hu,e⟩
  obtain⟨k,hk,rfl⟩:=MI hu
  have h1:i≤k:=by
   by_cases c:i≤k
   ·exact c
   ·have:=p.lo k (by omega);omega
  have h2:=p.hi i (Nat.le_refl _) (by omega)
  have h3:=Sj h h1 hk
  exact⟨by omega,by omega⟩
open Classical in
theorem Q1 {N:Nat} (hN:1001≤N) {f:List Un} (h:FV f) (t:Int):∃r:Nat,Pos f t r∧AG N f t=some ((r:Int),decide (∃u∈f,u.1=t)):=by
 have hl:=h.len
 obtain⟨r,e,p⟩:=PR N h t N 0 f.length (by omega) (by omega) (by omega) (fun k hk=>by omega) (fun k h1 h2=>by omega)
 rw[Int.natCast_zero] at e
 refine⟨r,p, ?_⟩
 unfold AG
 rw[e,bS,EO (fun h=>by simp only[decide_eq_true_eq] at h;omega),EO (fun _=> ?_)]
 ·congr 2
  rw[Bool.eq_iff_iff,decide_eq_true_eq,←p.found h,Bool.and_eq_true,decide_eq_true_eq,decide_eq_true_eq,Int.toNat_natCast]
  have:=U0 N (uat f r) t
  unfold uat at this
  rw[this,Option.getD_some]
  constructor
  ·rintro⟨h1,h2⟩
   refine⟨by omega, ?_⟩
   show(f.getD r _).1=t
   split at h2
   ·omega
   ·split at h2<;>omega
  ·rintro⟨h1,h2⟩
   have h2:(f.getD r (0,0,0,[],0,0)).1=t:=h2
   exact⟨by omega,by rw[if_neg (by omega),if_neg (by omega)]⟩
 ·have:=U0 N (uat f r) t
  unfold uat at this
  rw[Int.toNat_natCast,this,Option.isSome_some]
theorem FV.uniq {f:List Un} (h:FV f) {i k:Nat} (hi:i<f.length) (hk:k<f.length) (e:(uat f i).1=(uat f k).1):i=k:=by
 by_cases c:i=k
 ·exact c
 by_cases l:i<k
 ·have:=H9.1 h.srt i k l hk;omega
 ·have:=H9.1 h.srt k i (by omega) hi;omega
theorem Sk {u:Un} (h:UV u):u.2.2.2.1≠[]:=fun e=>by have:=h.l.l3;rw[e] at this;simp at this
theorem KJ (N:Nat) {u:Un} (h:u.2.2.2.1.length≤1000):BM N u.1 u.2.1 u.2.2.1 u.2.2.2.1 u.2.2.2.2.1 u.2.2.2.2.2=some u:=by
 unfold BM;rw[Ab (by omega)]
structure Fit (f:List Un) (u:Un):Prop where
 hf:FV f
 hu:UV u
 hl:f.length<12
 hi:∀v∈f,v.1≠u.1
 ho:∀v∈f,ovB u v=false
noncomputable instance (f:List Un) (u:Un):Decidable (Fit f u):=Classical.propDecidable _
def MK (f:List Un) (t:Int):List Un:=f.filter fun v=>decide (v.1<t)
def geU (f:List Un) (t:Int):List Un:=f.filter fun v=>decide (t≤v.1)
def ML (f:List Un) (u:Un):List Un:=MK f u.1++u::geU f u.1
def jC (f:List Un) (t:Int):List Un:=f.filter fun v=>decide (v.1≠t)
theorem Pos.split {f:List Un} {t:Int} {r:Nat} (p:Pos f t r):f.take r=MK f t∧f.drop r=geU f t:=by
 have h1:∀u∈f.take r,u.1<t:=fun u hu=>by
  obtain⟨k,hk,rfl⟩:=List.mem_take_iff_getElem.1 hu
  rw[←Fr (by omega)]
  exact p.lo k (by omega)
 have h2:∀u∈f.drop r,t≤u.1:=fun u hu=>by
  obtain⟨k,hk,rfl⟩:=List.mem_drop_iff_getElem.1 hu
  rw[←Fr (by omega)]
  exact p.hi _ (by omega) (by omega)
 have e:f=f.take r++f.drop r:=(List.take_append_drop r f).symm
 constructor
 ·unfold MK
  conv=>rhs;rw[e,List.filter_append]
  rw[List.filter_eq_self.2 fun u hu=>decide_eq_true (h1 u hu),List.filter_eq_nil_iff.2 fun u hu=>by have:=h2 u hu;rw[decide_eq_true_eq];omega,List.append_nil]
 ·unfold geU
  conv=>rhs;rw[e,List.filter_append]
  rw[List.filter_eq_self.2 fun u hu=>decide_eq_true (h2 u hu),List.filter_eq_nil_iff.2 fun u hu=>by have:=h1 u hu;rw[decide_eq_true_eq];omega,List.nil_append]
theorem FV.pos {f:List Un} (h:FV f) (t:Int):∃r,Pos f t r:=by
 obtain⟨r,p,_⟩:=Q1 (N:=1001) (Nat.le_refl _) h t
 exact⟨r,p⟩
theorem FV.cut {f:List Un} (h:FV f) (t:Int):MK f t++geU f t=f:=by
 obtain⟨r,p⟩:=h.pos t
 rw[←p.split.1,←p.split.2,List.take_append_drop]
theorem FV.sub {f g:List Un} (h:FV f) (s:g.Sublist f):FV g:=
 ⟨Nat.le_trans s.length_le h.len,fun u hu=>h.val u (s.subset hu),h.srt.sublist s,h.dis.sublist s⟩
theorem Fit.fv {f:List Un} {u:Un} (h:Fit f u):FV (ML f u):=by
 have e:=h.hf.cut u.1
 have hm:∀v,v∈MK f u.1→v∈f∧v.1<u.1:=fun v hv=>by have:=List.mem_filter.1 hv;rwa [decide_eq_true_eq] at this
 have hg:∀v,v∈geU f u.1→v∈f∧u.1≤v.1:=fun v hv=>by have:=List.mem_filter.1 hv;rwa [decide_eq_true_eq] at this
 have hd:=h.hf.dis
 rw[←e,List.pairwise_append] at hd
 have hs:=h.hf.srt
 rw[←e,List.pairwise_append] at hs
 unfold ML
 refine⟨?_,fun v hv=> ?_, ?_, ?_⟩
 ·have:=h.hl
  have e2:(MK f u.1++geU f u.1).length=f.length:=by rw[e]
  rw[List.length_append] at e2
  rw[List.length_append,List.length_cons];omega
 ·rcases List.mem_append.1 hv with h1|h1
  ·exact h.hf.val v (hm v h1).1
  ·rcases List.mem_cons.1 h1 with rfl|h1
   ·exact h.hu
   ·exact h.hf.val v (hg v h1).1
 ·rw[List.pairwise_append,List.pairwise_cons]
  refine⟨hs.1,⟨fun v hv=> ?_,hs.2.1⟩,fun a ha b hb=> ?_⟩
  ·have:=hg v hv;have:=h.hi v this.1;omega
  ·rcases List.mem_cons.1 hb with rfl|hb
   ·exact(hm a ha).2
   ·exact hs.2.2 a ha b hb
 ·rw[List.pairwise_append,List.pairwise_cons]
  refine⟨hd.1,⟨fun v hv=>h.ho v (hg v hv).1,hd.2.1⟩,fun a ha b hb=> ?_⟩
  rcases List.mem_cons.1 hb with rfl|hb
  ·rw[LY];exact h.ho a (hm a ha).1
  ·exact hd.2.2 a ha b hb
def KK (f:List Un) (u:Un):List Un:=(f.filter fun v=>decide (v.1≤u.1))++u::f.filter fun v=>decide (u.1<v.1)
theorem PS {f:List Un} {u:Un} (h:∀v∈f,v.1≠u.1):KK f u=ML f u:=by
 have e1:(f.filter fun v=>decide (v.1≤u.1))=MK f u.1:=List.filter_congr fun v hv=>by have:=h v hv;rw[decide_eq_decide];omega
 have e2:(f.filter fun v=>decide (u.1<v.1))=geU f u.1:=List.filter_congr fun v hv=>by have:=h v hv;rw[decide_eq_decide];omega
 unfold KK ML
 rw[e1,e2]
theorem TH {f:List Un} {u:Un} (hf:FV f):FV (KK f u)↔Fit f u:=by
 constructor
 ·intro h
  have hs:=h.srt
  have hd:=h.dis
  have hl:=h.len
  have hid:∀v∈f,v.1≠u.1:=fun v hv e=>by
   unfold KK at hs
   rw[List.pairwise_append] at hs
   have:=hs.2.2 v (List.mem_filter.2 ⟨hv,decide_eq_true (by omega)⟩) u List.mem_cons_self
   omega
  rw[PS hid] at hd hl
  refine⟨hf,h.val u (by unfold KK;simp), ?_,hid,fun v hv=> ?_⟩
  ·have e2:(MK f u.1++geU f u.1).length=f.length:=by rw[hf.cut]
   unfold ML at hl
   rw[List.length_append] at e2 hl
   rw[List.length_cons] at hl
   omega
  ·unfold ML at hd
   rw[List.pairwise_append,List.pairwise_cons] at hd
   by_cases c:v.1<u.1
   ·rw[LY];exact hd.2.2 v (List.mem_filter.2 ⟨hv,decide_eq_true c⟩) u List.mem_cons_self
   ·exact hd.2.1.1 v (List.mem_filter.2 ⟨hv,decide_eq_true (by omega)⟩)
 ·intro h
  rw[PS h.hi]
  exact h.fv
section
variable {N:Nat} (hN:1001≤N)
include hN
open Classical in
theorem YC (f:List Un) (hl:f.length≤1000) (u:Un):Bt N f u.1 u.2.1 u.2.2.1 u.2.2.2.1 u.2.2.2.2.1 u.2.2.2.2.2=some (decide (∃v∈f,ovB u v=true)):=by
 have st:∀v:Un,GN N v.1 v.2.1 v.2.2.1 v.2.2.2.1 v.2.2.2.2.1 v.2.2.2.2.2 u.1 u.2.1 u.2.2.1 u.2.2.2.1 u.2.2.2.2.1 u.2.2.2.2.2=some (ovB u v):=fun v=>by
  unfold GN;rw[uov hN,bS]
 have F:=GB (L:=AU N f u.1 u.2.1 u.2.2.1 u.2.2.2.1 u.2.2.2.2.1 u.2.2.2.2.2) (len:=f.length) (fun k=>bif ovB u (uat f k) then some (k:Int) else none) (fun n k hk e=> ?_) (fun n k r hk e=> ?_) (fun n=> ?_) N (by omega)
 ·unfold Bt Cv
  rcases F with⟨e,h⟩|⟨j,r,hj,h,_,e⟩
  ·rw[e,bS]
   simp only
   rw[bS,decide_eq_false (p:=(0:Int)≤-1) (by omega),decide_eq_false]
   rintro⟨v,hv,c⟩
   obtain⟨k,hk,rfl⟩:=MI hv
   have:=h k hk
   rw[c,cT] at this
   cases this
  ·rw[e,bS]
   simp only
   cases c:ovB u (uat f j) with
   |false=>rw[c,cF] at h;cases h
   |true=>
    rw[c,cT] at h;cases h
    rw[bS,decide_eq_true (p:=(0:Int)≤(j:Int)) (by omega),decide_eq_true ⟨_,FO hj,c⟩]
 ·cases c:ovB u (uat f k) with
  |true=>rw[c,cT] at e;cases e
  |false=>
   rw[AU,dlt hk,cT,GC hk,bS]
   simp only
   rw[st,bS,c,cF,Ab (by unfold I64;omega),ns]
 ·cases c:ovB u (uat f k) with
  |false=>rw[c,cF] at e;cases e
  |true=>
   rw[c,cT] at e;cases e
   rw[AU,dlt hk,cT,GC hk,bS]
   simp only
   rw[st,bS,c,cT]
 ·rw[AU,dge,cF]
omit hN in
theorem Sl {f:List Un} {k:Nat} (hk:k<f.length):f.set k ((uat f k).1,(uat f k).2.1,(uat f k).2.2.1,(uat f k).2.2.2.1,(uat f k).2.2.2.2.1,(uat f k).2.2.2.2.2)=f:=by
 show f.set k (uat f k)=f
 rw[Fr hk,List.set_getElem_self]
omit hN in
theorem NT {u:Un} (h:UV u):BF N u.2.2.2.1=some u.2.2.2.1:=by
 have l8:=h.l.l8
 unfold BF
 rw[Ab (Sk h),Ab (by omega)]
omit hN in
theorem WB {f:List Un} (h:FV f):∀n k,k≤f.length→f.length<n+k→Fo N f n k f=some f
 |0,k,h1,h2=>by omega
 |n+1,k,h1,h2=>by
  have hl:=h.len
  rw[Fo]
  by_cases e:k=f.length
  ·subst e;rw[dge,cF]
  ·have hk:k<f.length:=by omega
   rw[dlt hk,cT,GC hk,bS]
   simp only
   rw[NT (h.val _ (FO hk)),bS,Ab (by unfold I64;omega),Int.toNat_natCast,Sl hk,←ns]
   exact WB h n _ (by omega) (by omega)
omit hN in
theorem WC {f:List Un} (h:FV f):∀n k,k≤f.length→f.length<n+k→Es N f n k f=some f
 |0,k,h1,h2=>by omega
 |n+1,k,h1,h2=>by
  have hl:=h.len
  rw[Es]
  by_cases e:k=f.length
  ·subst e;rw[dge,cF]
  ·have hk:k<f.length:=by omega
   rw[dlt hk,cT,GC hk,bS]
   simp only
   rw[NT (h.val _ (FO hk)),bS,Ab (by unfold I64;omega),Int.toNat_natCast,Sl hk,←ns]
   exact WC h n _ (by omega) (by omega)
open Classical in
theorem tJ (f:List Un) (u:Un):EM N f u.1 u.2.1 u.2.2.1 u.2.2.2.1 u.2.2.2.2.1 u.2.2.2.2.2=some (if Fit f u then(ML f u,0) else([],120)):=by
 unfold EM
 rw[UZ hN,bS,UY hN,EO (fun _=>Option.isSome_some),Option.getD_some]
 by_cases c1:FV f∧UV u∧f.length≠12
 ·obtain⟨h1,h2,h3⟩:=c1
  have hl:=h1.len
  obtain⟨r,p,e⟩:=Q1 hN h1 u.1
  rw[decide_eq_true h1,Pa.2 h2,cF' _ (by rw[decide_eq_false (by omega)];rfl),e,bS]
  simp only
  rw[YC hN f (by omega) u,EO (fun _=>Option.isSome_some),Option.getD_some]
  by_cases c2:(∃v∈f,v.1=u.1)∨∃v∈f,ovB u v=true
  ·rw[cT' _ (by rw[Bool.or_eq_true,decide_eq_true_eq,decide_eq_true_eq];exact c2),if_neg fun h=> ?_]
   rcases c2 with⟨v,hv,e⟩|⟨v,hv,e⟩
   ·exact h.hi v hv e
   ·have:=h.ho v hv;rw[e] at this;cases this
  ·have hid:∀v∈f,v.1≠u.1:=fun v hv e=>c2 (.inl ⟨v,hv,e⟩)
   have hov:∀v∈f,ovB u v=false:=fun v hv=>by
    cases c:ovB u v with
    |false=>rfl
    |true=>exact absurd (.inr ⟨v,hv,c⟩) c2
   have pl:=p.le
   rw[cF' _ (by rw[Bool.eq_false_iff,Ne,Bool.or_eq_true,decide_eq_true_eq,decide_eq_true_eq];exact c2),Ab (by omega),←Int.natCast_zero,WB h1 N 0 (by omega) (by omega),bS,NT h2,bS,Ab (by omega),Ab (by omega),if_pos ⟨h1,h2,by omega,hid,hov⟩,Int.toNat_natCast,p.split.1,p.split.2,List.append_assoc]
   rfl
 ·rw[if_neg fun h=>c1 ⟨h.hf,h.hu,by have:=h.hl;omega⟩,cT']
  by_cases h1:FV f
  ·by_cases h2:UV u
   ·have h3:f.length=12:=by
     by_cases h3:f.length=12
     ·exact h3
     ·exact absurd ⟨h1,h2,h3⟩ c1
    rw[decide_eq_true (p:=(f.length:Int)=12) (by omega),Bool.or_true]
   ·rw[show uvB u=false by rw[Bool.eq_false_iff];exact fun h=>h2 (Pa.1 h),Bool.not_false,Bool.or_true,Bool.true_or]
  ·rw[decide_eq_false h1];rfl
open Classical in
theorem tT (f:List Un) (t:Int):Cn N f t=some (if FV f∧∃u∈f,u.1=t then(jC f t,0) else([],120)):=by
 unfold Cn
 rw[UZ hN,bS]
 by_cases h1:FV f
 ·have hl:=h1.len
  obtain⟨r,p,e⟩:=Q1 hN h1 t
  rw[decide_eq_true h1,cF' _ (by rfl),e,bS]
  simp only
  by_cases c:∃u∈f,u.1=t
  ·obtain⟨g1,g2⟩:=(p.found h1).2 c
   have hne:f≠[]:=fun e=>by rw[e] at g1;exact absurd g1 (Nat.not_lt_zero _)
   rw[decide_eq_true c,cF' _ (by rfl),if_pos ⟨h1,c⟩,Ab hne,Ab (by omega),←Int.natCast_zero,WC h1 N 0 (by omega) (by omega),bS,Ab (by unfold I64;omega),Ab (by omega),Ab (by omega),Int.toNat_natCast]
   congr 2
   have hlo:∀v∈f.take r,v.1≠t:=fun v hv=>by
    obtain⟨k,hk,rfl⟩:=List.mem_take_iff_getElem.1 hv
    have:=p.lo k (by omega)
    rw[Fr (by omega)] at this
    omega
   have hhi:∀v∈f.drop (r+1),v.1≠t:=fun v hv=>by
    obtain⟨k,hk,rfl⟩:=List.mem_drop_iff_getElem.1 hv
    have:=H9.1 h1.srt r (k+(r+1)) (by omega) (by omega)
    rw[Fr (show k+(r+1)<f.length by omega)] at this
    simp only[Nat.add_comm (r+1) k] at*
    omega
   have e:f=f.take r++f[r]::f.drop (r+1):=by rw[←List.drop_eq_getElem_cons g1,List.take_append_drop]
   unfold jC
   conv=>rhs;rw[e,List.filter_append,List.filter_cons]
   rw[List.filter_eq_self.2 fun v hv=>by simpa using hlo v hv,List.filter_eq_self.2 fun v hv=>by simpa using hhi v hv,if_neg (by rw[←Fr g1];simpa using g2)]
  ·rw[decide_eq_false c,cT' _ (by rfl),if_neg fun h=>c h.2]
 ·rw[decide_eq_false h1,cT' _ (by rfl),if_neg fun h=>h1 h.1]
end
def gtB (p:List Un) (t:Int):Bool:=p.any fun v=>decide (t<v.1)
def goS (p:List Un) (u:Un):List Un:=(p.filter fun v=>decide (v.1≤u.1))++((bif gtB p u.1 then[u] else[])++p.filter fun v=>decide (u.1<v.1))
theorem U1 {p:List Un} {t:Int} (h:gtB p t=false):(p.filter fun v=>decide (t<v.1))=[]:=by
 rw[List.filter_eq_nil_iff]
 intro v hv c
 unfold gtB at h
 rw[List.any_eq_false] at h
 exact h v hv c
theorem TI {p:List Un} {u:Un}:(goS p u).length≤2*p.length+1:=by
 have h1:=List.length_filter_le (fun v:Un=>decide (v.1≤u.1)) p
 have h2:=List.length_filter_le (fun v:Un=>decide (u.1<v.1)) p
 unfold goS
 cases gtB p u.1<;>simp<;>omega
theorem bT {f:List Un} (h:FV f) {i:Nat} (hi:i<f.length):∀v∈f.take i,v.1<(uat f i).1:=fun v hv=>by
 obtain⟨k,hk,rfl⟩:=List.mem_take_iff_getElem.1 hv
 rw[←Fr (by omega)]
 exact H9.1 h.srt k i (by omega) hi
theorem KL {f:List Un} {i:Nat} (hi:i<f.length):f.take (i+1)=f.take i++[uat f i]:=by
 rw[List.take_succ_eq_append_getElem hi,Fr hi]
section
variable {N:Nat} (hN:1001≤N)
include hN
omit hN in
theorem Qq {f:List Un} (hf:FV f) {u:Un} (hu:u.2.2.2.1.length≤1000):∀n i,i≤f.length→f.length<n+i→
  DX N f u.1 u.2.1 u.2.2.1 u.2.2.2.1 u.2.2.2.2.1 u.2.2.2.2.2 n (gtB (f.take i) u.1) i (goS (f.take i) u)=some (gtB f u.1,goS f u)
 |0,i,h1,h2=>by omega
 |n+1,i,h1,h2=>by
  have hl:=hf.len
  rw[DX]
  by_cases e:i=f.length
  ·subst e;rw[dge,cF,List.take_length]
  ·have hi:i<f.length:=by omega
   have v8:=(hf.val _ (FO hi)).l.l8
   have hlen:=TI (p:=f.take i) (u:=u)
   have ht:(f.take i).length=i:=by rw[List.length_take];omega
   have tl:=bT hf hi
   rw[dlt hi,cT,EO (fun _=>by omega),Int.toNat_natCast,show f.getD i (0,0,0,[],0,0)=uat f i from rfl]
   have key:(bif (!gtB (f.take i) u.1)&&decide (u.1<(uat f i).1) then
     (BM N u.1 u.2.1 u.2.2.1 u.2.2.2.1 u.2.2.2.2.1 u.2.2.2.2.2).bind fun(r106,r107,r108,r109,r110,r111)=>gd (((goS (f.take i) u).length+1)*64≤140737488355328)<|some (true,goS (f.take i) u++[(r106,r107,r108,r109,r110,r111)])
    else some (gtB (f.take i) u.1,goS (f.take i) u))=some (gtB (f.take (i+1)) u.1,bif (!gtB (f.take i) u.1)&&decide (u.1<(uat f i).1) then goS (f.take i) u++[u] else goS (f.take i) u):=by
    have g:gtB (f.take (i+1)) u.1=(gtB (f.take i) u.1||decide (u.1<(uat f i).1)):=by
     rw[KL hi];unfold gtB;rw[List.any_append,List.any_cons,List.any_nil,Bool.or_false]
    rw[g]
    cases h3:gtB (f.take i) u.1<;>cases h4:decide (u.1<(uat f i).1)
    ·rfl
    ·rw[Bool.not_false,Bool.and_true,cT,cT,KJ N hu,bS]
     simp only
     rw[Ab (by omega)]
     rfl
    ·rfl
    ·rfl
   rw[key,bS]
   simp only
   rw[GC hi,bS]
   simp only
   rw[KJ N (by omega),bS]
   have e2:(bif (!gtB (f.take i) u.1)&&decide (u.1<(uat f i).1) then goS (f.take i) u++[u] else goS (f.take i) u)++[uat f i]=goS (f.take (i+1)) u:=by
    have g:gtB (f.take (i+1)) u.1=(gtB (f.take i) u.1||decide (u.1<(uat f i).1)):=by
     rw[KL hi];unfold gtB;rw[List.any_append,List.any_cons,List.any_nil,Bool.or_false]
    by_cases c:u.1<(uat f i).1
    ·rw[decide_eq_true c,Bool.and_true]
     unfold goS
     rw[g,decide_eq_true c,Bool.or_true,cT,KL hi,List.filter_append,List.filter_append,List.filter_cons,if_neg (by rw[decide_eq_true_eq];omega),List.filter_nil,List.append_nil,List.filter_cons,if_pos (by rw[decide_eq_true_eq];omega),List.filter_nil]
     cases h3:gtB (f.take i) u.1 with
     |false=>rw[Bool.not_false,cT,cF,U1 h3,List.append_nil,List.append_nil,List.append_assoc];rfl
     |true=>rw[Bool.not_true,cF,cT,List.append_assoc,List.append_assoc]
    ·have h3:gtB (f.take i) u.1=false:=by
      unfold gtB
      rw[List.any_eq_false]
      intro v hv
      have:=tl v hv
      rw[decide_eq_true_eq];omega
     rw[decide_eq_false c,Bool.and_false,cF]
     unfold goS
     rw[g,decide_eq_false c,Bool.or_false,h3,cF,KL hi,List.filter_append,List.filter_append,List.filter_cons,if_pos (by rw[decide_eq_true_eq];omega),List.filter_nil,List.filter_cons,if_neg (by rw[decide_eq_true_eq];omega),List.filter_nil,List.append_nil,U1 h3]
     simp
   show gd ((List.length _+1)*64≤140737488355328) _=_
   rw[Ab (by cases((!gtB (f.take i) u.1)&&decide (u.1<(uat f i).1))<;>simp<;>omega),Ab (by unfold I64;omega)]
   have e3:∀l:List Un,l++[((uat f i).1,(uat f i).2.1,(uat f i).2.2.1,(uat f i).2.2.2.1,(uat f i).2.2.2.2.1,(uat f i).2.2.2.2.2)]=l++[uat f i]:=fun l=>rfl
   rw[e3,e2,←ns]
   exact Qq hf hu n (i+1) (by omega) (by omega)
theorem qM (f:List Un) {u:Un} (hu:u.2.2.2.1.length≤1000):FB N f u.1 u.2.1 u.2.2.1 u.2.2.2.1 u.2.2.2.2.1 u.2.2.2.2.2=some (if Fit f u then(ML f u,0) else([],120)):=by
 unfold FB
 rw[Q0 hN,bS]
 by_cases hf:FV f
 ·have hl:=hf.len
  have L:=Qq (N:=N) hf hu N 0 (by omega) (by omega)
  have glen:=TI (p:=f) (u:=u)
  rw[decide_eq_true hf,cF' _ (by rfl)]
  rw[List.take_zero,Int.natCast_zero] at L
  rw[show gtB [] u.1=false from rfl,show goS [] u=[] from rfl] at L
  rw[L,bS]
  simp only
  have key:(bif !gtB f u.1 then(BM N u.1 u.2.1 u.2.2.1 u.2.2.2.1 u.2.2.2.2.1 u.2.2.2.2.2).bind fun(r148,r149,r150,r151,r152,r153)=>gd (((goS f u).length+1)*64≤140737488355328)<|some (goS f u++[(r148,r149,r150,r151,r152,r153)]) else some (goS f u))=some (KK f u):=by
   cases h:gtB f u.1 with
   |false=>
    rw[Bool.not_false,cT,KJ N hu,bS]
    simp only
    rw[Ab (by omega)]
    unfold goS KK
    rw[h,cF,U1 h,List.append_nil,List.append_nil]
   |true=>
    rw[Bool.not_true,cF]
    unfold goS KK
    rw[h,cT]
    rfl
  rw[key,bS,Q0 hN,bS]
  by_cases c:Fit f u
  ·rw[decide_eq_true ((TH hf).2 c),cF' _ (by rfl),if_pos c,PS c.hi]
  ·rw[decide_eq_false fun h=>c ((TH hf).1 h),cT' _ (by rfl),if_neg c]
 ·rw[decide_eq_false hf,cT' _ (by rfl),if_neg fun h=>hf h.hf]
end
theorem G9 {N:Nat} {c n:Int} (hc:I64 c) (hn:0<n):Ae N c n=some (pk c n):=by
 unfold Ae pk
 unfold I64 at hc
 by_cases h:c<0
 ·rw[decide_eq_true h,cT,if_pos h,Ab (by unfold I64;omega),Ab (by unfold I64;omega),Ab (by omega)]
 ·rw[decide_eq_false h,cF,if_neg h,Ab (by omega)]
theorem lpk {N:Nat} {c n:Int} (hc:I64 c) (hn:0<n):BB N c n=some (pk c n):=by
 unfold BB pk
 unfold I64 at hc
 by_cases h:c<0
 ·rw[decide_eq_true h,cT,if_pos h,Ab (by unfold I64;omega),Ab (by unfold I64;omega),Ab (by omega)]
 ·rw[decide_eq_false h,cF,if_neg h,Ab (by omega)]
def vpT (l:List Pt):Bool:=((decide (3≤l.length)&&decide (l.length≤8))&&l.all fun p=>decide (On p))&&(List.range l.length).all fun i=>(List.range l.length).all fun k=>decide (k=i)||(decide (k=(i+1)%l.length)||decide (0<trn (pa l i) (pa l ((i+1)%l.length)) (pa l k)))
theorem jD {l:List Pt} (h:vpT l=true):VP l:=by
 unfold vpT at h
 simp only[Bool.and_eq_true,decide_eq_true_eq,List.all_eq_true,List.mem_range,Bool.or_eq_true] at h
 obtain⟨⟨⟨h1,h2⟩,h3⟩,h4⟩:=h
 refine⟨h1,h2,h3,fun i k hi hk n1 n2=> ?_⟩
 rcases h4 i hi k hk with e|e|e
 ·exact absurd e n1
 ·exact absurd e n2
 ·exact e
def shp (t:Nat) (a b c d:Int):List Pt:=
 match t with
 |0=>[(a,b),(c,b),(c-1,d),(a+1,d)]
 |1=>[(a+1,b),(c-1,b),(c,d),(a,d)]
 |2=>[(a,b),(c,b),(c,d)]
 |3=>[(a,b),(c,d),(a,d)]
 |_=>[(a,b),(c,b),(c,d),(a,d)]
theorem bU:∀a,a<9→∀b,b<6→∀c,c<4→∀d,d<2→∀t,t<5→vpT (shp t (4*((a:Nat):Int)) (4*((b:Nat):Int)) (min (4*(a:Int)+4*(1+((c:Nat):Int))) 40) (4*(b:Int)+4*(1+((d:Nat):Int))))=true:=by decide+kernel
theorem jE {a b c d:Int} (ha:0≤a∧a<9) (hb:0≤b∧b<6) (hc:0≤c∧c<4) (hd:0≤d∧d<2) {t:Nat} (ht:t<5):VP (shp t (4*a) (4*b) (min (4*a+4*(1+c)) 40) (4*b+4*(1+d))):=by
 have:=bU a.toNat (by omega) b.toNat (by omega) c.toNat (by omega) d.toNat (by omega) t ht
 rw[Int.toNat_of_nonneg ha.1,Int.toNat_of_nonneg hb.1,Int.toNat_of_nonneg hc.1,Int.toNat_of_nonneg hd.1] at this
 exact jD this
theorem Q3 {n:Int} (h:I64 n) {d:Int} (h1:1<d) (h2:d≤1000):I64 (n.tdiv d):=R7 h h1 h2
def Zp (N:Nat) (id x:Int) (l:List Pt):Option Un:=
 (Ae N x 4).bind fun r401=>
 bif decide (r401=3) then(
  gd (I64 (x.tdiv 4))<|
  (Ae N (x.tdiv 4) 4).bind fun r413=>
  gd (I64 (r413+1))<|
  gd (I64 (x.tdiv 16))<|
  (Ae N (x.tdiv 16) 4).bind fun r415=>
  gd (I64 ((r413+1)+r415))<|
  (Ae N id 100).bind fun r417=>
  gd (I64 (x.tdiv 64))<|
  (Ae N (x.tdiv 64) 8).bind fun r419=>
  gd (I64 (1+r419))<|
  gd (I64 (x.tdiv 512))<|
  (Ae N (x.tdiv 512) 8).bind fun r421=>
  some (r417,1+r419,r421,l,r413,(r413+1)+r415))
 else(
  (Ae N id 100).bind fun r423=>
  gd (I64 (x.tdiv 64))<|
  (Ae N (x.tdiv 64) 8).bind fun r425=>
  gd (I64 (1+r425))<|
  gd (I64 (x.tdiv 512))<|
  (Ae N (x.tdiv 512) 8).bind fun r427=>
  some (r423,1+r425,r427,l,0,4))
theorem Lh {N:Nat} {id x:Int} (hi:I64 id) (hx:I64 x) {l:List Pt} (hl:VP l):∃u,Zp N id x l=some u∧UV u∧u.1=pk id 100:=by
 have k1:= @HW x 4 (by omega)
 have k2:= @HW (x.tdiv 4) 4 (by omega)
 have k3:= @HW (x.tdiv 16) 4 (by omega)
 have k4:= @HW id 100 (by omega)
 have k5:= @HW (x.tdiv 64) 8 (by omega)
 have k6:= @HW (x.tdiv 512) 8 (by omega)
 have d1:=Q3 hx (d:=4) (by omega) (by omega)
 have d2:=Q3 hx (d:=16) (by omega) (by omega)
 have d3:=Q3 hx (d:=64) (by omega) (by omega)
 have d4:=Q3 hx (d:=512) (by omega) (by omega)
 unfold Zp
 rw[G9 hx (by omega),bS]
 by_cases c:pk x 4=3
 ·rw[decide_eq_true c,cT,Ab d1,G9 d1 (by omega),bS,Ab (by unfold I64;omega),Ab d2,G9 d2 (by omega),bS,Ab (by unfold I64;omega),G9 hi (by omega),bS,Ab d3,G9 d3 (by omega),bS,Ab (by unfold I64;omega),Ab d4,G9 d4 (by omega),bS]
  exact⟨_,rfl,⟨by show 0≤pk id 100∧pk id 100≤99;omega,by show 1≤1+pk (x.tdiv 64) 8∧1+pk (x.tdiv 64) 8≤8;omega,by show 0≤pk (x.tdiv 512) 8∧pk (x.tdiv 512) 8≤7;omega,by show 0≤pk (x.tdiv 4) 4∧pk (x.tdiv 4) 4<pk (x.tdiv 4) 4+1+pk (x.tdiv 16) 4∧pk (x.tdiv 4) 4+1+pk (x.tdiv 16) 4≤8;omega,hl⟩,rfl⟩
 ·rw[decide_eq_false c,cF,G9 hi (by omega),bS,Ab d3,G9 d3 (by omega),bS,Ab (by unfold I64;omega),Ab d4,G9 d4 (by omega),bS]
  exact⟨_,rfl,⟨by show 0≤pk id 100∧pk id 100≤99;omega,by show 1≤1+pk (x.tdiv 64) 8∧1+pk (x.tdiv 64) 8≤8;omega,by show 0≤pk (x.tdiv 512) 8∧pk (x.tdiv 512) 8≤7;omega,by show(0:Int)≤0∧(0:Int)<4∧(4:Int)≤8;omega,hl⟩,rfl⟩
theorem yO {N:Nat} {id a b c d e f:Int} (hi:I64 id) (h1:I64 a) (h2:I64 b) (h3:I64 c) (h4:I64 d) (h5:I64 e) (h6:I64 f):∃u:Un,CD N id a b c d e f=some u∧UV u∧u.1=pk id 100:=by
 have k1:= @HW a 9 (by omega)
 have k2:= @HW b 6 (by omega)
 have k3:= @HW c 4 (by omega)
 have k4:= @HW d 2 (by omega)
 have V:=fun t (ht:t<5)=>jE k1 k2 k3 k4 ht
 unfold CD
 rw[G9 h1 (by omega),bS,Ab (by unfold I64;omega),G9 h2 (by omega),bS,Ab (by unfold I64;omega),G9 h3 (by omega),bS,Ab (by unfold I64;omega),Ab (by unfold I64;omega),Ab (by unfold I64;omega),G9 h4 (by omega),bS,Ab (by unfold I64;omega),Ab (by unfold I64;omega),Ab (by unfold I64;omega),G9 h5 (by omega),bS]
 by_cases c4:pk e 8=4
 ·rw[decide_eq_true c4,cT,Ab (by unfold I64;omega),Ab (by unfold I64;omega)]
  exact Lh hi h6 (V 0 (by omega))
 rw[decide_eq_false c4,cF]
 by_cases c5:pk e 8=5
 ·rw[decide_eq_true c5,cT,Ab (by unfold I64;omega),Ab (by unfold I64;omega)]
  exact Lh hi h6 (V 1 (by omega))
 rw[decide_eq_false c5,cF]
 by_cases c6:pk e 8=6
 ·rw[decide_eq_true c6,cT]
  exact Lh hi h6 (V 2 (by omega))
 rw[decide_eq_false c6,cF]
 by_cases c7:pk e 8=7
 ·rw[decide_eq_true c7,cT]
  exact Lh hi h6 (V 3 (by omega))
 ·rw[decide_eq_false c7,cF]
  exact Lh hi h6 (V 4 (by omega))
def I6 (x:List (Int×Int×Int×Int×Int×Int)):Prop:=∀r∈x,I64 r.1∧I64 r.2.1∧I64 r.2.2.1∧I64 r.2.2.2.1∧I64 r.2.2.2.2.1∧I64 r.2.2.2.2.2
theorem jF:FV []:=⟨by simp,by simp,List.Pairwise.nil,List.Pairwise.nil⟩
theorem wH {f:List Un} {u v:Un}:v∈ML f u↔v∈f∨v=u:=by
 unfold ML MK geU
 rw[List.mem_append,List.mem_cons,List.mem_filter,List.mem_filter,decide_eq_true_eq,decide_eq_true_eq]
 constructor
 ·rintro(⟨k,_⟩|k|⟨k,_⟩)
  ·exact .inl k
  ·exact .inr k
  ·exact .inl k
 ·rintro(k|k)
  ·by_cases c:v.1<u.1
   ·exact .inl ⟨k,c⟩
   ·exact .inr (.inr ⟨k,by omega⟩)
  ·exact .inr (.inl k)
theorem xA {f:List Un} {u:Un} (h:Fit f u):(ML f u).length=f.length+1:=by
 have e:(MK f u.1++geU f u.1).length=f.length:=by rw[h.hf.cut]
 rw[List.length_append] at e
 unfold ML
 rw[List.length_append,List.length_cons];omega
theorem AaU {c n:Int} (h0:0≤c) (h:c<n):pk c n=c:=by
 unfold pk;rw[if_neg (by omega),Int.tmod_eq_of_lt h0 h]
structure Frst (i:Nat) (f:List Un):Prop where
 fv:FV f
 len:f.length≤i
 ids:∀u∈f,u.1<3*i
theorem Frst.up {i:Nat} {f:List Un} (h:Frst i f) {j:Nat} (hj:i≤j):Frst j f:=⟨h.fv,by have:=h.len;omega,fun u hu=>by have:=h.ids u hu;omega⟩
theorem MM {N:Nat} (hN:1001≤N) {x:List (Int×Int×Int×Int×Int×Int)} (hx:I6 x):∀n i f,i≤12→i≤x.length→12<n+i→Frst i f→∃g,C3 N x n (i:Nat) f=some g∧Frst (min x.length 12) g
 |0,i,f,h1,_,h2,_=>by omega
 |n+1,i,f,h1,h3,h2,hf=>by
  rw[C3]
  by_cases c:i<x.length∧i<12
  ·have hr:=hx _ (List.getElem_mem c.1)
   have k:= @HW (x[i].2.2.2.2.2) 3 (by omega)
   rw[dlt c.1,Bool.true_and,decide_eq_true (p:=(i:Int)<12) (by omega),cT,Ab (by unfold I64;omega),Tq,List.getElem?_eq_getElem c.1,bS]
   generalize x[i]=r at hr k
   obtain⟨a,b,c1,d,e,g⟩:=r
   simp only at hr k⊢
   obtain⟨u,hu,vu,iu⟩:=yO (N:=N) (id:=3*(i:Int)+pk g 3) (by unfold I64;omega) hr.1 hr.2.1 hr.2.2.1 hr.2.2.2.1 hr.2.2.2.2.1 hr.2.2.2.2.2
   have iu:u.1<3*((i+1:Nat):Int):=by
    rw[iu,AaU (by omega) (by omega)];omega
   have l8:=vu.l.l8
   have ha:=qM hN f (u:=u) (by omega)
   obtain⟨u1,u2,u3,u4,u5,u6⟩:=u
   simp only at ha iu
   rw[G9 hr.2.2.2.2.2 (by omega),bS,Ab (by unfold I64;omega),hu,bS]
   simp only
   rw[ha,bS]
   by_cases ft:Fit f (u1,u2,u3,u4,u5,u6)
   ·rw[if_pos ft]
    simp only
    rw[cT' _ (by rfl),Ab (by unfold I64;omega),←ns]
    refine MM hN hx n (i+1) _ (by omega) (by omega) (by omega) ⟨ft.fv,by rw[xA ft];have:=hf.len;omega,fun v hv=> ?_⟩
    rcases wH.1 hv with q|q
    ·exact(hf.up (Nat.le_succ i)).ids v q
    ·rw[q];exact iu
   ·rw[if_neg ft]
    simp only
    rw[cF' _ (by rfl),Ab (by unfold I64;omega),←ns]
    exact MM hN hx n (i+1) _ (by omega) (by omega) (by omega) (hf.up (Nat.le_succ i))
  ·rw[cF' _ (by rw[Bool.and_eq_false_iff,decide_eq_false_iff_not,decide_eq_false_iff_not];omega)]
   exact⟨f,rfl,hf.up (by omega)⟩
theorem yP {N:Nat} (hN:1001≤N) {x:List (Int×Int×Int×Int×Int×Int)} (hx:I6 x):∃f,Cx N x=some f∧Frst (min x.length 12) f:=by
 obtain⟨f,h,v⟩:=MM hN hx N 0 [] (by omega) (by omega) (by omega) ⟨jF,by simp,by simp⟩
 unfold Cx
 rw[Int.natCast_zero] at h
 rw[h,bS]
 exact⟨f,rfl,v⟩
end Go.Proofs.YtciphecegkfaiaaGreat.Am
