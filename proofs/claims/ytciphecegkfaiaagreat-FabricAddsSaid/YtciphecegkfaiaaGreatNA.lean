import Derived.Test.YtciphecegkfaiaaGreatNE
import Derived.Test.YtciphecegkfaiaaGreatNR
import Derived.Test.YtciphecegkfaiaaGreatNG
import Derived.Test.YtciphecegkfaiaaGreatNZ
import Derived.Test.YtciphecegkfaiaaGreatL5
namespace Go.Proofs.YtciphecegkfaiaaGreat.Am
set_option linter.unusedSimpArgs false
set_option linter.unusedVariables false
set_option linter.unusedSectionVars false
theorem Abe {f:List Un} {u:Un} (h:Fit f u):jC (ML f u) u.1=f:=by
 have e:=h.hf.cut u.1
 unfold jC ML
 rw[List.filter_append,List.filter_cons,if_neg (by simp),←List.filter_append,e,List.filter_eq_self]
 intro v hv
 exact decide_eq_true (h.hi v hv)
theorem yH {f:List Un} (h:FV f) {u:Un} (hu:u∈f):ML (jC f u.1) u=f:=by
 obtain⟨i,hi,rfl⟩:=MI hu
 obtain⟨r,p⟩:=h.pos (uat f i).1
 have hr:r=i:=by
  have h1:r≤i:=by
   by_cases c:r≤i
   ·exact c
   ·have:=p.lo i (by omega);omega
  by_cases c:r=i
  ·exact c
  ·have:=p.hi r (Nat.le_refl _) (by omega)
   have:=H9.1 h.srt r i (by omega) hi
   omega
 subst hr
 have e1:MK (jC f (uat f r).1) (uat f r).1=MK f (uat f r).1:=by
  unfold MK jC
  rw[List.filter_filter]
  exact List.filter_congr fun v hv=>by rw[Bool.eq_iff_iff,Bool.and_eq_true,decide_eq_true_eq,decide_eq_true_eq];omega
 have e2:geU f (uat f r).1=uat f r::geU (jC f (uat f r).1) (uat f r).1:=by
  have hd:geU f (uat f r).1=uat f r::f.drop (r+1):=by rw[←p.split.2,List.drop_eq_getElem_cons hi,Fr hi]
  rw[hd]
  congr 1
  have hg:geU (jC f (uat f r).1) (uat f r).1=(geU f (uat f r).1).filter fun v=>decide (v.1≠(uat f r).1):=by
   unfold geU jC
   rw[List.filter_filter,List.filter_filter]
   exact List.filter_congr fun v hv=>Bool.and_comm _ _
  rw[hg,hd,List.filter_cons,if_neg (by simp)]
  refine(List.filter_eq_self.2 fun v hv=> ?_).symm
  obtain⟨k,hk,rfl⟩:=List.mem_drop_iff_getElem.1 hv
  have:=H9.1 h.srt r (k+(r+1)) (by omega) (by omega)
  rw[Fr (show k+(r+1)<f.length by omega)] at this
  simp only[Nat.add_comm (r+1) k]
  rw[decide_eq_true_eq];omega
 unfold ML
 rw[e1]
 exact(congrArg (MK f (uat f r).1++·) e2.symm).trans (h.cut _)
theorem zP {f:List Un} (h:FV f) {u:Un} (hu:u∈f):Fit (jC f u.1) u:=by
 refine⟨h.sub List.filter_sublist,h.val u hu, ?_,fun v hv=>by have:=(List.mem_filter.1 hv).2;simpa using this,fun v hv=> ?_⟩
 ·have hl:=h.len
  have:(jC f u.1).length<f.length:=by
   unfold jC
   refine List.length_filter_lt_length_iff_exists.2 ⟨u,hu,by simp⟩
  omega
 ·obtain⟨hv1,hv2⟩:=List.mem_filter.1 hv
  rw[decide_eq_true_eq] at hv2
  obtain⟨i,hi,rfl⟩:=MI hu
  obtain⟨k,hk,rfl⟩:=MI hv1
  by_cases c:i<k
  ·exact H9.1 h.dis i k c hk
  ·have:k≠i:=fun e=>hv2 (by rw[e])
   rw[LY]
   exact H9.1 h.dis k i (by omega) hi
theorem zQ {α β:Type} (f:α→Option β) (a:α) (l:List α):(a::l).filterMap f=(f a).toList++l.filterMap f:=by rw[List.filterMap_cons];cases f a<;>rfl
theorem xZ (u:Un):∀(l1 l2:List Un),(tY (l1++u::l2)).Perm (tY (l1++l2)++((stO u).toList++(l1.filterMap (fun v=>tcO v u)++l2.filterMap (tcO u))))
 |[],l2=>by
  rw[List.nil_append,List.nil_append,tY,List.filterMap_nil,List.nil_append,←List.append_assoc]
  exact List.perm_append_comm
 |a::l1,l2=>by
  have ih:=xZ u l1 l2
  rw[List.cons_append,List.cons_append,tY,tY,List.filterMap_append,List.filterMap_append,zQ,zQ]
  generalize (tcO a u).toList=x
  generalize l1.filterMap (tcO a)=y
  generalize l2.filterMap (tcO a)=z
  generalize l1.filterMap (fun v=>tcO v u)=y' at ih⊢
  generalize l2.filterMap (tcO u)=z' at ih⊢
  generalize tY (l1++u::l2)=C at ih⊢
  generalize tY (l1++l2)=D at ih⊢
  generalize (stO u).toList=s at ih⊢
  generalize (stO a).toList=t
  have h1:(t++(y++(x++z)++C)).Perm (t++(y++(x++z)++(D++(s++(y'++z'))))):=List.Perm.append_left _ (List.Perm.append_left _ ih)
  refine h1.trans ?_
  rw[List.perm_iff_count]
  intro c
  simp only[List.count_append]
  omega
theorem Aav {u v:Un} (hu:UV u) (hv:UV v):(tcO u v).isSome=(tcO v u).isSome:=by
 cases h:tcO u v with
 |some c=>rw[wM hu hv h];rfl
 |none=>
  cases k:tcO v u with
  |none=>rfl
  |some c=>have:=wM hv hu k;rw[h] at this;cases this
def noK (t:Int) (c:Con):Bool:=decide (c.1≠t)&&decide (c.2.1≠t)
theorem Abs {l m:List Con} (hl:l.Pairwise ltK) (hm:m.Pairwise ltK) (hp:l.Perm m):l=m:=by
 refine List.Perm.eq_of_pairwise (le:=ltK) (fun a b _ _ h1 h2=> ?_) hl hm hp
 unfold ltK at h1 h2
 omega
theorem Abf {l m:List (Int×Int)} (hl:l.Pairwise wW) (hm:m.Pairwise wW) (hp:l.Perm m):l=m:=by
 refine List.Perm.eq_of_pairwise (le:=wW) (fun a b _ _ h1 h2=> ?_) hl hm hp
 unfold wW at h1 h2
 omega
section
variable {f:List Un} {u:Un} (h:Fit f u)
include h
theorem yI {c:Con} (hc:c∈(stO u).toList++((MK f u.1).filterMap (fun v=>tcO v u)++(geU f u.1).filterMap (tcO u))):c.1=u.1∨c.2.1=u.1:=by
 rcases List.mem_append.1 hc with hc|hc
 ·have:stO u=some c:=by simpa using hc
  exact .inl (uU this).1
 ·rcases List.mem_append.1 hc with hc|hc
  ·obtain⟨v,_,e⟩:=List.mem_filterMap.1 hc;exact .inr (tZ e).2
  ·obtain⟨v,_,e⟩:=List.mem_filterMap.1 hc;exact .inl (tZ e).1
theorem Acg {c:Con} (hc:c∈tY f):c.1≠u.1∧c.2.1≠u.1:=by
 have u0:=h.hu.a.1
 rcases wJ.1 hc with⟨v,hv,e⟩|⟨i,k,hik,hk,e⟩
 ·have k:=uU e
  have:=h.hi v hv
  exact⟨by omega,by omega⟩
 ·have kk:=tZ e
  have:=h.hi _ (FO (f:=f) (k:=i) (by omega))
  have:=h.hi _ (FO hk)
  exact⟨by omega,by omega⟩
theorem xG:(tY (ML f u)).Perm (tY f++((stO u).toList++((MK f u.1).filterMap (fun v=>tcO v u)++(geU f u.1).filterMap (tcO u)))):=by
 have:=xZ u (MK f u.1) (geU f u.1)
 rwa [h.hf.cut u.1] at this
theorem AaV:(tY (ML f u)).filter (noK u.1)=tY f:=by
 have gv:=h.fv
 refine Abs ((uM gv.srt gv.id0).filter _) (uM h.hf.srt h.hf.id0) ?_
 refine((xG h).filter _).trans ?_
 rw[List.filter_append,List.filter_eq_self.2 fun c hc=> ?_,List.filter_eq_nil_iff.2 fun c hc=> ?_,List.append_nil]
 ·have:=yI h hc
  unfold noK
  rw[Bool.and_eq_true,decide_eq_true_eq,decide_eq_true_eq]
  omega
 ·have:=Acg h hc
  unfold noK
  rw[decide_eq_true this.1,decide_eq_true this.2]
  rfl
noncomputable def nTc (f:List Un) (u:Un):Nat:=f.countP fun v=>(tcO u v).isSome
theorem Aaw:((tY (ML f u)).filter fun c=> !noK u.1 c).length=nTc f u+if(stO u).isSome then 1 else 0:=by
 have e:=(((xG h).filter fun c=> !noK u.1 c)).length_eq
 rw[e,List.filter_append,List.filter_eq_nil_iff.2 fun c hc=> ?_,List.nil_append,List.filter_eq_self.2 fun c hc=> ?_]
 ·rw[List.length_append,List.length_append]
  have e1:((MK f u.1).filterMap fun v=>tcO v u).length=(MK f u.1).countP fun v=>(tcO u v).isSome:=by
   rw[List.length_filterMap_eq_countP]
   exact List.countP_congr fun v hv=>by rw[Aav (h.hf.val v (List.mem_filter.1 hv).1) h.hu]
  have e2:((geU f u.1).filterMap (tcO u)).length=(geU f u.1).countP fun v=>(tcO u v).isSome:=List.length_filterMap_eq_countP
  have e3:nTc f u=(MK f u.1).countP (fun v=>(tcO u v).isSome)+(geU f u.1).countP fun v=>(tcO u v).isSome:=by
   unfold nTc
   rw[←List.countP_append,h.hf.cut]
  rw[e1,e2,e3]
  cases stO u<;>simp<;>omega
 ·have:=yI h hc
  unfold noK
  rw[Bool.not_eq_true',Bool.and_eq_false_iff,decide_eq_false_iff_not,decide_eq_false_iff_not]
  omega
 ·have:=Acg h hc
  unfold noK
  rw[decide_eq_true this.1,decide_eq_true this.2]
  decide
def Aci (t:Int) (p:Int×Int):Bool:=decide (p.1≠t)&&decide (p.2≠t)
theorem AaW:(wG (ML f u)).filter (Aci u.1)=wG f:=by
 have gv:=h.fv
 refine Abf ((xU gv).filter _) (xU h.hf) ?_
 refine((wP _).filter _).trans (List.Perm.trans ?_ (wP _).symm)
 refine(((xG h).filterMap wI).filter _).trans ?_
 rw[List.filterMap_append,List.filter_append,List.filter_eq_self.2 fun p hp=> ?_,List.filter_eq_nil_iff.2 fun p hp=> ?_,List.append_nil]
 ·obtain⟨c,hc,e⟩:=List.mem_filterMap.1 hp
  have:=yI h hc
  unfold Aci
  rw[Bool.and_eq_true,decide_eq_true_eq,decide_eq_true_eq]
  rcases wO e with q|q<;>rw[q]<;>simp only<;>omega
 ·obtain⟨c,hc,e⟩:=List.mem_filterMap.1 hp
  have:=Acg h hc
  unfold Aci
  rw[Bool.and_eq_true,decide_eq_true_eq,decide_eq_true_eq]
  rcases wO e with q|q<;>rw[q]<;>simp only<;>omega
end
theorem zT (N:Nat) {cs:List Con} (hc:cs.length≤1000) (t:Int):∀n i (ab:Int) (l:List Con),i≤cs.length→cs.length<n+i→l.length≤i→(0≤ab∧ab≤i)→
  Ew N cs t n ab (i:Nat) l=some (ab+(((cs.drop i).filter fun c=> !noK t c).length:Nat),l++(cs.drop i).filter (noK t))
 |0,i,ab,l,h1,h2,_,_=>by omega
 |n+1,i,ab,l,h1,h2,h3,h4=>by
  rw[Ew]
  by_cases e:i=cs.length
  ·subst e;rw[dge,cF,List.drop_length];simp
  ·have hi:i<cs.length:=by omega
   have ih:=fun ab l=>zT N hc t n (i+1) ab l (by omega) (by omega)
   rw[dlt hi,cT,Tq,List.getElem?_eq_getElem hi,bS,List.drop_eq_getElem_cons hi,List.filter_cons,List.filter_cons]
   generalize cs[i]=c
   obtain⟨c1,c2,⟨⟨c3,c4⟩,c5,c6⟩,c7,c8⟩:=c
   simp only
   by_cases q:noK t (c1,c2,((c3,c4),c5,c6),c7,c8)=true
   ·have q':(decide (c1≠t)&&decide (c2≠t))=true:=q
    rw[cT' _ q',Ab (by omega),Ab (by unfold I64;omega),←ns,ih _ _ (by simp;omega) (by omega),if_pos q,if_neg (by rw[q];decide),List.append_assoc]
    rfl
   ·have q':(decide (c1≠t)&&decide (c2≠t))=false:=by rw[Bool.eq_false_iff];exact q
    rw[cF' _ q',Ab (by unfold I64;omega),Ab (by unfold I64;omega),←ns,ih _ _ (by omega) (by omega),if_neg q,if_pos (by rw[Bool.not_eq_true'];exact Bool.eq_false_iff.2 q),List.length_cons]
    congr 2
    omega
theorem zV (N:Nat) {cs:List (Int×Int)} (hc:cs.length≤1000) (t:Int):∀n i (l:List (Int×Int)),i≤cs.length→cs.length<n+i→l.length≤i→
  Ex N cs t n (i:Nat) l=some (l++(cs.drop i).filter (Aci t))
 |0,i,l,h1,h2,_=>by omega
 |n+1,i,l,h1,h2,h3=>by
  rw[Ex]
  by_cases e:i=cs.length
  ·subst e;rw[dge,cF,List.drop_length];simp
  ·have hi:i<cs.length:=by omega
   have ih:=fun l=>zV N hc t n (i+1) l (by omega) (by omega)
   rw[dlt hi,cT,Tq,List.getElem?_eq_getElem hi,bS,List.drop_eq_getElem_cons hi,List.filter_cons]
   generalize cs[i]=c
   obtain⟨c1,c2⟩:=c
   simp only
   by_cases q:Aci t (c1,c2)=true
   ·have q':(decide (c1≠t)&&decide (c2≠t))=true:=q
    rw[cT' _ q',Ab (by omega),Ab (by unfold I64;omega),←ns,ih _ (by simp;omega),if_pos q,List.append_assoc]
    rfl
   ·have q':(decide (c1≠t)&&decide (c2≠t))=false:=by rw[Bool.eq_false_iff];exact q
    rw[cF' _ q',Ab (by unfold I64;omega),←ns,ih _ (by omega),if_neg q]
theorem zW {N:Nat} (hN:1001≤N) {f:List Un} (h:FV f) {u:Un} (hu:UV u):∀n i (t:Int),i≤f.length→f.length<n+i→(0≤t∧t≤i)→
  Ey N f u.1 u.2.1 u.2.2.1 u.2.2.2.1 u.2.2.2.2.1 u.2.2.2.2.2 n t (i:Nat)=some (t+(nTc (f.drop i) u:Nat))
 |0,i,t,h1,h2,_=>by omega
 |n+1,i,t,h1,h2,h3=>by
  have hl:=h.len
  rw[Ey]
  by_cases e:i=f.length
  ·subst e;rw[dge,cF,List.drop_length];unfold nTc;simp
  ·have hi:i<f.length:=by omega
   have ih:=fun t=>zW hN h hu n (i+1) t (by omega) (by omega)
   rw[dlt hi,cT,GC hi,bS]
   simp only
   rw[vS hN hu (h.val _ (FO hi)),bS]
   have e2:nTc (f.drop i) u=nTc (f.drop (i+1)) u+if(tcO u (uat f i)).isSome then 1 else 0:=by
    unfold nTc
    rw[List.drop_eq_getElem_cons hi,List.countP_cons,←Fr hi]
   rw[e2]
   cases ht:tcO u (uat f i) with
   |none=>
    simp only[kD]
    rw[cF,Ab (by unfold I64;omega),←ns,ih _ (by omega)]
    rfl
   |some c=>
    obtain⟨c1,c2,⟨⟨c3,c4⟩,c5,c6⟩,c7,c8⟩:=c
    simp only
    rw[cT,Ab (by unfold I64;omega),Ab (by unfold I64;omega),←ns,ih _ (by omega)]
    rw[Option.isSome_some,if_pos rfl]
    congr 1
    omega
theorem Abt (f:List Un) (u:Un):nTc f u≤f.length:=List.countP_le_length
theorem zX {N:Nat} (hN:1001≤N) (hN2:N≤100000) {f:List Un} {u:Un} (h:Fit f u):Ez N f (ML f u) u.1=some true:=by
 have gv:=h.fv
 have hl:=h.hf.len
 have cl:=wN gv
 have cl0:=wN h.hf
 have rl:∀{f},FV f→(wG f).length≤1000:=fun {f} h=>by
  have:=List.length_filterMap_le wI (tY f)
  have:=wN h
  rw[(wP f).length_eq];omega
 have AbM:=zT N cl u.1 N 0 0 [] (by omega) (by omega) (by simp) (by omega)
 have AbN:=zV N (rl gv) u.1 N 0 [] (by omega) (by have:=rl gv;omega) (by simp)
 have AbO:=zW hN h.hf h.hu N 0 0 (by omega) (by omega) (by omega)
 rw[Int.natCast_zero,List.drop_zero,List.nil_append,Int.zero_add,AaV h,Aaw h] at AbM
 rw[Int.natCast_zero,List.drop_zero,List.nil_append,AaW h] at AbN
 rw[Int.natCast_zero,List.drop_zero,Int.zero_add] at AbO
 have nl:=Abt f u
 have hf:Q2 (ML f u) u.1=(u,true):=by
  obtain⟨k,hk,e⟩:=MI (wH.2 (.inr rfl):u∈ML f u)
  have:=TF gv hk
  rw[e] at this
  unfold Q2
  rw[if_pos gv,this]
 have c1:=rl h.hf
 unfold Ez
 rw[vR hN,if_pos gv,bS,AbM,bS]
 simp only
 rw[wZ hN,if_pos gv,bS,AbN,bS,tH hN,hf,bS]
 simp only
 rw[AbO,bS,vL (by omega) h.hu,bS]
 cases hs:stO u with
 |none=>
  simp only[kD]
  rw[cF,vR hN,if_pos h.hf,EO (fun _=>Option.isSome_some),Option.getD_some,xS hN2 _ (by omega),EO (fun _=>Option.isSome_some),Option.getD_some,decide_eq_true rfl,wZ hN,if_pos h.hf,EO (fun _=>Option.isSome_some),Option.getD_some,xH hN2 _ (by omega),EO (fun _=>Option.isSome_some),Option.getD_some,decide_eq_true rfl]
  rw[decide_eq_true (by simp)]
  rfl
 |some c=>
  obtain⟨c1,c2,⟨⟨c3,c4⟩,c5,c6⟩,c7,c8⟩:=c
  simp only
  rw[cT,Ab (by unfold I64;omega),vR hN,if_pos h.hf,EO (fun _=>Option.isSome_some),Option.getD_some,xS hN2 _ (by omega),EO (fun _=>Option.isSome_some),Option.getD_some,decide_eq_true rfl,wZ hN,if_pos h.hf,EO (fun _=>Option.isSome_some),Option.getD_some,xH hN2 _ (by omega),EO (fun _=>Option.isSome_some),Option.getD_some,decide_eq_true rfl]
  rw[decide_eq_true (by simp)]
  rfl
open Classical in
theorem Abg {f:List Un} (h:FV f) (t:Int):(Q2 f t).2=decide (∃v∈f,v.1=t):=by
 unfold Q2
 rw[if_pos h]
 by_cases c:∃v∈f,v.1=t
 ·rw[decide_eq_true c]
  obtain⟨v,hv,rfl⟩:=c
  obtain⟨k,hk,rfl⟩:=MI hv
  rw[TF h hk]
 ·rw[decide_eq_false c,TG c]
theorem zY {N:Nat} (hN:1001≤N) {f:List Un} (h:FV f) (u:Un):∀n i (b:Bool),i≤f.length→f.length<n+i→
  Ed N f u.1 u.2.1 u.2.2.1 u.2.2.2.1 u.2.2.2.2.1 u.2.2.2.2.2 n b (i:Nat)=some (b&&(f.drop i).all fun v=> !ovB v u)
 |0,i,b,h1,h2=>by omega
 |n+1,i,b,h1,h2=>by
  have hl:=h.len
  rw[Ed]
  by_cases e:i=f.length
  ·subst e;rw[dge,cF,List.drop_length];simp
  ·have hi:i<f.length:=by omega
   rw[dlt hi,cT,GC hi,bS]
   simp only
   rw[uov hN,EO (fun _=>Option.isSome_some),Option.getD_some,Ab (by unfold I64;omega),←ns,zY hN h u n (i+1) _ (by omega) (by omega),List.drop_eq_getElem_cons hi,List.all_cons,←Fr hi,Bool.and_assoc]
open Classical in
theorem Abh {f:List Un} (h:FV f) {u:Un} (hu:UV u):(((!(Q2 f u.1).2)&&decide ((f.length:Int)<12))&&f.all fun v=> !ovB v u)=decide (Fit f u):=by
 rw[Abg h,Bool.eq_iff_iff,Bool.and_eq_true,Bool.and_eq_true,Bool.not_eq_true',decide_eq_false_iff_not,decide_eq_true_eq,decide_eq_true_eq,List.all_eq_true]
 constructor
 ·rintro⟨⟨h1,h2⟩,h3⟩
  exact⟨h,hu,by omega,fun v hv e=>h1 ⟨v,hv,e⟩,fun v hv=>by rw[LY];have:=h3 v hv;rwa [Bool.not_eq_true'] at this⟩
 ·intro ft
  exact⟨⟨fun⟨v,hv,e⟩=>ft.hi v hv e,by have:=ft.hl;omega⟩,fun v hv=>by rw[Bool.not_eq_true',LY];exact ft.ho v hv⟩
theorem xM {f:List Un} {u:Un} (h:Fit f u):wL (ML f u)=wL f+wK u:=by
 unfold wL
 have e:(f.map wK).sum=((MK f u.1).map wK).sum+((geU f u.1).map wK).sum:=by
  rw[←List.sum_append,←List.map_append,h.hf.cut]
 rw[e]
 unfold ML
 rw[List.map_append,List.sum_append,List.map_cons,List.sum_cons]
 omega
theorem AaX (f:List Un) (s t:Int):jC (jC f s) t=jC (jC f t) s:=by
 unfold jC
 rw[List.filter_filter,List.filter_filter]
 exact List.filter_congr fun v _=>Bool.and_comm _ _
open Classical in
theorem AaY (x:List (Int×Int×Int×Int×Int×Int)) (id a b c d e k which other:Int) (hx:I6 x) (hid:I64 id) (ha:I64 a) (hb:I64 b) (hc:I64 c) (hd:I64 d) (he:I64 e) (hk:I64 k) (hw:I64 which) (ho:I64 other):HE 2000 x id a b c d e k which other=some true:=by
 unfold HE
 obtain⟨f,hf,fv⟩:=WD (N:=2000) (by omega) hx
 obtain⟨u,hu,uv⟩:=YD (N:=2000) hid ha hb hc hd he hk
 have hu':CD 2000 id a b c d e k=some (u.1,u.2.1,u.2.2.1,u.2.2.2.1,u.2.2.2.2.1,u.2.2.2.2.2):=hu
 have hfi:El 2000 f u.1=some (((Q2 f u.1).1.1,(Q2 f u.1).1.2.1,(Q2 f u.1).1.2.2.1,(Q2 f u.1).1.2.2.2.1,(Q2 f u.1).1.2.2.2.2.1,(Q2 f u.1).1.2.2.2.2.2),(Q2 f u.1).2):=tH (by omega) f u.1
 have hl:=fv.len
 have AbL:=zY (N:=2000) (by omega) fv u 2000 0 ((!(Q2 f u.1).2)&&decide ((f.length:Int)<12)) (by omega) (by omega)
 rw[Int.natCast_zero,List.drop_zero,Abh fv uv] at AbL
 have tail:∀r:Option Bool,(bif decide ((f.length:Int)=0) then some true else r)=if f.length=0 then some true else r:=fun r=>by
  by_cases h0:f.length=0
  ·rw[if_pos h0,cT' _ (decide_eq_true (by omega))]
  ·rw[if_neg h0,cF' _ (decide_eq_false (by omega))]
 have sm:=fv.shp
 have same:∀{g:List Un},FV g→AD 2000 g g=some true:=fun {g} gv=>by
  rw[vN (by omega) g (by have:=gv.len;omega) (fun u hu=>by have:=gv.shp u hu;omega),decide_eq_true rfl]
 rw[jI,bS,cF' _ (by rfl),hf,bS,hu',bS]
 simp only
 rw[tJ (by omega),bS]
 have rest:∀{o:Option (Sum Unit Bool)},o=some (.inl ())→(o.bind fun o98=>match o98 with
    | .inl ()=>(
     bif decide ((f.length:Int)=0) then(
      some true)
     else(
      (BB 2000 which (f.length:Int)).bind fun r99=>
      (nth f r99).bind fun(Mx,Ya,x103,x104,x105,x106)=>
      (BB 2000 other (f.length:Int)).bind fun r108=>
      (nth f r108).bind fun(x110,x111,x112,x113,x114,x115)=>
      (Cn 2000 f Mx).bind fun(r117,r118)=>
      (EM 2000 r117 Mx Ya x103 x104 x105 x106).bind fun(r120,r121)=>
      (Cn 2000 r117 x110).bind fun(r123,r124)=>
      (Cn 2000 f x110).bind fun(r126,r127)=>
      (Cn 2000 r126 Mx).bind fun(r129,r130)=>
      gd ((!(((decide (r118≠0))||(decide (r121≠0)))||(decide (r127≠0))))=true→((AD 2000 r120 f).isSome=true))<|
      gd ((!((((decide (r118≠0))||(decide (r121≠0)))||(decide (r127≠0)))||(!((AD 2000 r120 f).getD false))))=true→((Ez 2000 r117 f Mx).isSome=true))<|
      bif ((((decide (r118≠0))||(decide (r121≠0)))||(decide (r127≠0)))||(!((AD 2000 r120 f).getD false)))||(!((Ez 2000 r117 f Mx).getD false)) then(
       some false)
      else(
       bif decide (Mx=x110) then(
        some ((decide (r124=120))&&(decide (r130=120))))
       else(
        gd (((decide (r124=0))&&(decide (r130=0)))=true→((AD 2000 r123 r129).isSome=true))<|
        some (((decide (r124=0))&&(decide (r130=0)))&&((AD 2000 r123 r129).getD false))))))
    | .inr r97=>(
     some r97))=some true:=by
  rintro o rfl
  rw[bS]
  simp only
  rw[tail]
  by_cases h0:f.length=0
  ·rw[if_pos h0]
  rw[if_neg h0]
  obtain⟨i,ei,hi⟩:=xP (show 0<f.length by omega) which
  obtain⟨j,ej,hj⟩:=xP (show 0<f.length by omega) other
  have mi:=FO hi
  have mj:=FO hj
  have fi:=zP fv mi
  have kp1:=zX (N:=2000) (by omega) (by omega) fi
  rw[yH fv mi] at kp1
  rw[lpk hw (by omega),bS,ei,GC hi,bS]
  simp only
  rw[lpk ho (by omega),bS,ej,GC hj,bS]
  simp only
  rw[tT (by omega) f,if_pos ⟨fv,_,mi,rfl⟩,bS]
  simp only
  rw[tJ (by omega),if_pos fi,bS]
  simp only
  rw[yH fv mi,tT (by omega) (jC f (uat f i).1),tT (by omega) f (uat f j).1,if_pos (c:=FV f∧∃u∈f,u.1=(uat f j).1) ⟨fv,_,mj,rfl⟩]
  have fvi:FV (jC f (uat f i).1):=fv.sub List.filter_sublist
  have fvj:FV (jC f (uat f j).1):=fv.sub List.filter_sublist
  by_cases q:(uat f i).1=(uat f j).1
  ·have no:¬∃v∈jC f (uat f i).1,v.1=(uat f j).1:=fun⟨v,hv,e⟩=>by
    have:=(List.mem_filter.1 hv).2
    rw[decide_eq_true_eq] at this
    omega
   have no2:¬∃v∈jC f (uat f j).1,v.1=(uat f i).1:=fun⟨v,hv,e⟩=>by
    have:=(List.mem_filter.1 hv).2
    rw[decide_eq_true_eq] at this
    omega
   rw[if_neg (fun h=>no h.2),bS]
   simp only
   rw[bS]
   simp only
   rw[tT (by omega) (jC f (uat f j).1),if_neg (fun h=>no2 h.2),bS]
   simp only
   rw[same fv,kp1,EO (fun _=>Option.isSome_some),EO (fun _=>Option.isSome_some),cF' _ (by rfl),cT' _ (decide_eq_true q)]
   rfl
  ·have y1:∃v∈jC f (uat f i).1,v.1=(uat f j).1:=⟨_,List.mem_filter.2 ⟨mj,decide_eq_true (Ne.symm q)⟩,rfl⟩
   have y2:∃v∈jC f (uat f j).1,v.1=(uat f i).1:=⟨_,List.mem_filter.2 ⟨mi,decide_eq_true q⟩,rfl⟩
   have fvij:FV (jC (jC f (uat f i).1) (uat f j).1):=fvi.sub List.filter_sublist
   rw[if_pos ⟨fvi,y1⟩,bS]
   simp only
   rw[bS]
   simp only
   rw[tT (by omega) (jC f (uat f j).1),if_pos ⟨fvj,y2⟩,bS]
   simp only
   rw[same fv,kp1,EO (fun _=>Option.isSome_some),EO (fun _=>Option.isSome_some),cF' _ (by rfl),cF' _ (decide_eq_false q),AaX f (uat f j).1,same fvij,EO (fun _=>Option.isSome_some)]
   rfl
 by_cases ft:Fit f u
 ·have gv:=ft.fv
  have vf:=Abu fv
  have vu:=zC uv
  have vi:=xM ft
  have mu:u∈ML f u:=wH.2 (.inr rfl)
  rw[if_pos ft]
  simp only
  rw[hfi,bS]
  simp only
  rw[AbL,bS,decide_eq_true ft,cF' _ (by rfl)]
  refine rest ?_
  rw[cT' _ (by rfl),tT (by omega),if_pos ⟨gv,_,mu,rfl⟩,bS]
  simp only
  rw[Abe ft,same fv,EO (fun _=>Option.isSome_some),yK (by omega) gv,EO (fun _=>Option.isSome_some),yK (by omega) fv,EO (fun _=>Option.isSome_some),kC (by omega) uv,show Ht u.2.2.2.1*(u.2.2.2.2.2-u.2.2.2.2.1)=wK u from rfl,EO (fun _=>Option.isSome_some),Option.getD_some,Option.getD_some,Option.getD_some,EO (fun _=>by unfold I64;omega),UZ (by omega),EO (fun _=>Option.isSome_some),zX (by omega) (by omega) ft,EO (fun _=>Option.isSome_some),vi,cF']
  rw[decide_eq_true gv,Option.getD_some,decide_eq_false (show¬wL f+wK u≠wL f+wK u by simp)]
  rfl
 ·rw[if_neg ft]
  simp only
  rw[hfi,bS]
  simp only
  rw[AbL,bS,decide_eq_false ft,cF' _ (by rfl)]
  exact rest (cF' _ (by rfl) _ _)
end Go.Proofs.YtciphecegkfaiaaGreat.Am
