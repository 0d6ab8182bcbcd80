import Derived.Test.YtciphecegkfaiaaGreatN4
import Derived.Test.YtciphecegkfaiaaGreatU3
import Derived.Test.YtciphecegkfaiaaGreatNS
namespace Go.Proofs.YtciphecegkfaiaaGreat.Am
set_option linter.unusedSimpArgs false
set_option linter.unusedVariables false
set_option linter.unusedSectionVars false
noncomputable def tcS (u v:Un):Con×Bool:=W5 u.1 v.1 u.2.2.2.1 v.2.2.2.1 u.2.2.2.2.1 u.2.2.2.2.2 v.2.2.2.2.1 v.2.2.2.2.2
noncomputable def tcO (u v:Un):Option Con:=bif (tcS u v).2 then some (tcS u v).1 else none
theorem vO {u v:Un} (h:(tcS u v).2=false):tcS u v=(kD,false):=by
 unfold tcS W5 at*
 split at h
 ·rename_i c
  rw[if_pos c]
  cases hs:(Gj u.2.2.2.1 v.2.2.2.1).2 with
  |true=>rw[hs,cT] at h;cases h
  |false=>rfl
 ·rename_i c;rw[if_neg c]
theorem vP {u v:Un} (h:(tcS u v).2=true):(tcS u v).1=(u.1,v.1,(Gj u.2.2.2.1 v.2.2.2.1).1,max u.2.2.2.2.1 v.2.2.2.2.1,min u.2.2.2.2.2 v.2.2.2.2.2)∧(Gj u.2.2.2.1 v.2.2.2.1).2=true∧max u.2.2.2.2.1 v.2.2.2.2.1<min u.2.2.2.2.2 v.2.2.2.2.2:=by
 unfold tcS W5 at*
 split at h
 ·rename_i c
  rw[if_pos c]
  cases hs:(Gj u.2.2.2.1 v.2.2.2.1).2 with
  |true=>exact⟨rfl,rfl,c⟩
  |false=>rw[hs,cF] at h;cases h
 ·cases h
theorem vA {u v:Un} {c:Con} (h:tcO u v=some c):(tcS u v).2=true∧c=(tcS u v).1:=by
 unfold tcO at h
 cases hs:(tcS u v).2 with
 |true=>rw[hs,cT] at h;exact⟨rfl,(yJ h).symm⟩
 |false=>rw[hs,cF] at h;cases h
theorem tZ {u v:Un} {c:Con} (h:tcO u v=some c):c.1=u.1∧c.2.1=v.1:=by
 obtain⟨h1,rfl⟩:=vA h
 rw[(vP h1).1]
 exact⟨rfl,rfl⟩
def gnd (l:List Pt) (i:Nat):Prop:=i<l.length∧((pa l i).2=0∧(pa l ((i+1)%l.length)).2=0)
theorem vC {l:List Pt} (h:VP l) {i k:Nat} (hi:gnd l i) (hk:gnd l k):i=k:=by
 have hy:∀p∈l,0≤p.2:=fun x hx=>(h.on x hx).2.1
 have l3:=h.l3
 have g:=(Ny h hy hi.1 hi.2.1 hi.2.2).2
 by_cases e:k=i
 ·exact e.symm
 ·by_cases e1:k=(i+1)%l.length
  ·by_cases e2:(k+1)%l.length=i
   ·exfalso
    rw[e1] at e2
    by_cases e3:i+1<l.length
    ·rw[Nat.mod_eq_of_lt e3] at e2
     by_cases e4:i+1+1<l.length
     ·rw[Nat.mod_eq_of_lt e4] at e2;omega
     ·rw[show i+1+1=l.length by omega,Nat.mod_self] at e2;omega
    ·have hi':=hi.1
     rw[show i+1=l.length by omega,Nat.mod_self,Nat.mod_eq_of_lt (by omega)] at e2;omega
   ·have:=g ((k+1)%l.length) (Nat.mod_lt _ (by omega)) e2 (by
     intro e3
     rw[←e1] at e3
     have hk':=hk.1
     by_cases e4:k+1<l.length
     ·rw[Nat.mod_eq_of_lt e4] at e3;omega
     ·rw[show k+1=l.length by omega,Nat.mod_self] at e3;omega)
    have:=hk.2.2
    omega
  ·have:=g k hk.1 e e1
   have:=hk.2.1
   omega
open Classical in
noncomputable def stO (u:Un):Option Con:=if h:∃i,gnd u.2.2.2.1 i then some (u.1,-1,(pa u.2.2.2.1 (Classical.choose h),pa u.2.2.2.1 ((Classical.choose h+1)%u.2.2.2.1.length)),u.2.2.2.2.1,u.2.2.2.2.2) else none
theorem vJ {u:Un} (h:UV u) {i:Nat} (hi:gnd u.2.2.2.1 i):stO u=some (u.1,-1,(pa u.2.2.2.1 i,pa u.2.2.2.1 ((i+1)%u.2.2.2.1.length)),u.2.2.2.2.1,u.2.2.2.2.2):=by
 have hx:∃i,gnd u.2.2.2.1 i:=⟨i,hi⟩
 unfold stO
 rw[dif_pos hx,vC h.l (Classical.choose_spec hx) hi]
theorem vK {u:Un} (h:∀i,¬gnd u.2.2.2.1 i):stO u=none:=by
 unfold stO
 rw[dif_neg fun⟨i,hi⟩=>h i hi]
theorem uU {u:Un} {c:Con} (h:stO u=some c):c.1=u.1∧c.2.1= -1:=by
 unfold stO at h
 split at h
 ·obtain rfl:=yJ h;exact⟨rfl,rfl⟩
 ·cases h
theorem vL {N:Nat} (hN:100≤N) {u:Un} (h:UV u):Dl N u.1 u.2.1 u.2.2.1 u.2.2.2.1 u.2.2.2.2.1 u.2.2.2.2.2=some (match stO u with|some c=>(c,true)|none=>(kD,false)):=by
 rcases U9 hN h with⟨e,hn⟩|⟨i,hi,hc,e⟩
 ·rw[e,vK fun i hi=>hn i hi.1 hi.2];rfl
 ·rw[e,vJ h ⟨hi,hc⟩]
theorem vS {N:Nat} (hN:1001≤N) {u v:Un} (h:UV u) (h':UV v):Eg N u.1 u.2.1 u.2.2.1 u.2.2.2.1 u.2.2.2.2.1 u.2.2.2.2.2 v.1 v.2.1 v.2.2.1 v.2.2.2.1 v.2.2.2.2.1 v.2.2.2.2.2=some (match tcO u v with|some c=>(c,true)|none=>(kD,false)):=by
 rw[nN hN h h']
 congr 1
 show tcS u v=_
 unfold tcO
 cases hs:(tcS u v).2 with
 |true=>rw[cT];exact Prod.ext rfl hs
 |false=>rw[cF];exact vO hs
noncomputable def uA (f:List Un):List Con:=f.filterMap stO++(DC f).filterMap fun e=>tcO e.1 e.2
noncomputable def tY:List Un→List Con
 |[]=>[]
 |u::r=>(stO u).toList++(r.filterMap (tcO u)++tY r)
theorem uB:∀f:List Un,(uA f).Perm (tY f)
 |[]=> .refl _
 |u::r=>by
  have ih:=uB r
  unfold uA at ih⊢
  have e1:(u::r).filterMap stO=(stO u).toList++r.filterMap stO:=by
   rw[List.filterMap_cons];cases stO u<;>rfl
  have e2:(DC (u::r)).filterMap (fun e=>tcO e.1 e.2)=r.filterMap (tcO u)++(DC r).filterMap fun e=>tcO e.1 e.2:=by
   rw[DC,List.filterMap_append,List.filterMap_map];rfl
  rw[e1,e2,tY,List.append_assoc]
  refine List.Perm.append_left _ ?_
  rw[←List.append_assoc]
  exact((List.perm_append_comm).append_right _).trans (by rw[List.append_assoc];exact List.Perm.append_left _ ih)
theorem uL {f:List Un} {c:Con} (h:c∈tY f):∃u∈f,c.1=u.1:=by
 induction f with
 |nil=>cases h
 |cons u r ih=>
  rw[tY] at h
  rcases List.mem_append.1 h with h|h
  ·cases hs:stO u with
   |none=>rw[hs] at h;cases h
   |some d=>
    rw[hs] at h
    have:c=d:=by simpa using h
    rw[this]
    exact⟨u,List.mem_cons_self,(uU hs).1⟩
  ·rcases List.mem_append.1 h with h|h
   ·obtain⟨v,hv,hc⟩:=List.mem_filterMap.1 h
    exact⟨u,List.mem_cons_self,(tZ hc).1⟩
   ·obtain⟨v,hv,e⟩:=ih h
    exact⟨v,List.mem_cons_of_mem _ hv,e⟩
def ltK (x y:Con):Prop:=x.1<y.1∨x.1=y.1∧x.2.1<y.2.1
theorem uM:∀{f:List Un},f.Pairwise (fun u v=>u.1<v.1)→(∀u∈f,0≤u.1)→(tY f).Pairwise ltK
 |[],_,_=>List.Pairwise.nil
 |u::r,h,h0=>by
  rw[List.pairwise_cons] at h
  have ih:=uM h.2 fun v hv=>h0 v (List.mem_cons_of_mem _ hv)
  rw[tY,List.pairwise_append,List.pairwise_append]
  refine⟨?_,⟨?_,ih,fun a ha b hb=> ?_⟩,fun a ha b hb=> ?_⟩
  ·cases stO u<;>simp
  ·refine List.Pairwise.filterMap (tcO u) (R:=fun u v=>u.1<v.1) ?_ h.2
   intro v w hvw c hc d hd
   have k1:=tZ hc
   have k2:=tZ hd
   exact .inr ⟨by omega,by omega⟩
  ·obtain⟨v,hv,hc⟩:=List.mem_filterMap.1 ha
   obtain⟨w,hw,e⟩:=uL hb
   have k1:=tZ hc
   have:=h.1 w hw
   exact .inl (by omega)
  ·cases hs:stO u with
   |none=>rw[hs] at ha;cases ha
   |some d=>
    rw[hs] at ha
    have e:a=d:=by simpa using ha
    have k:=uU hs
    rw[e]
    rcases List.mem_append.1 hb with hb|hb
    ·obtain⟨v,hv,hc⟩:=List.mem_filterMap.1 hb
     have k1:=tZ hc
     have:=h0 v (List.mem_cons_of_mem _ hv)
     exact .inr ⟨by omega,by omega⟩
    ·obtain⟨w,hw,e⟩:=uL hb
     have:=h.1 w hw
     exact .inl (by omega)
theorem uX {l:List Con} (h:l.Pairwise ltK):(l.map fun c=>(c.1,c.2.1)).Nodup:=by
 rw[List.Nodup,List.pairwise_map]
 refine h.imp fun {a b} h e=> ?_
 unfold ltK at h
 simp only[Prod.mk.injEq] at e
 omega
theorem FV.id0 {f:List Un} (h:FV f):∀u∈f,0≤u.1:=fun u hu=>(h.val u hu).a.1
theorem uY {f:List Un} (h:FV f):((uA f).map fun c=>(c.1,c.2.1)).Nodup∧N4 (uA f)=tY f:=by
 have hs:=uM h.srt h.id0
 have hn:((uA f).map fun c=>(c.1,c.2.1)).Nodup:=((uB f).map _).nodup_iff.2 (uX hs)
 refine⟨hn, ?_⟩
 rw[cC hn]
 refine List.Perm.eq_of_pairwise (le:=fun a b=>leN a b=true) (fun a b ha hb h1 h2=> ?_) (TL jG bX _) (hs.imp fun {a b} h=> ?_) ((MO leN _).trans (uB f))
 ·have ha':=(MO leN (uA f)).mem_iff.1 ha
  have hb':=(uB f).mem_iff.2 hb
  rw[Pc] at h1 h2
  exact bZ hn ha' hb' (by omega) (by omega)
 ·unfold ltK at h
  rw[Pc];omega
section
variable {N:Nat} (hN:1001≤N)
include hN
theorem uN {f:List Un} (h:FV f):∀n i (l:List Con),i≤f.length→f.length<n+i→l.length≤i→D0 N f n i l=some (l++(f.drop i).filterMap stO)
 |0,i,l,h1,h2,_=>by omega
 |n+1,i,l,h1,h2,h3=>by
  have hl:=h.len
  rw[D0]
  by_cases e:i=f.length
  ·subst e;rw[dge,cF,List.drop_length];simp
  ·have hi:i<f.length:=by omega
   rw[dlt hi,cT,GC hi,bS]
   simp only
   rw[vL (by omega) (h.val _ (FO hi)),bS,List.drop_eq_getElem_cons hi,List.filterMap_cons,←Fr hi]
   cases hs:stO (uat f i) with
   |none=>
    simp only[kD]
    rw[cF,Ab (by unfold I64;omega),←ns]
    exact uN h n (i+1) l (by omega) (by omega) (by omega)
   |some c=>
    obtain⟨c1,c2,⟨⟨c3,c4⟩,c5,c6⟩,c7,c8⟩:=c
    simp only
    rw[cT,Ab (by omega),Ab (by unfold I64;omega),←ns,uN h n (i+1) _ (by omega) (by omega) (by simp;omega),List.append_assoc]
    rfl
theorem uO:∀(ys:List (Un×Un)) (l:List Con),(∀e∈ys,UV e.1∧UV e.2)→l.length+ys.length≤1000→Dj N ys l=some (l++ys.filterMap fun e=>tcO e.1 e.2)
 |[],l,_,_=>by rw[Dj];simp
 |((y29,y30,y31,y32,y33,y34),(y35,y36,y37,y38,y39,y40))::ys,l,h,hl=>by
  have hu:=h _ List.mem_cons_self
  have ht:=vS hN hu.1 hu.2
  rw[List.length_cons] at hl
  simp only at ht
  rw[Dj,ht,bS,List.filterMap_cons]
  cases hs:tcO (y29,y30,y31,y32,y33,y34) (y35,y36,y37,y38,y39,y40) with
  |none=>
   simp only[kD]
   rw[cF]
   exact uO ys l (fun e he=>h e (List.mem_cons_of_mem _ he)) (by omega)
  |some c=>
   obtain⟨c1,c2,⟨⟨c3,c4⟩,c5,c6⟩,c7,c8⟩:=c
   simp only
   rw[cT,Ab (by omega),uO ys _ (fun e he=>h e (List.mem_cons_of_mem _ he)) (by rw[List.length_append,List.length_singleton];omega),List.append_assoc]
   rfl
omit hN in
theorem uH {α:Type}:∀l:List α,(DC l).length≤l.length*l.length
 |[]=>by simp[DC]
 |u::r=>by
  have:=uH r
  rw[DC,List.length_append,List.length_map,List.length_cons,Nat.add_mul,Nat.mul_add]
  omega
omit hN in
theorem uI {α:Type} {P:α→Prop}:∀{l:List α},(∀u∈l,P u)→∀e∈DC l,P e.1∧P e.2
 |[],_,e,he=>by simp[DC] at he
 |u::r,h,e,he=>by
  rw[DC] at he
  rcases List.mem_append.1 he with he|he
  ·obtain⟨v,hv,rfl⟩:=List.mem_map.1 he
   exact⟨h u List.mem_cons_self,h v (List.mem_cons_of_mem _ hv)⟩
  ·exact uI (fun v hv=>h v (List.mem_cons_of_mem _ hv)) e he
theorem vQ {f:List Un} (h:FV f):Dr N f=some (tY f):=by
 have hl:=h.len
 have pl:=uH f
 have q:f.length*f.length≤12*12:=Nat.mul_le_mul hl hl
 have e1:=uN hN h N 0 [] (by omega) (by omega) (by simp)
 have fl:=List.length_filterMap_le stO f
 rw[Int.natCast_zero,List.drop_zero,List.nil_append] at e1
 unfold Dr
 rw[e1,bS,Ab (by omega),uO hN (DC f) _ (uI h.val) (by omega),bS]
 have rl:(uA f).length≤1000:=by
  have:=List.length_filterMap_le (fun e:Un×Un=>tcO e.1 e.2) (DC f)
  unfold uA;rw[List.length_append];omega
 rw[show f.filterMap stO++(DC f).filterMap (fun e=>tcO e.1 e.2)=uA f from rfl,Ab (by omega),Ab (uY h).1,(uY h).2]
theorem vR (f:List Un):Bi N f=some (if FV f then tY f else[]):=by
 unfold Bi
 rw[UZ hN,bS]
 by_cases h:FV f
 ·rw[decide_eq_true h,cF' _ (by rfl),vQ hN h,bS,if_pos h]
 ·rw[decide_eq_false h,cT' _ (by rfl),if_neg h]
end
end Go.Proofs.YtciphecegkfaiaaGreat.Am
