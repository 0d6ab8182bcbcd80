import Derived.Test.YtciphecegkfaiaaGreatNC
import Derived.Test.YtciphecegkfaiaaGreatR6
namespace Go.Proofs.YtciphecegkfaiaaGreat.Am
set_option linter.unusedSimpArgs false
set_option linter.unusedVariables false
set_option linter.unusedSectionVars false
theorem xO {α:Type} {k j:Int} {x d:α} (h:j≠k):∀l:List (Int×α),CN (Fu l k x) j d=CN l j d
 |[]=>by simp only[Fu,CN,decide_eq_false (Ne.symm h),cond_false]
 |p::l=>by
  by_cases e:p.1=k
  ·simp only[Fu,decide_eq_true e,cond_true,CN,decide_eq_false (show¬p.1=j by omega),cond_false]
  ·simp only[Fu,decide_eq_false e,cond_false,CN,xO h l]
theorem zH {α:Type} {k j:Int} {x:α}:∀l:List (Int×α),Gs (Fu l k x) j=true↔j=k∨Gs l j=true
 |[]=>by simp only[Fu,Gs,Bool.or_false,decide_eq_true_eq,yF,or_false];exact eq_comm
 |p::l=>by
  by_cases e:p.1=k
  ·simp only[Fu,decide_eq_true e,cond_true,Gs,Bool.or_eq_true,decide_eq_true_eq,←or_assoc]
   rw[e,eq_comm (a:=j)];simp
  ·simp only[Fu,decide_eq_false e,cond_false,Gs,Bool.or_eq_true,decide_eq_true_eq,zH l]
   constructor
   ·rintro(h|h|h)<;>simp[h]
   ·rintro(h|h|h)<;>simp[h]
theorem yQ {α:Type} {k:Int} {x:α}:∀{l:List (Int×α)},k∈l.map (·.1)→(Fu l k x).map (·.1)=l.map (·.1)
 |[],h=>by cases h
 |p::l,h=>by
  by_cases e:p.1=k
  ·simp only[Fu,decide_eq_true e,cond_true,List.map_cons]
  ·simp only[Fu,decide_eq_false e,cond_false,List.map_cons]
   rw[List.map_cons] at h
   rcases List.mem_cons.1 h with h|h
   ·exact absurd h.symm e
   ·rw[yQ h]
theorem zI {α:Type} {k:Int} {x:α}:∀{l:List (Int×α)},k∉l.map (·.1)→Fu l k x=l++[(k,x)]
 |[],_=>rfl
 |p::l,h=>by
  rw[List.map_cons,List.mem_cons,not_or] at h
  simp only[Fu,decide_eq_false (Ne.symm h.1),cond_false,zI h.2,List.cons_append]
theorem xC {g:Int→Int} {k d:Int}:∀{l:List (Int×Int)},k∈l.map (·.1)→CN (l.map fun p=>(p.1,g p.1)) k d=g k
 |[],h=>by cases h
 |p::l,h=>by
  by_cases e:p.1=k
  ·rw[List.map_cons,CN,decide_eq_true e,cond_true,←e]
  ·rw[List.map_cons] at h
   rcases List.mem_cons.1 h with h|h
   ·exact absurd h.symm e
   ·simp only[List.map_cons,CN,decide_eq_false e,cond_false,xC h]
structure PM (ids:List Int) (l:List (Int×Int)):Prop where
 keys:l.map (·.1)=ids
 mem:∀k∈ids,CN l k 0∈ids
 le:∀k∈ids,CN l k 0≤k
def rt (l:List (Int×Int)) (a:Int):Int:=(BV (a.toNat+1) l a).getD 0
section
variable {ids:List Int} {l:List (Int×Int)} (h0:∀k∈ids,0≤k)
include h0
omit h0 in
theorem PM.step (h:PM ids l) {a:Int} (ha:a∈ids) (n:Nat):BV (n+1) l a=if CN l a 0=a then some a else BV n l (CN l a 0):=by
 rw[BV,YQ.2 (by rw[h.keys];exact ha),Bool.true_and]
 by_cases e:CN l a 0=a
 ·rw[if_pos e,decide_eq_false (by simpa using e)];rfl
 ·rw[if_neg e,decide_eq_true e];rfl
theorem PM.ex (h:PM ids l):∀(m:Nat) (a:Int),a∈ids→a.toNat<m→∃r,(∀N,a.toNat<N→BV N l a=some r)∧r∈ids∧r≤a∧CN l r 0=r
 |0,a,_,hm=>by omega
 |m+1,a,ha,hm=>by
  by_cases e:CN l a 0=a
  ·refine⟨a,fun N hN=> ?_,ha,Int.le_refl _,e⟩
   obtain⟨n,rfl⟩:∃n,N=n+1:=⟨N-1,by omega⟩
   rw[h.step ha,if_pos e]
  ·have k1:=h.mem a ha
   have k2:=h.le a ha
   have k3:=h0 _ k1
   obtain⟨r,r1,r2,r3,r4⟩:=PM.ex h m (CN l a 0) k1 (by omega)
   refine⟨r,fun N hN=> ?_,r2,by omega,r4⟩
   obtain⟨n,rfl⟩:∃n,N=n+1:=⟨N-1,by omega⟩
   rw[h.step ha,if_neg e]
   exact r1 n (by omega)
theorem PM.root (h:PM ids l) {a:Int} (ha:a∈ids):(∀N,a.toNat<N→BV N l a=some (rt l a))∧rt l a∈ids∧rt l a≤a∧CN l (rt l a) 0=rt l a:=by
 obtain⟨r,r1,r2⟩:=h.ex h0 (a.toNat+1) a ha (by omega)
 have e:rt l a=r:=by unfold rt;rw[r1 _ (by omega)];rfl
 rw[e]
 exact⟨r1,r2⟩
omit h0 in
theorem PM.fix (h:PM ids l) {a:Int} (ha:a∈ids) (e:CN l a 0=a):rt l a=a:=by
 unfold rt;rw[h.step ha,if_pos e];rfl
theorem PM.par (h:PM ids l) {a:Int} (ha:a∈ids) (e:CN l a 0≠a):rt l a=rt l (CN l a 0):=by
 have k1:=h.mem a ha
 have k2:=h.le a ha
 have k3:=h0 _ k1
 have:=(h.root h0 k1).1 a.toNat (by omega)
 unfold rt
 rw[h.step ha,if_neg e,this]
 rfl
theorem PM.union (h:PM ids l) {x y:Int} (hx:x∈ids) (hy:y∈ids) (fx:CN l x 0=x) (fy:CN l y 0=y):
  PM ids (Fu l (max x y) (min x y))∧∀z∈ids,rt (Fu l (max x y) (min x y)) z=if rt l z=max x y then min x y else rt l z:=by
 have hM:max x y∈ids:=by by_cases c:x≤y;rw[Int.max_eq_right c];exact hy;rw[Int.max_eq_left (by omega)];exact hx
 have hm:min x y∈ids:=by by_cases c:x≤y;rw[Int.min_eq_left c];exact hx;rw[Int.min_eq_right (by omega)];exact hy
 have AbW:CN l (max x y) 0=max x y:=by by_cases c:x≤y;rw[Int.max_eq_right c];exact fy;rw[Int.max_eq_left (by omega)];exact fx
 have fm:CN l (min x y) 0=min x y:=by by_cases c:x≤y;rw[Int.min_eq_left c];exact fx;rw[Int.min_eq_right (by omega)];exact fy
 have hle:min x y≤max x y:=by omega
 generalize max x y=M at*
 generalize min x y=m at*
 have g:∀z,CN (Fu l M m) z 0=if z=M then m else CN l z 0:=fun z=>by
  by_cases c:z=M
  ·rw[if_pos c,c,Qv]
  ·rw[if_neg c,xO c]
 have P:PM ids (Fu l M m):=⟨by rw[yQ (by rw[h.keys];exact hM),h.keys],fun z hz=>by rw[g];split;exact hm;exact h.mem z hz,fun z hz=>by rw[g];split;omega;exact h.le z hz⟩
 have gm:CN (Fu l M m) m 0=m:=by rw[g];split;rfl;exact fm
 refine⟨P, ?_⟩
 have key:∀(n:Nat) (z:Int),z∈ids→z.toNat<n→rt (Fu l M m) z=if rt l z=M then m else rt l z:=by
  intro n
  induction n with
  |zero=>intro z _ hn;omega
  |succ n ih=>
   intro z hz hn
   by_cases e:CN l z 0=z
   ·rw[h.fix hz e]
    by_cases c:z=M
    ·rw[if_pos c]
     by_cases c2:m=M
     ·rw[P.fix hz (by rw[g,if_pos c,c,c2])];omega
     ·rw[P.par h0 hz (by rw[g,if_pos c];omega),g,if_pos c,P.fix hm gm]
    ·rw[if_neg c,P.fix hz (by rw[g,if_neg c];exact e)]
   ·have c:z≠M:=fun c=>e (by rw[c];exact AbW)
    have k1:=h.mem z hz
    have k2:=h.le z hz
    have k3:=h0 _ k1
    rw[P.par h0 hz (by rw[g,if_neg c];exact e),g,if_neg c,ih _ k1 (by omega),←h.par h0 hz e]
 exact fun z hz=>key (z.toNat+1) z hz (by omega)
end
structure GR (ids:List Int) (P:List (Int×Int)) (R:Int→Int):Prop where
 mem:∀x∈ids,R x∈ids
 le:∀x∈ids,R x≤x
 idem:∀x∈ids,R (R x)=R x
 edge:∀e∈P,R e.1=R e.2
 univ:∀h:Int→Prop,(∀e∈P,h e.1↔h e.2)→∀x∈ids,h x↔h (R x)
theorem GR.start {ids:List Int} {R:Int→Int} (h:∀x∈ids,R x=x):GR ids [] R:=
 ⟨fun x hx=>by rw[h x hx];exact hx,fun x hx=>by rw[h x hx];exact Int.le_refl _,fun x hx=>by rw[h x hx,h x hx],fun e he=>(by cases he),fun g _ x hx=>by rw[h x hx]⟩
theorem GR.union {ids:List Int} {P:List (Int×Int)} {R R':Int→Int} (h:GR ids P R) {A B:Int} (hA:A∈ids) (hB:B∈ids) (hR:∀z∈ids,R' z=if R z=max (R A) (R B) then min (R A) (R B) else R z) (hP:∀e∈P,e.1∈ids∧e.2∈ids):GR ids (P++[(A,B)]) R':=by
 have Ab2:=h.mem A hA
 have Ab3:=h.mem B hB
 have AbY:=h.idem A hA
 have AbZ:=h.idem B hB
 have Ab4:=fun g k=>h.univ g k A hA
 have Ab5:=fun g k=>h.univ g k B hB
 have rm:min (R A) (R B)∈ids:=by by_cases c:R A≤R B;rw[Int.min_eq_left c];exact Ab2;rw[Int.min_eq_right (by omega)];exact Ab3
 have im:R (min (R A) (R B))=min (R A) (R B):=by by_cases c:R A≤R B;rw[Int.min_eq_left c];exact AbY;rw[Int.min_eq_right (by omega)];exact AbZ
 refine⟨fun z hz=> ?_,fun z hz=> ?_,fun z hz=> ?_,fun e he=> ?_,fun g hg z hz=> ?_⟩
 ·rw[hR z hz];split;exact rm;exact h.mem z hz
 ·have:=h.le z hz
  rw[hR z hz];split<;>omega
 ·rw[hR z hz]
  split
  ·rw[hR _ rm,im];split<;>rfl
  ·rename_i c
   rw[hR _ (h.mem z hz),h.idem z hz,if_neg c]
 ·rcases List.mem_append.1 he with he|he
  ·rw[hR _ (hP e he).1,hR _ (hP e he).2,h.edge e he]
  ·obtain rfl:=List.mem_singleton.1 he
   simp only
   rw[hR _ hA,hR _ hB]
   split<;>split<;>omega
 ·have k1:=fun e he=>hg e (List.mem_append_left _ he)
  have k2:=hg (A,B) (by simp)
  rw[h.univ g k1 z hz,hR z hz]
  split
  ·rename_i c
   rw[c]
   have a1:=Ab4 g k1
   have b1:=Ab5 g k1
   simp only at k2
   by_cases o:R A≤R B
   ·rw[Int.max_eq_right o,Int.min_eq_left o,←a1,←b1,k2]
   ·rw[Int.max_eq_left (by omega),Int.min_eq_right (by omega),←a1,←b1,k2]
  ·rfl
theorem GR.mono {ids ids':List Int} {P P':List (Int×Int)} {R R':Int→Int} (h:GR ids P R) (h':GR ids' P' R') (hP:∀e∈P,e∈P') {x y:Int} (hx:x∈ids) (hy:y∈ids) (e:R x=R y):R' x=R' y:=by
 have k:=fun c=>h.univ (fun z=>R' z=c) (fun e he=>by show R' e.1=c↔R' e.2=c;rw[h'.edge e (hP e he)])
 have k1:=(k (R' x) x hx).1 rfl
 have k2:=(k (R' y) y hy).1 rfl
 rw[←k1,←k2,e]
theorem GR.same {ids:List Int} {P P':List (Int×Int)} {R R':Int→Int} (h:GR ids P R) (h':GR ids P' R') (hP:∀e,e∈P↔e∈P') {x:Int} (hx:x∈ids):R x=R' x:=by
 have k1:=h.mono h' (fun e he=>(hP e).1 he) hx (h.mem x hx) (h.idem x hx).symm
 have k2:=h'.mono h (fun e he=>(hP e).2 he) hx (h'.mem x hx) (h'.idem x hx).symm
 have l1:=h'.le _ (h.mem x hx)
 have l2:=h.le _ (h'.mem x hx)
 omega
def edg (cs:List Ct):List (Int×Int):=cs.filterMap fun c=>if c.2.1= -1 then none else some (c.1,c.2.1)
structure CI (ids:List Int) (cs:List Ct):Prop where
 a:∀c∈cs,c.1∈ids
 b:∀c∈cs,c.2.1= -1∨c.2.1∈ids
theorem Abk {ids:List Int} {cs:List Ct} (h:CI ids cs):∀e∈edg cs,e.1∈ids∧e.2∈ids:=fun e he=>by
 obtain⟨c,hc,k⟩:=List.mem_filterMap.1 he
 split at k
 ·cases k
 ·obtain rfl:=yJ k
  exact⟨h.a c hc,(h.b c hc).resolve_left ‹_›⟩
theorem gL1 {us:List Un} (hl:us.length≤1000) (hn:(us.map (·.1)).Nodup):∀n i,i≤us.length→us.length<n+i→Nn us n (i:Nat) ((us.take i).map fun u=>(u.1,u.1))=some (us.map fun u=>(u.1,u.1))
 |0,i,h1,h2=>by omega
 |n+1,i,h1,h2=>by
  rw[Nn]
  by_cases e:i=us.length
  ·subst e;rw[dge,cF,List.take_length]
  ·have hi:i<us.length:=by omega
   rw[dlt hi,cT,GC hi,bS]
   simp only
   rw[Ab (by unfold I64;omega),zI,←ns]
   ·have:=gL1 hl hn n (i+1) (by omega) (by omega)
    rw[List.take_succ_eq_append_getElem hi,List.map_append,←Fr hi] at this
    exact this
   ·rw[List.map_map]
    intro hm
    obtain⟨u,hu,e⟩:=List.mem_map.1 hm
    obtain⟨k,hk,rfl⟩:=List.mem_take_iff_getElem.1 hu
    have hp:=List.pairwise_iff_getElem.1 hn k i (by rw[List.length_map];omega) (by rw[List.length_map];omega) (by omega)
    rw[List.getElem_map,List.getElem_map,←Fr hi] at hp
    exact hp e
section
variable {ids:List Int} (h0:∀k∈ids,0≤k∧k≤99) {N:Nat} (hN:1001≤N)
include h0 hN
theorem PM.rootN {l:List (Int×Int)} (h:PM ids l) {a:Int} (ha:a∈ids):BV N l a=some (rt l a):=
 (h.root (fun k hk=>(h0 k hk).1) ha).1 N (by have:=h0 a ha;omega)
theorem gL2 {cs:List Ct} (hc:cs.length≤1000) (hi:CI ids cs):∀n i l,i≤cs.length→cs.length<n+i→PM ids l→GR ids (edg (cs.take i)) (rt l)→∃l2,L0 N cs n (i:Nat) l=some l2∧PM ids l2∧GR ids (edg cs) (rt l2)
 |0,i,l,h1,h2,_,_=>by omega
 |n+1,i,l,h1,h2,hp,hg=>by
  rw[L0]
  by_cases e:i=cs.length
  ·subst e;rw[dge,cF];rw[List.take_length] at hg;exact⟨l,rfl,hp,hg⟩
  ·have hk:i<cs.length:=by omega
   have ca:=hi.a _ (List.getElem_mem hk)
   have cb:=hi.b _ (List.getElem_mem hk)
   have et:edg (cs.take (i+1))=edg (cs.take i)++(if cs[i].2.1= -1 then none else some (cs[i].1,cs[i].2.1)).toList:=by
    rw[List.take_succ_eq_append_getElem hk]
    unfold edg
    rw[List.filterMap_append,List.filterMap_cons,List.filterMap_nil]
    split<;>simp_all
   have hsub:CI ids (cs.take i):=⟨fun c hc=>hi.a c (List.mem_of_mem_take hc),fun c hc=>hi.b c (List.mem_of_mem_take hc)⟩
   rw[dlt hk,cT,Tq,List.getElem?_eq_getElem hk,bS]
   generalize cs[i]=c at*
   obtain⟨x1,x2,x3,x4,x5,x6,x7,x8⟩:=c
   simp only at ca cb et⊢
   by_cases g:x2= -1
   ·rw[cF' _ (by rw[decide_eq_true g];rfl),Ab (by unfold I64;omega),←ns]
    rw[if_pos g] at et
    refine gL2 hc hi n (i+1) l (by omega) (by omega) hp ?_
    rw[et,Option.toList_none,List.append_nil];exact hg
   ·have cb:=cb.resolve_left g
    have hz:=fun k hk=>(h0 k hk).1
    have ra:=hp.root hz ca
    have rb:=hp.root hz cb
    obtain⟨u1,u2⟩:=hp.union hz ra.2.1 rb.2.1 ra.2.2.2 rb.2.2.2
    rw[cT' _ (by rw[decide_eq_false g];rfl),hp.rootN h0 hN ca,bS,hp.rootN h0 hN cb,bS,Ab (by unfold I64;omega),←ns]
    rw[if_neg g] at et
    refine gL2 hc hi n (i+1) _ (by omega) (by omega) u1 ?_
    rw[et]
    exact hg.union ca cb u2 (Abk hsub)
theorem gL3 {l:List (Int×Int)} (hp:PM ids l):U5 N l=some (l.map fun p=>(p.1,rt l p.1)):=by
 have k:∀p∈l,BV N l p.1=some (rt l p.1):=fun p hp'=>hp.rootN h0 hN (by rw[←hp.keys];exact List.mem_map_of_mem hp')
 unfold U5
 rw[cT' _ (by rw[List.all_eq_true];intro p hp';rw[k p hp'];rfl)]
 congr 1
 exact List.map_congr_left fun p hp'=>by rw[k p hp'];rfl
omit h0 hN in
theorem gL4 {cs:List Ct} (hc:cs.length≤1000) (l:List (Int×Int)):∀n i g,i≤cs.length→cs.length<n+i→∃g2,Pi cs l n (i:Nat) g=some g2∧∀r,CN g2 r false=true↔CN g r false=true∨∃c∈cs.drop i,c.2.1= -1∧CN l c.1 0=r
 |0,i,g,h1,h2=>by omega
 |n+1,i,g,h1,h2=>by
  rw[Pi]
  by_cases e:i=cs.length
  ·subst e;rw[dge,cF,List.drop_length];exact⟨g,rfl,fun r=>by simp⟩
  ·have hk:i<cs.length:=by omega
   rw[dlt hk,cT,Tq,List.getElem?_eq_getElem hk,bS,List.drop_eq_getElem_cons hk]
   generalize cs[i]=c at*
   obtain⟨x1,x2,x3,x4,x5,x6,x7,x8⟩:=c
   simp only
   by_cases gg:x2= -1
   ·rw[cT' _ (decide_eq_true gg),Ab (by unfold I64;omega),←ns]
    obtain⟨g2,e1,e2⟩:=gL4 hc l n (i+1) (Fu g (CN l x1 0) true) (by omega) (by omega)
    refine⟨g2,e1,fun r=> ?_⟩
    rw[e2 r]
    by_cases q:r=CN l x1 0
    ·rw[q,Qv]
     exact⟨fun _=> .inr ⟨_,List.mem_cons_self,gg,rfl⟩,fun _=> .inl rfl⟩
    ·rw[xO q]
     refine or_congr Iff.rfl ⟨fun⟨c,c1,c2⟩=>⟨c,List.mem_cons_of_mem _ c1,c2⟩,fun⟨c,c1,c2,c3⟩=> ?_⟩
     rcases List.mem_cons.1 c1 with rfl|c1
     ·exact absurd c3.symm q
     ·exact⟨c,c1,c2,c3⟩
   ·rw[cF' _ (decide_eq_false gg),Ab (by unfold I64;omega),←ns]
    obtain⟨g2,e1,e2⟩:=gL4 hc l n (i+1) g (by omega) (by omega)
    refine⟨g2,e1,fun r=> ?_⟩
    rw[e2 r]
    refine or_congr Iff.rfl ⟨fun⟨c,c1,c2⟩=>⟨c,List.mem_cons_of_mem _ c1,c2⟩,fun⟨c,c1,c2,c3⟩=> ?_⟩
    rcases List.mem_cons.1 c1 with rfl|c1
    ·exact absurd c2 gg
    ·exact⟨c,c1,c2,c3⟩
end
section
variable {ids:List Int} {R:Int→Int} {gm:List (Int×Int)}
theorem AaG {us:List Un} {i:Nat} (hi:i<us.length):(us.map (·.1)).take (i+1)=(us.map (·.1)).take i++[(uat us i).1]:=by
 rw[List.take_succ_eq_append_getElem (by rw[List.length_map];exact hi),List.getElem_map,←Fr hi]
theorem Aa7 {us:List Un} (hl:us.length≤1000) (hm:∀x∈us.map (·.1),CN gm x 0=R x) (g:List (Int×Bool)):∀n i,i≤us.length→us.length<n+i→
  HI us gm g n (i:Nat) (((us.map (·.1)).take i).filter fun x=> !CN g (R x) false)=some ((us.map (·.1)).filter fun x=> !CN g (R x) false)
 |0,i,h1,h2=>by omega
 |n+1,i,h1,h2=>by
  rw[HI]
  by_cases e:i=us.length
  ·subst e;rw[dge,cF,List.take_of_length_le (by rw[List.length_map];exact Nat.le_refl _)]
  ·have hi:i<us.length:=by omega
   have ih:=Aa7 hl hm g n (i+1) (by omega) (by omega)
   have fl:=List.length_filter_le (fun x=> !CN g (R x) false) ((us.map (·.1)).take i)
   have tl:=List.length_take_le i (us.map (·.1))
   rw[AaG hi,List.filter_append,List.filter_cons,List.filter_nil] at ih
   rw[dlt hi,cT,GC hi,bS]
   simp only
   rw[hm _ (List.mem_map_of_mem (FO hi))]
   cases hg:CN g (R (uat us i).1) false with
   |true=>
    rw[hg,Bool.not_true,if_neg (by decide),List.append_nil] at ih
    rw[Bool.not_true,cF,Ab (by unfold I64;omega),←ns]
    exact ih
   |false=>
    rw[hg,Bool.not_false,if_pos rfl] at ih
    rw[Bool.not_false,cT,Ab (by omega),Ab (by unfold I64;omega),←ns]
    exact ih
def Ab0 (R:Int→Int) (p:List Int):List (List Int):=(p.filter fun x=>decide (R x=x)).map fun r=>p.filter fun x=>decide (R x=r)
theorem Aa8 {us:List Un} (hl:us.length≤1000) (hs:us.Pairwise fun u v=>u.1<v.1) (hm:∀x∈us.map (·.1),CN gm x 0=R x) {P:List (Int×Int)} (hR:GR (us.map (·.1)) P R):∀n i ix,i≤us.length→us.length<n+i→
  (∀r,Gs ix r=true↔r∈((us.map (·.1)).take i).filter fun x=>decide (R x=x))→(∀(j:Nat) r,(((us.map (·.1)).take i).filter fun x=>decide (R x=x))[j]? =some r→CN ix r 0=(j:Int))→
  HY us gm n (i:Nat) (Ab0 R ((us.map (·.1)).take i)) ix=some (Ab0 R (us.map (·.1)))
 |0,i,ix,h1,h2,_,_=>by omega
 |n+1,i,ix,h1,h2,hh,hx=>by
  rw[HY]
  by_cases e:i=us.length
  ·subst e;rw[dge,cF,List.take_of_length_le (by rw[List.length_map];exact Nat.le_refl _)]
  ·have hi:i<us.length:=by omega
   have ih:=fun ix a b=>Aa8 hl hs hm hR n (i+1) ix (by omega) (by omega) a b
   have hmem:(uat us i).1∈us.map (·.1):=List.mem_map_of_mem (FO hi)
   have tl:=List.length_take_le i (us.map (·.1))
   have plt:∀y∈(us.map (·.1)).take i,y<(uat us i).1:=fun y hy=>by
    rw[←List.map_take] at hy
    obtain⟨u,hu,rfl⟩:=List.mem_map.1 hy
    obtain⟨k,hk,rfl⟩:=List.mem_take_iff_getElem.1 hu
    rw[Fr hi]
    exact List.pairwise_iff_getElem.1 hs k i (by omega) hi (by omega)
   have pin:∀y∈us.map (·.1),y<(uat us i).1→y∈(us.map (·.1)).take i:=fun y hy hlt=>by
    obtain⟨u,hu,rfl⟩:=List.mem_map.1 hy
    obtain⟨k,hk,rfl⟩:=MI hu
    have:k<i:=by
     by_cases c:k<i
     ·exact c
     ·by_cases c2:k=i
      ·subst c2;omega
      ·have:=H9.1 hs i k (by omega) hk;omega
    rw[←List.map_take]
    exact List.mem_map_of_mem (List.mem_take_iff_getElem.2 ⟨k,by omega,(Fr hk).symm⟩)
   have pm:∀y∈(us.map (·.1)).take i,y∈us.map (·.1):=fun y hy=>List.mem_of_mem_take hy
   rw[AaG hi] at ih
   have lx:=hR.le _ hmem
   have mx:=hR.mem _ hmem
   have ixx:=hR.idem _ hmem
   rw[dlt hi,cT,GC hi,bS]
   simp only
   rw[hm _ hmem]
   generalize (us.map (·.1)).take i=p at*
   generalize (uat us i).1=x at*
   have jl:(Ab0 R p).length≤p.length:=by unfold Ab0;rw[List.length_map];exact List.length_filter_le _ _
   have pnd:x∉p:=fun hp=>by have:=plt x hp;omega
   by_cases c:R x=x
   ·have hno:Gs ix (R x)=false:=by
     rw[Bool.eq_false_iff];intro hq
     rw[c] at hq
     exact pnd (List.mem_filter.1 ((hh x).1 hq)).1
    have ef:(p++[x]).filter (fun x=>decide (R x=x))=(p.filter fun x=>decide (R x=x))++[x]:=by
     rw[List.filter_append,List.filter_cons,List.filter_nil,if_pos (decide_eq_true c)]
    have ej:Ab0 R (p++[x])=Ab0 R p++[[x]]:=by
     unfold Ab0
     rw[ef,List.map_append,List.map_cons,List.map_nil]
     congr 1
     ·refine List.map_congr_left fun r hr=> ?_
      have hr':=(List.mem_filter.1 hr).1
      rw[List.filter_append,List.filter_cons,List.filter_nil,if_neg (by rw[decide_eq_true_eq,c];intro q;rw[q] at pnd;exact pnd hr'),List.append_nil]
     ·congr 1
      rw[List.filter_append,List.filter_cons,List.filter_nil,if_pos (decide_eq_true c),List.filter_eq_nil_iff.2 fun y hy=> ?_]
      ·rfl
      ·have:=hR.le y (pm y hy)
       have:=plt y hy
       rw[decide_eq_true_eq];omega
    rw[hno,Bool.not_false,cT,Ab (by omega),Ab (by unfold I64;omega),←ns,←ej]
    refine ih _ (fun r=> ?_) (fun j r hj=> ?_)
    ·rw[ef,zH,hh r,c,List.mem_append,List.mem_singleton,or_comm]
    ·rw[ef] at hj
     have jlen:(Ab0 R p).length=(p.filter fun x=>decide (R x=x)).length:=by unfold Ab0;rw[List.length_map]
     by_cases cj:j<(p.filter fun x=>decide (R x=x)).length
     ·rw[List.getElem?_append_left cj] at hj
      have hr':=(List.mem_filter.1 (List.mem_of_getElem? hj)).1
      rw[c,xO (fun q=>by rw[q] at hr';exact pnd hr')]
      exact hx j r hj
     ·rw[List.getElem?_append_right (by omega)] at hj
      have:j-(p.filter fun x=>decide (R x=x)).length=0:=by
       cases hz:j-(p.filter fun x=>decide (R x=x)).length with
       |zero=>rfl
       |succ k=>rw[hz] at hj;simp at hj
      rw[this] at hj
      simp at hj
      rw[c,←hj,Qv,jlen]
      omega
   ·have hp:=pin _ mx (by omega)
    have hf:R x∈p.filter fun x=>decide (R x=x):=List.mem_filter.2 ⟨hp,decide_eq_true ixx⟩
    obtain⟨j,hj,hje⟩:=List.mem_iff_getElem.1 hf
    have hj':(p.filter fun x=>decide (R x=x))[j]? =some (R x):=by rw[List.getElem?_eq_getElem hj,hje]
    have nd:(p.filter fun x=>decide (R x=x)).Nodup→∀k,(p.filter fun x=>decide (R x=x))[k]? =some (R x)→k=j:=fun nd k hk=>by
     obtain⟨hk1,hk2⟩:=List.getElem?_eq_some_iff.1 hk
     exact(List.getElem_inj nd).1 (hk2.trans hje.symm)
    have ef:(p++[x]).filter (fun x=>decide (R x=x))=p.filter fun x=>decide (R x=x):=by
     rw[List.filter_append,List.filter_cons,List.filter_nil,if_neg (by rw[decide_eq_true_eq];exact c),List.append_nil]
    have hw:(Ab0 R p)[j]? =some (p.filter fun y=>decide (R y=R x)):=by unfold Ab0;rw[List.getElem?_map,hj'];rfl
    have uq:∀k,(p.filter fun x=>decide (R x=x))[k]? =some (R x)→k=j:=fun k hk=>by
     have a:=hx j _ hj'
     have b:=hx k _ hk
     omega
    have ej:Ab0 R (p++[x])=(Ab0 R p).set j ((p.filter fun y=>decide (R y=R x))++[x]):=by
     refine List.ext_getElem? fun k=> ?_
     rw[List.getElem?_set]
     unfold Ab0
     rw[ef,List.getElem?_map,List.getElem?_map,List.length_map]
     by_cases ck:j=k
     ·subst ck
      rw[if_pos rfl,if_pos hj,hj',Option.map_some,List.filter_append,List.filter_cons,List.filter_nil,if_pos (decide_eq_true rfl)]
     ·rw[if_neg ck]
      cases hk:(p.filter fun x=>decide (R x=x))[k]? with
      |none=>rfl
      |some r=>
       rw[Option.map_some,Option.map_some,List.filter_append,List.filter_cons,List.filter_nil,if_neg,List.append_nil]
       rw[decide_eq_true_eq]
       intro q
       exact ck (uq k (by rw[hk,q])).symm
    have fl:=List.length_filter_le (fun y=>decide (R y=R x)) p
    rw[(hh _).2 hf,Bool.not_true,cF,hx j _ hj',Tq,hw,bS,Ab (by omega),Ab (by unfold I64;omega),Int.toNat_natCast,←ns,←ej]
    refine ih _ (fun r=> ?_) (fun k r hk=> ?_)
    ·rw[ef];exact hh r
    ·rw[ef] at hk;exact hx k r hk
end
def wB (f:List Un):List Int:=f.map (·.1)
noncomputable def wU (f:List Un):List (Int×Int):=edg ((tY f).map SA)
def gdn (f:List Un) (R:Int→Int) (r:Int):Prop:=∃u∈f,(stO u).isSome=true∧R u.1=r
theorem FV.nd {f:List Un} (h:FV f):(wB f).Nodup:=by
 unfold wB
 rw[List.Nodup,List.pairwise_map]
 exact h.srt.imp fun h e=>by omega
theorem FV.id99 {f:List Un} (h:FV f):∀k∈wB f,0≤k∧k≤99:=fun k hk=>by
 obtain⟨u,hu,rfl⟩:=List.mem_map.1 hk
 exact(h.val u hu).a
theorem xJ {f:List Un} {c:Con}:c∈tY f↔(∃u∈f,stO u=some c)∨∃i k,i<k∧k<f.length∧tcO (uat f i) (uat f k)=some c:=by
 rw[←(uB f).mem_iff]
 unfold uA
 rw[List.mem_append,List.mem_filterMap,List.mem_filterMap]
 refine or_congr Iff.rfl ?_
 have h:(∀e∈DC f,(fun u v=>tcO u v≠some c) e.1 e.2)↔f.Pairwise fun u v=>tcO u v≠some c:=MJ (R:=fun u v=>tcO u v≠some c)
 rw[H9] at h
 constructor
 ·rintro⟨e,he,hc⟩
  exact Classical.byContradiction fun hn=>(h.2 fun i k hik hk q=>hn ⟨i,k,hik,hk,q⟩) e he hc
 ·rintro⟨i,k,hik,hk,hc⟩
  exact Classical.byContradiction fun hn=>(h.1 fun e he q=>hn ⟨e,he,q⟩) i k hik hk hc
theorem zJ {f:List Un} (h:FV f):CI (wB f) ((tY f).map SA):=by
 constructor
 ·intro c hc
  obtain⟨d,hd,rfl⟩:=List.mem_map.1 hc
  obtain⟨u,hu,e⟩:=uL hd
  exact List.mem_map.2 ⟨u,hu,e.symm⟩
 ·intro c hc
  obtain⟨d,hd,rfl⟩:=List.mem_map.1 hc
  rcases xJ.1 hd with⟨u,hu,e⟩|⟨i,k,hik,hk,e⟩
  ·exact .inl (uU e).2
  ·exact .inr (List.mem_map.2 ⟨_,FO hk,(tZ e).2.symm⟩)
theorem wN {f:List Un} (h:FV f):(tY f).length≤1000:=by
 have hl:=h.len
 have pl:=uH f
 have q:f.length*f.length≤12*12:=Nat.mul_le_mul hl hl
 have fl:=List.length_filterMap_le stO f
 have:=List.length_filterMap_le (fun e:Un×Un=>tcO e.1 e.2) (DC f)
 rw[←(uB f).length_eq]
 unfold uA;rw[List.length_append];omega
theorem Abl {f:List Un} (h:FV f) {R:Int→Int} {r:Int}:(∃c∈(tY f).map SA,c.2.1= -1∧R c.1=r)↔gdn f R r:=by
 constructor
 ·rintro⟨c,hc,c1,c2⟩
  obtain⟨d,hd,rfl⟩:=List.mem_map.1 hc
  rcases xJ.1 hd with⟨u,hu,e⟩|⟨i,k,hik,hk,e⟩
  ·exact⟨u,hu,by rw[e];rfl,by rw[←(uU e).1];exact c2⟩
  ·have:=(tZ e).2
   have:=h.id0 _ (FO hk)
   have c1:d.2.1= -1:=c1
   omega
 ·rintro⟨u,hu,u1,u2⟩
  obtain⟨c,hc⟩:=yX u1
  have k:=uU hc
  exact⟨SA c,List.mem_map_of_mem (xJ.2 (.inl ⟨u,hu,hc⟩)),k.2,by show R c.1=r;rw[k.1];exact u2⟩
open Classical in
theorem wY {N:Nat} (hN:1001≤N) {f:List Un} (h:FV f):∃R,GR (wB f) (wU f) R∧CE CA N f=some ((wB f).filter fun x=>decide (¬gdn f R (R x)))∧Dv CA N f=some (Ab0 R (wB f)):=by
 have hl:=h.len
 have hz:=fun k hk=>(h.id99 k hk).1
 have e1:=gL1 (us:=f) (by omega) h.nd N 0 (by omega) (by omega)
 rw[List.take_zero,List.map_nil,Int.natCast_zero] at e1
 have pm0:PM (wB f) (f.map fun u=>(u.1,u.1)):=by
  have g:∀k∈wB f,CN (f.map fun u:Un=>(u.1,u.1)) k 0=k:=fun k hk=>by
   have:=xC (g:=fun x=>x) (k:=k) (d:=0) (l:=f.map fun u=>(u.1,u.1)) (by rw[List.map_map];exact hk)
   rw[List.map_map] at this
   exact this
  exact⟨by rw[List.map_map];rfl,fun k hk=>by rw[g k hk];exact hk,fun k hk=>by rw[g k hk];exact Int.le_refl _⟩
 have g0:GR (wB f) (edg (((tY f).map SA).take 0)) (rt (f.map fun u=>(u.1,u.1))):=GR.start fun x hx=>by
  refine pm0.fix hx ?_
  have:=xC (g:=fun x=>x) (k:=x) (d:=0) (l:=f.map fun u=>(u.1,u.1)) (by rw[List.map_map];exact hx)
  rw[List.map_map] at this
  exact this
 have cl:=wN h
 obtain⟨l2,e2,p2,g2⟩:=gL2 h.id99 hN (cs:=(tY f).map SA) (by rw[List.length_map];exact cl) (zJ h) N 0 _ (by omega) (by rw[List.length_map];omega) pm0 g0
 rw[Int.natCast_zero] at e2
 have e3:=gL3 h.id99 hN p2
 obtain⟨g,e4,k4⟩:=gL4 (cs:=(tY f).map SA) (by rw[List.length_map];exact cl) (l2.map fun p=>(p.1,rt l2 p.1)) N 0 [] (by omega) (by rw[List.length_map];omega)
 rw[Int.natCast_zero] at e4
 have hm:∀x∈f.map (·.1),CN (l2.map fun p=>(p.1,rt l2 p.1)) x 0=rt l2 x:=fun x hx=>xC (g:=rt l2) (by rw[p2.keys];exact hx)
 have hg:∀r,CN g r false=true↔gdn f (rt l2) r:=fun r=>by
  rw[k4 r,←Abl h,List.drop_zero]
  constructor
  ·rintro(q|⟨c,c1,c2,c3⟩)
   ·cases q
   ·exact⟨c,c1,c2,by rw[←hm _ ((zJ h).a c c1)];exact c3⟩
  ·rintro⟨c,c1,c2,c3⟩
   exact .inr ⟨c,c1,c2,by rw[hm _ ((zJ h).a c c1)];exact c3⟩
 have gr:L1 CA N f=some (l2.map (fun p=>(p.1,rt l2 p.1)),g):=by
  unfold L1 CA
  rw[e1,bS,vQ hN h,Option.map_some,bS,e2,bS,e3,bS,e4,bS]
 refine⟨rt l2,g2, ?_, ?_⟩
 ·unfold CE
  have L:=Aa7 (R:=rt l2) (us:=f) (by omega) hm g N 0 (by omega) (by omega)
  rw[List.take_zero,List.filter_nil,Int.natCast_zero] at L
  rw[UZ hN,bS,decide_eq_true h,cF' _ (by rfl),gr,bS]
  refine L.trans (congrArg some (List.filter_congr fun x hx=> ?_))
  rw[Bool.eq_iff_iff,Bool.not_eq_true',decide_eq_true_eq,←hg,Bool.not_eq_true]
 ·unfold Dv
  have L:=Aa8 (R:=rt l2) (us:=f) (by omega) h.srt hm g2 N 0 [] (by omega) (by omega) (by simp[Gs]) (by simp)
  rw[List.take_zero,Int.natCast_zero] at L
  rw[UZ hN,bS,decide_eq_true h,cF' _ (by rfl),gr,bS]
  exact L
end Go.Proofs.YtciphecegkfaiaaGreat.Am
