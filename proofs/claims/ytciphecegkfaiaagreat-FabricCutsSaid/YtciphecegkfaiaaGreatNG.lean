import Derived.Test.YtciphecegkfaiaaGreatNC
import Derived.Test.YtciphecegkfaiaaGreatR6
namespace Go.Proofs.YtciphecegkfaiaaGreat.Am
set_option linter.unusedSimpArgs false
set_option linter.unusedVariables false
set_option linter.unusedSectionVars false
theorem xO {α:Type} {k j:Int} {x d:α} (h:j≠k):∀l:List (Int×α),CN (Fu l k x) j d=CN l j d
 |[]=>by simp only[Fu,CN,decide_eq_false (Ne.symm h),cond_false]
 |p::l=>by
  by_cases e:p.1=k
  ·simp only[Fu,decide_eq_true e,cond_true,CN,decide_eq_false (show¬p.1=j by omega),cond_false]
  ·simp only[Fu,decide_eq_false e,cond_false,CN,xO h l]
theorem yQ {α:Type} {k:Int} {x:α}:∀{l:List (Int×α)},k∈l.map (·.1)→(Fu l k x).map (·.1)=l.map (·.1)
 |[],h=>by cases h
 |p::l,h=>by
  by_cases e:p.1=k
  ·simp only[Fu,decide_eq_true e,cond_true,List.map_cons]
  ·simp only[Fu,decide_eq_false e,cond_false,List.map_cons]
   rw[List.map_cons] at h
   rcases List.mem_cons.1 h with h|h
   ·exact absurd h.symm e
   ·rw[yQ h]
structure PM (ids:List Int) (l:List (Int×Int)):Prop where
 keys:l.map (·.1)=ids
 mem:∀k∈ids,CN l k 0∈ids
 le:∀k∈ids,CN l k 0≤k
def rt (l:List (Int×Int)) (a:Int):Int:=(BV (a.toNat+1) l a).getD 0
section
variable {ids:List Int} {l:List (Int×Int)} (h0:∀k∈ids,0≤k)
include h0
omit h0 in
theorem PM.step (h:PM ids l) {a:Int} (ha:a∈ids) (n:Nat):BV (n+1) l a=if CN l a 0=a then some a else BV n l (CN l a 0):=by
 rw[BV,YQ.2 (by rw[h.keys];exact ha),Bool.true_and]
 by_cases e:CN l a 0=a
 ·rw[if_pos e,decide_eq_false (by simpa using e)];rfl
 ·rw[if_neg e,decide_eq_true e];rfl
theorem PM.ex (h:PM ids l):∀(m:Nat) (a:Int),a∈ids→a.toNat<m→∃r,(∀N,a.toNat<N→BV N l a=some r)∧r∈ids∧r≤a∧CN l r 0=r
 |0,a,_,hm=>by omega
 |m+1,a,ha,hm=>by
  by_cases e:CN l a 0=a
  ·refine⟨a,fun N hN=> ?_,ha,Int.le_refl _,e⟩
   obtain⟨n,rfl⟩:∃n,N=n+1:=⟨N-1,by omega⟩
   rw[h.step ha,if_pos e]
  ·have k1:=h.mem a ha
   have k2:=h.le a ha
   have k3:=h0 _ k1
   obtain⟨r,r1,r2,r3,r4⟩:=PM.ex h m (CN l a 0) k1 (by omega)
   refine⟨r,fun N hN=> ?_,r2,by omega,r4⟩
   obtain⟨n,rfl⟩:∃n,N=n+1:=⟨N-1,by omega⟩
   rw[h.step ha,if_neg e]
   exact r1 n (by omega)
theorem PM.root (h:PM ids l) {a:Int} (ha:a∈ids):(∀N,a.toNat<N→BV N l a=some (rt l a))∧rt l a∈ids∧rt l a≤a∧CN l (rt l a) 0=rt l a:=by
 obtain⟨r,r1,r2⟩:=h.ex h0 (a.toNat+1) a ha (by omega)
 have e:rt l a=r:=by unfold rt;rw[r1 _ (by omega)];rfl
 rw[e]
 exact⟨r1,r2⟩
omit h0 in
theorem PM.fix (h:PM ids l) {a:Int} (ha:a∈ids) (e:CN l a 0=a):rt l a=a:=by
 unfold rt;rw[h.step ha,if_pos e];rfl
theorem PM.par (h:PM ids l) {a:Int} (ha:a∈ids) (e:CN l a 0≠a):rt l a=rt l (CN l a 0):=by
 have k1:=h.mem a ha
 have k2:=h.le a ha
 have k3:=h0 _ k1
 have:=(h.root h0 k1).1 a.toNat (by omega)
 unfold rt
 rw[h.step ha,if_neg e,this]
 rfl
theorem PM.union (h:PM ids l) {x y:Int} (hx:x∈ids) (hy:y∈ids) (fx:CN l x 0=x) (fy:CN l y 0=y):
  PM ids (Fu l (max x y) (min x y))∧∀z∈ids,rt (Fu l (max x y) (min x y)) z=if rt l z=max x y then min x y else rt l z:=by
 have hM:max x y∈ids:=by by_cases c:x≤y;rw[Int.max_eq_right c];exact hy;rw[Int.max_eq_left (by omega)];exact hx
 have hm:min x y∈ids:=by by_cases c:x≤y;rw[Int.min_eq_left c];exact hx;rw[Int.min_eq_right (by omega)];exact hy
 have AbW:CN l (max x y) 0=max x y:=by by_cases c:x≤y;rw[Int.max_eq_right c];exact fy;rw[Int.max_eq_left (by omega)];exact fx
 have fm:CN l (min x y) 0=min x y:=by by_cases c:x≤y;rw[Int.min_eq_left c];exact fx;rw[Int.min_eq_right (by omega)];exact fy
 have hle:min x y≤max x y:=by omega
 generalize max x y=M at*
 generalize min x y=m at*
 have g:∀z,CN (Fu l M m) z 0=if z=M then m else CN l z 0:=fun z=>by
  by_cases c:z=M
  ·rw[if_pos c,c,Qv]
  ·rw[if_neg c,xO c]
 have P:PM ids (Fu l M m):=⟨by rw[yQ (by rw[h.keys];exact hM),h.keys],fun z hz=>by rw[g];split;exact hm;exact h.mem z hz,fun z hz=>by rw[g];split;omega;exact h.le z hz⟩
 have gm:CN (Fu l M m) m 0=m:=by rw[g];split;rfl;exact fm
 refine⟨P, ?_⟩
 have key:∀(n:Nat) (z:Int),z∈ids→z.toNat<n→rt (Fu l M m) z=if rt l z=M then m else rt l z:=by
  intro n
  induction n with
  |zero=>intro z _ hn;omega
  |succ n ih=>
   intro z hz hn
   by_cases e:CN l z 0=z
   ·rw[h.fix hz e]
    by_cases c:z=M
    ·rw[if_pos c]
     by_cases c2:m=M
     ·rw[P.fix hz (by rw[g,if_pos c,c,c2])];omega
     ·rw[P.par h0 hz (by rw[g,if_pos c];omega),g,if_pos c,P.fix hm gm]
    ·rw[if_neg c,P.fix hz (by rw[g,if_neg c];exact e)]
   ·have c:z≠M:=fun c=>e (by rw[c];exact AbW)
    have k1:=h.mem z hz
    have k2:=h.le z hz
    have k3:=h0 _ k1
    rw[P.par h0 hz (by rw[g,if_neg c];exact e),g,if_neg c,ih _ k1 (by omega),←h.par h0 hz e]
 exact fun z hz=>key (z.toNat+1) z hz (by omega)
end
structure GR (ids:List Int) (P:List (Int×Int)) (R:Int→Int):Prop where
 mem:∀x∈ids,R x∈ids
 le:∀x∈ids,R x≤x
 idem:∀x∈ids,R (R x)=R x
 edge:∀e∈P,R e.1=R e.2
 univ:∀h:Int→Prop,(∀e∈P,h e.1↔h e.2)→∀x∈ids,h x↔h (R x)
theorem GR.union {ids:List Int} {P:List (Int×Int)} {R R':Int→Int} (h:GR ids P R) {A B:Int} (hA:A∈ids) (hB:B∈ids) (hR:∀z∈ids,R' z=if R z=max (R A) (R B) then min (R A) (R B) else R z) (hP:∀e∈P,e.1∈ids∧e.2∈ids):GR ids (P++[(A,B)]) R':=by
 have Ab2:=h.mem A hA
 have Ab3:=h.mem B hB
 have AbY:=h.idem A hA
 have AbZ:=h.idem B hB
 have Ab4:=fun g k=>h.univ g k A hA
 have Ab5:=fun g k=>h.univ g k B hB
 have rm:min (R A) (R B)∈ids:=by by_cases c:R A≤R B;rw[Int.min_eq_left c];exact Ab2;rw[Int.min_eq_right (by omega)];exact Ab3
 have im:R (min (R A) (R B))=min (R A) (R B):=by by_cases c:R A≤R B;rw[Int.min_eq_left c];exact AbY;rw[Int.min_eq_right (by omega)];exact AbZ
 refine⟨fun z hz=> ?_,fun z hz=> ?_,fun z hz=> ?_,fun e he=> ?_,fun g hg z hz=> ?_⟩
 ·rw[hR z hz];split;exact rm;exact h.mem z hz
 ·have:=h.le z hz
  rw[hR z hz];split<;>omega
 ·rw[hR z hz]
  split
  ·rw[hR _ rm,im];split<;>rfl
  ·rename_i c
   rw[hR _ (h.mem z hz),h.idem z hz,if_neg c]
 ·rcases List.mem_append.1 he with he|he
  ·rw[hR _ (hP e he).1,hR _ (hP e he).2,h.edge e he]
  ·obtain rfl:=List.mem_singleton.1 he
   simp only
   rw[hR _ hA,hR _ hB]
   split<;>split<;>omega
 ·have k1:=fun e he=>hg e (List.mem_append_left _ he)
  have k2:=hg (A,B) (by simp)
  rw[h.univ g k1 z hz,hR z hz]
  split
  ·rename_i c
   rw[c]
   have a1:=Ab4 g k1
   have b1:=Ab5 g k1
   simp only at k2
   by_cases o:R A≤R B
   ·rw[Int.max_eq_right o,Int.min_eq_left o,←a1,←b1,k2]
   ·rw[Int.max_eq_left (by omega),Int.min_eq_right (by omega),←a1,←b1,k2]
  ·rfl
theorem GR.mono {ids ids':List Int} {P P':List (Int×Int)} {R R':Int→Int} (h:GR ids P R) (h':GR ids' P' R') (hP:∀e∈P,e∈P') {x y:Int} (hx:x∈ids) (hy:y∈ids) (e:R x=R y):R' x=R' y:=by
 have k:=fun c=>h.univ (fun z=>R' z=c) (fun e he=>by show R' e.1=c↔R' e.2=c;rw[h'.edge e (hP e he)])
 have k1:=(k (R' x) x hx).1 rfl
 have k2:=(k (R' y) y hy).1 rfl
 rw[←k1,←k2,e]
theorem GR.same {ids:List Int} {P P':List (Int×Int)} {R R':Int→Int} (h:GR ids P R) (h':GR ids P' R') (hP:∀e,e∈P↔e∈P') {x:Int} (hx:x∈ids):R x=R' x:=by
 have k1:=h.mono h' (fun e he=>(hP e).1 he) hx (h.mem x hx) (h.idem x hx).symm
 have k2:=h'.mono h (fun e he=>(hP e).2 he) hx (h'.mem x hx) (h'.idem x hx).symm
 have l1:=h'.le _ (h.mem x hx)
 have l2:=h.le _ (h'.mem x hx)
 omega
structure CI (ids:List Int) (cs:List Ct):Prop where
 a:∀c∈cs,c.1∈ids
 b:∀c∈cs,c.2.1= -1∨c.2.1∈ids
section
variable {ids:List Int} (h0:∀k∈ids,0≤k∧k≤99) {N:Nat} (hN:1001≤N)
include h0 hN
end
section
variable {ids:List Int} {R:Int→Int} {gm:List (Int×Int)}
end
def wB (f:List Un):List Int:=f.map (·.1)
theorem FV.nd {f:List Un} (h:FV f):(wB f).Nodup:=by
 unfold wB
 rw[List.Nodup,List.pairwise_map]
 exact h.srt.imp fun h e=>by omega
theorem wN {f:List Un} (h:FV f):(tY f).length≤1000:=by
 have hl:=h.len
 have pl:=uH f
 have q:f.length*f.length≤12*12:=Nat.mul_le_mul hl hl
 have fl:=List.length_filterMap_le stO f
 have:=List.length_filterMap_le (fun e:Un×Un=>tcO e.1 e.2) (DC f)
 rw[←(uB f).length_eq]
 unfold uA;rw[List.length_append];omega
end Go.Proofs.YtciphecegkfaiaaGreat.Am
