import Derived.Test.YtciphecegkfaiaaGreatNC
import Derived.Test.YtciphecegkfaiaaGreatMI
import Derived.Test.YtciphecegkfaiaaGreatL3
namespace Go.Proofs.YtciphecegkfaiaaGreat.Am
set_option linter.unusedSimpArgs false
set_option linter.unusedVariables false
set_option linter.unusedSectionVars false
theorem AaL {u v:Un} {c:Con} (h:tcO u v=some c):∃s,IX u.2.2.2.1 v.2.2.2.1=some s∧apart u.2.2.2.1 v.2.2.2.1∧max u.2.2.2.2.1 v.2.2.2.2.1<min u.2.2.2.2.2 v.2.2.2.2.2∧c=(u.1,v.1,s,max u.2.2.2.2.1 v.2.2.2.2.1,min u.2.2.2.2.2 v.2.2.2.2.2):=by
 obtain⟨h1,rfl⟩:=vA h
 obtain⟨e,h2,h3⟩:=vP h1
 rw[e]
 unfold Gj at h2⊢
 split at h2
 ·rename_i ha
  rw[if_pos ha]
  cases hs:IX u.2.2.2.1 v.2.2.2.1 with
  |none=>rw[hs] at h2;cases h2
  |some s=>exact⟨s,rfl,ha,h3,rfl⟩
 ·cases h2
theorem AaM {u v:Un} {s:Pt×Pt} (h1:IX u.2.2.2.1 v.2.2.2.1=some s) (h2:apart u.2.2.2.1 v.2.2.2.1) (h3:max u.2.2.2.2.1 v.2.2.2.2.1<min u.2.2.2.2.2 v.2.2.2.2.2):tcO u v=some (u.1,v.1,s,max u.2.2.2.2.1 v.2.2.2.2.1,min u.2.2.2.2.2 v.2.2.2.2.2):=by
 unfold tcO tcS W5 Gj
 rw[if_pos h3,if_pos h2,h1]
 rfl
def Aap (c:Con):Con:=(c.2.1,c.1,(c.2.2.1.2,c.2.2.1.1),c.2.2.2)
theorem wM {u v:Un} (hu:UV u) (hv:UV v) {c:Con} (h:tcO u v=some c):tcO v u=some (Aap c):=by
 obtain⟨s,h1,h2,h3,rfl⟩:=AaL h
 have h4:=vM hu.l hv.l h2
 rw[h1] at h4
 rw[AaM h4 h2.symm (by rw[Int.max_comm,Int.min_comm];exact h3),Int.max_comm,Int.min_comm]
 rfl
theorem zK {u v:Un} (hu:UV u) (hv:UV v) {c:Con} (h:tcO u v=some c):SeamOK u.2.2.2.1 v.2.2.2.1 c.2.2.1∧SeamOK v.2.2.2.1 u.2.2.2.1 (c.2.2.1.2,c.2.2.1.1):=by
 have key:∀{u v:Un},UV u→UV v→∀{c:Con},tcO u v=some c→SeamOK u.2.2.2.1 v.2.2.2.1 c.2.2.1:=fun {u v} hu hv {c} h=>by
  obtain⟨s,h1,h2,h3,rfl⟩:=AaL h
  obtain⟨j,t,hj,ht,hc⟩:=UO h1
  exact(bG hu.l hv.l h2 hj ht hc).1
 exact⟨key hu hv h,key hv hu (wM hu hv h)⟩
theorem AaN {l:List Pt} (h:VP l) {p:Pt} (hc:clo l p):On p:=by
 have k:=fun u w=>ME (u:=u) (w:=w) h hc
 have k1:=k (0,0) (0,1) fun q hq=>by have:=h.on q hq;unfold On at this;unfold trn;simp;omega
 have k2:=k (40,0) (40,-1) fun q hq=>by have:=h.on q hq;unfold On at this;unfold trn;simp;omega
 have k3:=k (0,0) (-1,0) fun q hq=>by have:=h.on q hq;unfold On at this;unfold trn;simp;omega
 have k4:=k (0,40) (1,40) fun q hq=>by have:=h.on q hq;unfold On at this;unfold trn;simp;omega
 unfold trn at k1 k2 k3 k4
 simp at k1 k2 k3 k4
 unfold On;omega
theorem SeamOK.ends {a b:List Pt} (ha:VP a) {s:Pt×Pt} (h:SeamOK a b s):On s.1∧On s.2:=by
 have hb:btw s.1 s.2 s.1∧btw s.1 s.2 s.2:=by
  rcases KI s.1 s.2 with q|q
  ·exact⟨.inl ⟨Gk _,q⟩,.inl ⟨q,Gk _⟩⟩
  ·exact⟨.inr ⟨q,Gk _⟩,.inr ⟨Gk _,q⟩⟩
 exact⟨AaN ha ((h.on s.1).2 ⟨FI _ _,hb.1⟩).1.1,AaN ha ((h.on s.2).2 ⟨Et _ _,hb.2⟩).1.1⟩
def wI (c:Con):Option (Int×Int):=if c.2.2.1.1.1<c.2.2.1.2.1 then some (c.1,c.2.1) else if c.2.2.1.2.1<c.2.2.1.1.1 then some (c.2.1,c.1) else none
noncomputable def wG (f:List Un):List (Int×Int):=MN leP ((tY f).filterMap wI)
theorem Acd (N:Nat) {cs:List Con} (hc:cs.length≤1000):∀n i l,i≤cs.length→cs.length<n+i→l.length≤i→EP N cs n (i:Nat) l=some (l++(cs.drop i).filterMap wI)
 |0,i,l,h1,h2,_=>by omega
 |n+1,i,l,h1,h2,h3=>by
  rw[EP]
  by_cases e:i=cs.length
  ·subst e;rw[dge,cF,List.drop_length];simp
  ·have hi:i<cs.length:=by omega
   rw[dlt hi,cT,Tq,List.getElem?_eq_getElem hi,bS,List.drop_eq_getElem_cons hi,List.filterMap_cons]
   generalize cs[i]=c
   obtain⟨c1,c2,⟨⟨c3,c4⟩,c5,c6⟩,c7,c8⟩:=c
   simp only[wI]
   rw[JT,bS]
   by_cases k1:c3<c5
   ·rw[if_pos k1,cT' _ (by rfl),if_pos k1,Ab (by omega),Ab (by unfold I64;omega),←ns,Acd N hc n (i+1) _ (by omega) (by omega) (by simp;omega),List.append_assoc]
    rfl
   ·rw[if_neg k1,if_neg k1]
    by_cases k2:c5<c3
    ·rw[if_pos k2,cF' _ (by rfl),cT' _ (by rfl),if_pos k2,Ab (by omega),Ab (by unfold I64;omega),←ns,Acd N hc n (i+1) _ (by omega) (by omega) (by simp;omega),List.append_assoc]
     rfl
    ·rw[if_neg k2,cF' _ (by rfl),cF' _ (by rfl),if_neg k2,Ab (by unfold I64;omega),←ns,Acd N hc n (i+1) _ (by omega) (by omega) (by omega)]
theorem xD {f:List Un} (h:FV f):(tY f).length≤1000:=by
 have hl:=h.len
 have pl:=uH f
 have q:f.length*f.length≤12*12:=Nat.mul_le_mul hl hl
 have fl:=List.length_filterMap_le stO f
 have:=List.length_filterMap_le (fun e:Un×Un=>tcO e.1 e.2) (DC f)
 rw[←(uB f).length_eq]
 unfold uA;rw[List.length_append];omega
theorem wZ {N:Nat} (hN:1001≤N) (f:List Un):Co N f=some (if FV f then wG f else[]):=by
 unfold Co
 rw[UZ hN,bS]
 by_cases h:FV f
 ·have L:=Acd N (xD h) N 0 [] (by omega) (by have:=xD h;omega) (by simp)
  have len:=List.length_filterMap_le wI (tY f)
  have cl:=xD h
  rw[Int.natCast_zero,List.drop_zero,List.nil_append] at L
  rw[decide_eq_true h,cF' _ (by rfl),vQ hN h,bS,L,bS,Ab (by omega),if_pos h,cD]
  rfl
 ·rw[decide_eq_false h,cT' _ (by rfl),if_neg h]
theorem wJ {f:List Un} {c:Con}:c∈tY f↔(∃u∈f,stO u=some c)∨∃i k,i<k∧k<f.length∧tcO (uat f i) (uat f k)=some c:=by
 rw[←(uB f).mem_iff]
 unfold uA
 rw[List.mem_append,List.mem_filterMap,List.mem_filterMap]
 refine or_congr Iff.rfl ?_
 have h:(∀e∈DC f,(fun u v=>tcO u v≠some c) e.1 e.2)↔f.Pairwise fun u v=>tcO u v≠some c:=MJ (R:=fun u v=>tcO u v≠some c)
 rw[H9] at h
 constructor
 ·rintro⟨e,he,hc⟩
  exact Classical.byContradiction fun hn=>(h.2 fun i k hik hk q=>hn ⟨i,k,hik,hk,q⟩) e he hc
 ·rintro⟨i,k,hik,hk,hc⟩
  exact Classical.byContradiction fun hn=>(h.1 fun e he q=>hn ⟨e,he,q⟩) i k hik hk hc
theorem xI {f:List Un} (h:FV f) {c:Con}:c∈tY f↔(∃u∈f,stO u=some c)∨∃u∈f,∃v∈f,u.1<v.1∧tcO u v=some c:=by
 rw[wJ]
 refine or_congr Iff.rfl ⟨?_, ?_⟩
 ·rintro⟨i,k,hik,hk,e⟩
  exact⟨_,FO (by omega),_,FO hk,H9.1 h.srt i k hik hk,e⟩
 ·rintro⟨u,hu,v,hv,hlt,e⟩
  obtain⟨i,hi,rfl⟩:=MI hu
  obtain⟨k,hk,rfl⟩:=MI hv
  refine⟨i,k, ?_,hk,e⟩
  by_cases c1:i<k
  ·exact c1
  ·have:=Sj h (show k≤i by omega) hi;omega
theorem yC {u:Un} (h:UV u) {c:Con} (hc:stO u=some c):wI c=some (u.1,-1):=by
 obtain⟨i,hi⟩:∃i,gnd u.2.2.2.1 i:=Classical.byContradiction fun hn=>by
  rw[vK fun i hi=>hn ⟨i,hi⟩] at hc;cases hc
 rw[vJ h hi] at hc
 obtain rfl:=yJ hc
 have:=(Ny h.l (fun x hx=>(h.l.on x hx).2.1) hi.1 hi.2.1 hi.2.2).1
 unfold wI
 rw[if_pos this]
theorem wO {c:Con} {p:Int×Int} (h:wI c=some p):p=(c.1,c.2.1)∨p=(c.2.1,c.1):=by
 unfold wI at h
 split at h
 ·exact .inl (yJ h).symm
 ·split at h
  ·exact .inr (yJ h).symm
  ·cases h
theorem xT {f:List Un} (h:FV f) {c:Con} (hc:c∈tY f):0≤c.1∧(c.2.1= -1∨c.1<c.2.1):=by
 rcases wJ.1 hc with⟨u,hu,e⟩|⟨i,k,hik,hk,e⟩
 ·have:=uU e
  have:=h.id0 u hu
  exact⟨by omega,.inl (by omega)⟩
 ·have k1:=tZ e
  have:=h.id0 _ (FO (f:=f) (k:=i) (by omega))
  have:=H9.1 h.srt i k hik hk
  exact⟨by omega,.inr (by omega)⟩
theorem AaP {f:List Un} (h:FV f):((tY f).filterMap wI).Nodup:=by
 have hs:=uM h.srt h.id0
 refine List.Pairwise.filterMap wI (R:=fun c d:Con=>c∈tY f∧d∈tY f∧ltK c d) ?_ (hs.imp_of_mem fun hc hd h=>⟨hc,hd,h⟩)
 rintro c d ⟨hc,hd,hlt⟩ p hp q hq e
 subst e
 have k1:=xT h hc
 have k2:=xT h hd
 unfold ltK at hlt
 rcases wO hp with r|r<;>rcases wO hq with s|s<;>rw[r] at s<;>simp only[Prod.mk.injEq] at s<;>omega
theorem wP (f:List Un):(wG f).Perm ((tY f).filterMap wI):=MO leP _
theorem yD {f:List Un} (h:FV f):(wG f).Nodup:=(wP f).nodup_iff.2 (AaP h)
def wW (x y:Int×Int):Prop:=x.1<y.1∨x.1=y.1∧x.2<y.2
theorem Aaq {l:List (Int×Int)} (h:l.Nodup) (hs:l.Pairwise fun a b=>leP a b=true):l.Pairwise wW:=by
 refine(h.and hs).imp ?_
 rintro a b ⟨h1,h2⟩
 rw[Q4] at h2
 unfold wW
 have:¬(a.1=b.1∧a.2=b.2):=fun e=>h1 (Prod.ext e.1 e.2)
 omega
theorem xU {f:List Un} (h:FV f):(wG f).Pairwise wW:=Aaq (yD h) (TL jH bY _)
theorem xE {f:List Un} {p:Int×Int}:p∈wG f↔∃c∈tY f,wI c=some p:=by
 rw[(wP f).mem_iff,List.mem_filterMap]
theorem zL {f:List Un} (h:FV f) {i k:Nat} (hi:i<f.length) (hk:k<f.length) (hne:i≠k):((uat f i).1,(uat f k).1)∈wG f↔∃c,tcO (uat f i) (uat f k)=some c∧c.2.2.1.1.1<c.2.2.1.2.1:=by
 have ui:=h.val _ (FO hi)
 have uk:=h.val _ (FO hk)
 have pi:=h.id0 _ (FO hi)
 have pk:=h.id0 _ (FO hk)
 rw[xE]
 constructor
 ·rintro⟨c,hc,e⟩
  rcases wJ.1 hc with⟨u,hu,es⟩|⟨a,b,hab,hb,es⟩
  ·rw[yC (h.val u hu) es] at e
   simp at e;omega
  ·have k1:=tZ es
   rcases wO e with q|q
   ·simp only[Prod.mk.injEq] at q
    have ea:=h.uniq hi (show a<f.length by omega) (by omega)
    have eb:=h.uniq hk hb (by omega)
    subst ea eb
    refine⟨c,es, ?_⟩
    unfold wI at e
    split at e
    ·assumption
    ·split at e
     ·simp only[yE,Prod.mk.injEq] at e
      have:=H9.1 h.srt i k hab hb
      omega
     ·cases e
   ·simp only[Prod.mk.injEq] at q
    have ea:=h.uniq hi hb (by omega)
    have eb:=h.uniq hk (show a<f.length by omega) (by omega)
    subst ea eb
    refine⟨Aap c,wM uk ui es, ?_⟩
    unfold wI at e
    split at e
    ·simp only[yE,Prod.mk.injEq] at e
     have:=H9.1 h.srt k i hab hb
     omega
    ·split at e
     ·assumption
     ·cases e
 ·rintro⟨c,hc,hlt⟩
  have k1:=tZ hc
  by_cases o:i<k
  ·refine⟨c,wJ.2 (.inr ⟨i,k,o,hk,hc⟩), ?_⟩
   unfold wI
   rw[if_pos hlt,k1.1,k1.2]
  ·refine⟨Aap c,wJ.2 (.inr ⟨k,i,by omega,hi,wM ui uk hc⟩), ?_⟩
   unfold wI Aap
   simp only
   rw[if_neg (by omega),if_pos hlt,k1.1,k1.2]
theorem Aa3 {f:List Un} (h:FV f) {i:Nat} (hi:i<f.length):((uat f i).1,-1)∈wG f↔(stO (uat f i)).isSome=true:=by
 rw[xE]
 constructor
 ·rintro⟨c,hc,e⟩
  rcases wJ.1 hc with⟨u,hu,es⟩|⟨a,b,hab,hb,es⟩
  ·rw[yC (h.val u hu) es] at e
   obtain⟨k,hk,rfl⟩:=MI hu
   simp at e
   have:=h.uniq hi hk (by omega)
   subst this
   rw[es];rfl
  ·have k1:=tZ es
   have:=h.id0 _ (FO (f:=f) (k:=a) (by omega))
   have:=h.id0 _ (FO hb)
   rcases wO e with q|q<;>simp only[Prod.mk.injEq] at q<;>omega
 ·intro hs
  obtain⟨c,hc⟩:=yX hs
  exact⟨c,wJ.2 (.inl ⟨_,FO hi,hc⟩),yC (h.val _ (FO hi)) hc⟩
theorem Aar {f:List Un} (h:FV f) {p:Int×Int} (hp:p∈wG f):p.1≠-1:=by
 obtain⟨c,hc,e⟩:=xE.1 hp
 rcases wJ.1 hc with⟨u,hu,es⟩|⟨a,b,hab,hb,es⟩
 ·rw[yC (h.val u hu) es] at e
  have:=h.id0 u hu
  obtain rfl:=yJ e
  simp only;omega
 ·have k1:=tZ es
  have:=h.id0 _ (FO (f:=f) (k:=a) (by omega))
  have:=h.id0 _ (FO hb)
  rcases wO e with q|q<;>rw[q]<;>simp only<;>omega
theorem Aa4 {f:List Un} (h:FV f) {x:Int}:(x,x)∉wG f:=fun hp=>by
 obtain⟨c,hc,e⟩:=xE.1 hp
 have k:=xT h hc
 rcases wO e with q|q<;>simp only[Prod.mk.injEq] at q<;>omega
def cn (r:List (Int×Int)) (p:Int×Int) (i:Nat):Int:=(((r.take i).count p:Nat):Int)
theorem AbC (r:List (Int×Int)) (p:Int×Int) (i:Nat):0≤cn r p i∧cn r p i≤i:=by
 have h1:=List.count_le_length (a:=p) (l:=r.take i)
 have h2:=List.length_take_le i r
 unfold cn;omega
theorem Abn {r:List (Int×Int)} {i:Nat} (hi:i<r.length) (p:Int×Int):cn r p (i+1)=cn r p i+if r[i]=p then 1 else 0:=by
 unfold cn
 rw[List.take_succ_eq_append_getElem hi,List.count_append,List.count_singleton]
 by_cases h:r[i]=p
 ·simp[h]
 ·simp[h]
theorem zM {r:List (Int×Int)} (hr:r.length≤1000) {i:Nat} (hi:i<r.length) (a b:Int):(bif decide (r[i].1=a)&&decide (r[i].2=b) then gd (I64 (cn r (a,b) i+1)) (some (cn r (a,b) i+1)) else some (cn r (a,b) i))=some (cn r (a,b) (i+1)):=by
 have b1:=AbC r (a,b) i
 rw[Abn hi]
 by_cases h:r[i]=(a,b)
 ·rw[cT' _ (by rw[h];simp),Ab (by unfold I64;omega),if_pos h]
 ·rw[cF' _ (by rw[Bool.eq_false_iff,Ne,Bool.and_eq_true,decide_eq_true_eq,decide_eq_true_eq];exact fun e=>h (Prod.ext e.1 e.2)),if_neg h,Int.add_zero]
theorem zN {r:List (Int×Int)} (hn:r.Nodup) (p:Int×Int):cn r p r.length=if p∈r then 1 else 0:=by
 unfold cn
 rw[List.take_length]
 by_cases h:p∈r
 ·rw[if_pos h,hn.count,if_pos h];rfl
 ·rw[if_neg h,List.count_eq_zero_of_not_mem h];rfl
theorem zO (N:Nat) {r:List (Int×Int)} (hr:r.length≤1000) (hs:r.Pairwise wW) (hf:∀p∈r,p.1≠-1) (a b:Int):∀n i,i≤r.length→r.length<n+i→
  DY N r a b n (cn r (a,b) i) (cn r (b,a) i) (cn r (a,-1) i) (i:Nat)=some (.inl (cn r (a,b) r.length,cn r (b,a) r.length,cn r (a,-1) r.length))
 |0,i,h1,h2=>by omega
 |n+1,i,h1,h2=>by
  rw[DY]
  by_cases e:i=r.length
  ·subst e;rw[dge,cF]
  ·have hi:i<r.length:=by omega
   have b1:=zM hr hi a b
   have b2:=zM hr hi b a
   have b3:=zM hr hi a (-1)
   have h1:=hf _ (List.getElem_mem hi)
   have em:(max ((i:Int)-1) 0).toNat=i-1:=by omega
   have hp:0<i→wW (r.getD (i-1) (0,0)) r[i]:=fun h0=>by
    rw[List.getD_eq_getElem?_getD,List.getElem?_eq_getElem (by omega)]
    exact List.pairwise_iff_getElem.1 hs (i-1) i (by omega) hi (by omega)
   rw[dlt hi,cT,Tq,List.getElem?_eq_getElem hi,bS,em]
   generalize r[i]=q at*
   generalize r.getD (i-1) (0,0)=w at*
   obtain⟨x,y⟩:=q
   simp only at b1 b2 b3 h1 hp⊢
   rw[b1,bS,b2,bS,b3,bS,EO (fun _=>by unfold I64;omega),EO (fun h=>by rw[decide_eq_true_eq] at h;omega),EO (fun _=>by unfold I64;omega),EO (fun h=>by omega),EO (fun _=>by unfold I64;omega),EO (fun h=>by omega),cF',Ab (by unfold I64;omega),←ns]
   ·exact zO N hr hs hf a b n (i+1) (by omega) (by omega)
   ·rw[Bool.or_eq_false_iff]
    refine⟨decide_eq_false h1, ?_⟩
    by_cases h0:0<i
    ·have:=hp h0
     unfold wW at this
     simp only at this
     rw[Bool.and_eq_false_iff]
     refine .inr ?_
     rw[Bool.or_eq_false_iff,Bool.and_eq_false_iff,decide_eq_false_iff_not,decide_eq_false_iff_not,decide_eq_false_iff_not]
     omega
    ·rw[decide_eq_false (show¬(0:Int)<(i:Int) by omega)];rfl
theorem xV (N:Nat) {l:List Pt} (hl:l.length≤1000) (hs:∀p∈l,Sml p) {P Q:Pt} (hP:Sml P) (hQ:Sml Q) (hc:∀p∈l,(P.1<Q.1→trn P Q p≤0)∧(Q.1<P.1→0≤trn P Q p)):∀n (i:Nat),i≤l.length→l.length<n+i→
  DZ N l Q.1 P.1 P.2 Q.2 n i=some (.inl ())
 |0,i,h1,h2=>by omega
 |n+1,i,h1,h2=>by
  rw[DZ]
  by_cases e:i=l.length
  ·subst e;rw[dge,cF]
  ·have hi:i<l.length:=by omega
   have sp:=hs _ (AA hi)
   have cp:=hc _ (AA hi)
   have tb:=UM hP hQ sp
   have m1:=W4 (x:=Q.1-P.1) (y:=(pa l i).2-P.2+2000) (A:=2000) (B:=4000) (by unfold Sml at*;omega) (by unfold Sml at*;omega) (by omega)
   have m2:=W4 (x:=Q.2-P.2) (y:=(pa l i).1-P.1+2000) (A:=2000) (B:=4000) (by unfold Sml at*;omega) (by unfold Sml at*;omega) (by omega)
   rw[Int.mul_add] at m1 m2
   unfold trn at tb cp
   unfold Sml at sp hP hQ
   rw[dlt hi,cT,C5 hi,bS]
   simp only
   rw[Ab (by unfold I64;omega),Ab (by unfold I64;omega),Ab (by unfold I64;omega),Ab (by unfold I64;omega),Ab (by unfold I64;omega),Ab (by unfold I64;omega),Ab (by unfold I64;omega),cF',Ab (by unfold I64;omega),←ns]
   ·exact xV N hl hs hP hQ hc n (i+1) (by omega) (by omega)
   ·rw[Bool.or_eq_false_iff,Bool.and_eq_false_iff,Bool.and_eq_false_iff,decide_eq_false_iff_not,decide_eq_false_iff_not,decide_eq_false_iff_not,decide_eq_false_iff_not]
    omega
theorem xP {f:List Un} (h:0<f.length) (c:Int):∃i:Nat,pk c f.length=i∧i<f.length:=by
 have:= @HW c f.length (by omega)
 exact⟨(pk c f.length).toNat,by omega,by omega⟩
theorem AaQ (x:List (Int×Int×Int×Int×Int×Int)) (which other:Int) (hx:I6 x) (h1:I64 which) (h2:I64 other):Hr 2000 x which other=some true:=by
 unfold Hr
 obtain⟨f,hf,fv⟩:=WD (N:=2000) (by omega) hx
 rw[jI,bS,cF' _ (by rfl),hf,bS,wZ (by omega),bS,if_pos fv]
 by_cases h0:f.length=0
 ·obtain rfl:=List.eq_nil_of_length_eq_zero h0
  rw[cT' _ (by rfl),vR (by omega),if_pos fv]
  rfl
 obtain⟨i,ei,hi⟩:=xP (show 0<f.length by omega) which
 obtain⟨k,ek,hk⟩:=xP (show 0<f.length by omega) other
 have ui:=fv.val _ (FO hi)
 have uk:=fv.val _ (FO hk)
 have hn:=yD fv
 have rl:(wG f).length≤1000:=by
  have:=List.length_filterMap_le wI (tY f)
  have:=xD fv
  rw[(wP f).length_eq];omega
 have L:=zO 2000 rl (xU fv) (fun p hp=>Aar fv hp) (uat f i).1 (uat f k).1 2000 0 (by omega) (by omega)
 rw[show cn (wG f) ((uat f i).1,(uat f k).1) 0=0 from rfl,show cn (wG f) ((uat f k).1,(uat f i).1) 0=0 from rfl,show cn (wG f) ((uat f i).1,-1) 0=0 from rfl,Int.natCast_zero,zN hn,zN hn,zN hn] at L
 rw[cF' _ (decide_eq_false (by omega)),lpk h1 (by omega),bS,ei,GC hi,bS]
 simp only
 rw[lpk h2 (by omega),bS,ek,GC hk,bS]
 simp only
 rw[L,bS]
 simp only
 rw[vL (by omega) ui,bS]
 have hg:=Aa3 fv hi
 have key:∀(c:Con) (b:Bool),b=(stO (uat f i)).isSome→(match(c,b) with|((r134,r135,((r136,r137),(r138,r139)),r140,r141),r142)=>((r142 !=(decide ((if((uat f i).1,(-1:Int))∈wG f then(1:Int) else 0)=1)))||(decide (1<(if((uat f i).1,(-1:Int))∈wG f then(1:Int) else 0)))))=false:=by
  rintro c b rfl
  obtain⟨c1,c2,⟨⟨c3,c4⟩,c5,c6⟩,c7,c8⟩:=c
  simp only
  by_cases q:((uat f i).1,-1)∈wG f
  ·rw[if_pos q,hg.1 q];rfl
  ·rw[if_neg q,show(stO (uat f i)).isSome=false by rw[Bool.eq_false_iff];exact fun h=>q (hg.2 h)];rfl
 have rest:∀r:Option Bool,(match(match stO (uat f i) with|some c=>(c,true)|none=>(kD,false)) with|((r134,r135,((r136,r137),(r138,r139)),r140,r141),r142)=>bif (r142 !=(decide ((if((uat f i).1,(-1:Int))∈wG f then(1:Int) else 0)=1)))||(decide (1<(if((uat f i).1,(-1:Int))∈wG f then(1:Int) else 0))) then some false else r)=r:=fun r=>by
  cases hs:stO (uat f i) with
  |none=>
   have:=key kD false (by rw[hs];rfl)
   exact cF' _ this _ _
  |some c=>
   have:=key c true (by rw[hs];rfl)
   obtain⟨c1,c2,⟨⟨c3,c4⟩,c5,c6⟩,c7,c8⟩:=c
   exact cF' _ this _ _
 refine(rest _).trans ?_
 by_cases hne:i=k
 ·subst hne
  rw[cT' _ (decide_eq_true rfl),if_neg (Aa4 fv)]
  rfl
 have idne:(uat f i).1≠(uat f k).1:=fun e=>hne (fv.uniq hi hk e)
 have ab:=zL fv hi hk hne
 have ba:=zL fv hk hi (Ne.symm hne)
 rw[cF' _ (decide_eq_false idne),vS (by omega) ui uk,bS]
 cases ht:tcO (uat f i) (uat f k) with
 |none=>
  have ht':tcO (uat f k) (uat f i)=none:=by
   cases q:tcO (uat f k) (uat f i) with
   |none=>rfl
   |some c=>have:=wM uk ui q;rw[ht] at this;cases this
  rw[if_neg (fun h=>by obtain⟨c,hc,_⟩:=ab.1 h;rw[ht] at hc;cases hc),if_neg (fun h=>by obtain⟨c,hc,_⟩:=ba.1 h;rw[ht'] at hc;cases hc)]
  rfl
 |some c=>
  have ht':=wM ui uk ht
  obtain⟨s1,s2⟩:=zK ui uk ht
  have en:=s1.ends ui.l
  have ab':((uat f i).1,(uat f k).1)∈wG f↔c.2.2.1.1.1<c.2.2.1.2.1:=by
   rw[ab]
   exact⟨fun⟨d,hd,h⟩=>by rw[ht] at hd;obtain rfl:=yJ hd;exact h,fun h=>⟨c,ht,h⟩⟩
  have ba':((uat f k).1,(uat f i).1)∈wG f↔c.2.2.1.2.1<c.2.2.1.1.1:=by
   rw[ba]
   exact⟨fun⟨d,hd,h⟩=>by rw[ht'] at hd;obtain rfl:=yJ hd;exact h,fun h=>⟨_,ht',h⟩⟩
  clear ht ht' ab ba
  obtain⟨c1,c2,⟨⟨c3,c4⟩,c5,c6⟩,c7,c8⟩:=c
  simp only at s1 s2 en ab' ba'⊢
  by_cases v:c3=c5
  ·rw[cT' _ (by rw[decide_eq_true v];rfl),if_neg fun h=>by have:=ab'.1 h;omega,if_neg fun h=>by have:=ba'.1 h;omega]
   rfl
  rw[cF' _ (by rw[decide_eq_false v];rfl)]
  have sw:∀q,trn (c5,c6) (c3,c4) q= -trn (c3,c4) (c5,c6) q:=fun q=>I9 _ _ _
  by_cases o:c3<c5
  ·rw[if_pos (ab'.2 o),if_neg fun h=>by have:=ba'.1 h;omega,Ab (by unfold I64;omega),cF' _ (by rfl),cT' _ (by rfl),bS]
   simp only
   have:=xV 2000 (l:=(uat f k).2.2.2.1) (P:=(c3,c4)) (Q:=(c5,c6)) (by have:=uk.l.l8;omega) uk.l.sml en.1.sml en.2.sml (fun q hq=>⟨fun _=>by have:=s2.left q hq;simp only at this;rw[sw] at this;omega,fun h=>by simp only at h;omega⟩) 2000 0 (by omega) (by have:=uk.l.l8;omega)
   rw[Int.natCast_zero] at this
   rw[this,bS]
  ·rw[if_neg fun h=>o (ab'.1 h),if_pos (ba'.2 (by omega)),Ab (by unfold I64;omega),cF' _ (by rfl),cF' _ (by rfl),bS]
   simp only
   have:=xV 2000 (l:=(uat f i).2.2.2.1) (P:=(c3,c4)) (Q:=(c5,c6)) (by have:=ui.l.l8;omega) ui.l.sml en.1.sml en.2.sml (fun q hq=>⟨fun h=>by simp only at h;omega,fun _=>s1.left q hq⟩) 2000 0 (by omega) (by have:=ui.l.l8;omega)
   rw[Int.natCast_zero] at this
   rw[this,bS]
end Go.Proofs.YtciphecegkfaiaaGreat.Am
