import Derived.Test.YtciphecegkfaiaaGreatD8
import Derived.Test.YtciphecegkfaiaaGreatP3
import Derived.Test.YtciphecegkfaiaaGreatDR
namespace Go.Proofs.YtciphecegkfaiaaGreat.Am
set_option linter.unusedSimpArgs false
set_option linter.unusedVariables false
theorem cT' {α:Type} (b:Bool) (h:b=true) (x y:α):(bif b then x else y)=x:=by subst h;rfl
theorem cF' {α:Type} (b:Bool) (h:b=false) (x y:α):(bif b then x else y)=y:=by subst h;rfl
theorem bS' {α β:Type} (o:Option α) (a:α) (h:o=some a) (f:α→Option β):o.bind f=f a:=by subst h;rfl
theorem cT {α:Type} (x y:α):(bif true then x else y)=x:=cT' _ rfl x y
theorem cF {α:Type} (x y:α):(bif false then x else y)=y:=cF' _ rfl x y
theorem bS {α β:Type} (a:α) (f:α→Option β):(some a).bind f=f a:=bS' _ a rfl f
theorem OX {β:Type} {L:Nat→Int→Option (Sum Unit β)} {len:Nat} (f:Nat→Option β)
  (h1:∀n (k:Nat),k<len→f k=none→L (n+1) k=L n ((k+1:Nat):Int)) (h2:∀n (k:Nat) r,k<len→f k=some r→L (n+1) k=some (.inr r)) (h3:∀n,L (n+1) len=some (.inl ())):
  ∀(n k:Nat),k≤len→len<n+k→(L n k=some (.inl ())∧∀j,k≤j→j<len→f j=none)∨∃j r,k≤j∧j<len∧f j=some r∧(∀i,k≤i→i<j→f i=none)∧L n k=some (.inr r)
 |0,k,hk,hn=>by omega
 |n+1,k,hk,hn=>by
  by_cases he:k=len
  ·subst he
   exact .inl ⟨h3 n,fun j h1 h2=>by omega⟩
  cases hf:f k with
  |some r=>exact .inr ⟨k,r,Nat.le_refl _,by omega,hf,fun i _ _=>by omega,h2 n k r (by omega) hf⟩
  |none=>
   rw[h1 n k (by omega) hf]
   rcases OX f h1 h2 h3 n (k+1) (by omega) (by omega) with⟨e,h⟩|⟨j,r,a1,a2,a3,a4,a5⟩
   ·refine .inl ⟨e,fun j hj hl=> ?_⟩
    by_cases hjk:j=k
    ·rw[hjk];exact hf
    ·exact h j (by omega) hl
   ·refine .inr ⟨j,r,by omega,a2,a3,fun i h1 h2=> ?_,a5⟩
    by_cases hik:i=k
    ·rw[hik];exact hf
    ·exact a4 i (by omega) h2
theorem GB {β:Type} {L:Nat→Int→Option (Sum Unit β)} {len:Nat} (f:Nat→Option β)
  (h1:∀n (k:Nat),k<len→f k=none→L (n+1) k=L n ((k+1:Nat):Int)) (h2:∀n (k:Nat) r,k<len→f k=some r→L (n+1) k=some (.inr r)) (h3:∀n,L (n+1) len=some (.inl ())) (n:Nat) (hn:len<n):
  (L n 0=some (.inl ())∧∀j,j<len→f j=none)∨∃j r,j<len∧f j=some r∧(∀i,i<j→f i=none)∧L n 0=some (.inr r):=by
 have:=OX f h1 h2 h3 n 0 (by omega) (by omega)
 rw[Int.natCast_zero] at this
 rcases this with⟨e,h⟩|⟨j,r,a1,a2,a3,a4,e⟩
 ·exact .inl ⟨e,fun j hj=>h j (by omega) hj⟩
 ·exact .inr ⟨j,r,a2,a3,fun i hi=>a4 i (by omega) hi,e⟩
theorem ns (k:Nat):((k+1:Nat):Int)=(k:Int)+1:=by omega
theorem Ki (i n:Nat):((i:Int)+1).tmod (n:Int)=(((i+1)%n:Nat):Int):=by
 rw[Int.tmod_eq_emod_of_nonneg (by omega)];rfl
theorem C5 {l:List Pt} {i:Nat} (h:i<l.length):nth l (i:Int)=some ((pa l i).1,(pa l i).2):=by
 rw[ON (0,0) (by omega) (by omega),Int.toNat_natCast];rfl
theorem EO {α:Type} {p q:Prop} [Decidable p] [Decidable q] {k:Option α} (h:p→q):gd (p→q) k=k:=Ab h
theorem UM {a b c:Pt} (ha:Sml a) (hb:Sml b) (hc:Sml c): -2000000≤trn a b c∧trn a b c≤2000000:=by
 unfold Sml at*
 have h1:=KW (x:=b.1-a.1) (y:=c.2-a.2) (by omega) (by omega)
 have h2:=KW (x:=b.2-a.2) (y:=c.1-a.1) (by omega) (by omega)
 unfold trn;omega
theorem J1 {N:Nat} {a b c:Pt} (ha:Sml a) (hb:Sml b) (hc:Sml c):Dk N a.1 a.2 b.1 b.2 c.1 c.2=some (trn a b c):=by
 unfold Sml at*
 have h1:=KW (x:=b.1-a.1) (y:=c.2-a.2) (by omega) (by omega)
 have h2:=KW (x:=b.2-a.2) (y:=c.1-a.1) (by omega) (by omega)
 unfold Dk trn
 rw[Ab (by unfold I64;omega),Ab (by unfold I64;omega),Ab (by unfold I64;omega),Ab (by unfold I64;omega),Ab (by unfold I64;omega),Ab (by unfold I64;omega),Ab (by unfold I64;omega)]
theorem NM {N:Nat} {a b c:Pt} (ha:Sml a) (hb:Sml b) (hc:Sml c):C6 N a.1 a.2 b.1 b.2 c.1 c.2=some (trn a b c):=by
 unfold Sml at*
 have h1:=KW (x:=b.1-a.1) (y:=c.2-a.2) (by omega) (by omega)
 have h2:=KW (x:=b.2-a.2) (y:=c.1-a.1) (by omega) (by omega)
 unfold C6 trn
 rw[Ab (by unfold I64;omega),Ab (by unfold I64;omega),Ab (by unfold I64;omega),Ab (by unfold I64;omega),Ab (by unfold I64;omega),Ab (by unfold I64;omega),Ab (by unfold I64;omega)]
def On (p:Pt):Prop:=(0≤p.1∧p.1≤40)∧(0≤p.2∧p.2≤40)
instance (p:Pt):Decidable (On p):=inferInstanceAs (Decidable ((_∧_)∧(_∧_)))
theorem On.sml {p:Pt} (h:On p):Sml p:=by unfold On at h;unfold Sml;omega
structure VP (l:List Pt):Prop where
 l3:3≤l.length
 l8:l.length≤8
 on:∀p∈l,On p
 cv:Conv l
open Classical in
noncomputable def vB (l:List Pt):Bool:=decide (VP l)
theorem HF {l:List Pt}:vB l=true↔VP l:=by unfold vB;simp
theorem GO {l:List Pt}:vB l=false↔¬VP l:=by unfold vB;simp
theorem NN (N:Nat) (p:Pt):Fw N p.1 p.2=some (!decide (On p)):=by
 unfold Fw
 congr 1
 by_cases h:On p
 ·rw[decide_eq_true h]
  unfold On at h
  simp only[Bool.not_true,Bool.or_eq_false_iff,decide_eq_false_iff_not]
  omega
 ·rw[decide_eq_false h]
  unfold On at h
  simp only[Bool.not_false,Bool.or_eq_true,decide_eq_true_eq]
  omega
open Classical in
theorem R2 {N:Nat} {l:List Pt} (hN:100≤N) (hl:l.length≤50):A2 N l=some (decide (∃p∈l,¬On p)):=by
 unfold A2 Cl
 have key:=GB (L:=AQ N l) (len:=l.length) (fun i=>if On (pa l i) then none else some (i:Int)) (fun n k hk hf=>by
   rw[AQ]
   have e1:decide ((k:Int)<(l.length:Int))=true:=by simp;omega
   have hon:On (pa l k):=by
    by_cases h:On (pa l k)
    ·exact h
    ·simp[h] at hf
   rw[e1,cT,C5 hk]
   simp only[bS]
   rw[NN]
   simp only[bS,hon,decide_true,Bool.not_true,cF]
   rw[Ab (by unfold I64;omega),ns]) (fun n k r hk hf=>by
   rw[AQ]
   have e1:decide ((k:Int)<(l.length:Int))=true:=by simp;omega
   have hon:¬On (pa l k):=fun h=>by simp[h] at hf
   rw[if_neg hon] at hf
   rw[e1,cT,C5 hk]
   simp only[bS]
   rw[NN]
   simp only[bS,hon,decide_false,Bool.not_false,cT]
   rw[←yJ hf]) (fun n=>by
   rw[AQ]
   have e1:decide ((l.length:Int)<(l.length:Int))=false:=by simp
   rw[e1,cF]) N (by omega)
 rcases key with⟨e,h⟩|⟨j,r,a2,a3,a4,e⟩
 ·rw[e]
  simp only[bS]
  congr 1
  symm
  simp only[show decide ((0:Int)≤-1)=false from rfl,decide_eq_false_iff_not]
  rintro⟨p,hp,hn⟩
  obtain⟨i,hi,rfl⟩:=GA hp
  have:=h i hi
  simp[hn] at this
 ·rw[e]
  simp only[bS]
  by_cases hon:On (pa l j)
  ·simp[hon] at a3
  ·simp only[hon,if_false,yE] at a3
   subst a3
   congr 1
   rw[show decide ((0:Int)≤(j:Int))=true from by simp]
   symm
   simp only[decide_eq_true_eq]
   exact⟨_,AA a2,hon⟩
open Classical in
theorem Yo {N:Nat} {l:List Pt} (hl:l.length≤50) (ho:∀p∈l,Sml p) {i:Nat} (hi:i<l.length) (n:Nat) (hn:l.length<n):
  CO N l i (pa l i).1 (pa l i).2 n 0=some (if∀k,k<l.length→k≠i→k≠(i+1)%l.length→0<trn (pa l i) (pa l ((i+1)%l.length)) (pa l k) then .inl () else .inr false):=by
 have hm:(i+1)%l.length<l.length:=Nat.mod_lt _ (by omega)
 have step:∀n (k:Nat),k<l.length→CO N l i (pa l i).1 (pa l i).2 (n+1) k=if(k≠i∧k≠(i+1)%l.length)∧trn (pa l i) (pa l ((i+1)%l.length)) (pa l k)≤0 then some (.inr false) else CO N l i (pa l i).1 (pa l i).2 n ((k+1:Nat):Int):=fun n k hk=>by
  rw[CO]
  have e1:decide ((k:Int)<(l.length:Int))=true:=by simp;omega
  have tu:=J1 (N:=N) (ho _ (AA hi)) (ho _ (AA hm)) (ho _ (AA hk))
  have e2:(l.getD (((i+1)%l.length:Nat):Int).toNat (0,0))=pa l ((i+1)%l.length):=by rw[Int.toNat_natCast];rfl
  rw[e1,cT,C5 hk]
  simp only[bS,Ki,e2,tu,Option.isSome_some,Option.getD_some]
  rw[Ab (fun _=>⟨by omega,by omega⟩),Ab (fun _=>yT),Ab (by unfold I64;omega)]
  by_cases h:(k≠i∧k≠(i+1)%l.length)∧trn (pa l i) (pa l ((i+1)%l.length)) (pa l k)≤0
  ·rw[if_pos h]
   have e3:(((decide ((k:Int)≠(i:Int)))&&(decide ((k:Int)≠(((i+1)%l.length:Nat):Int))))&&(decide (trn (pa l i) (pa l ((i+1)%l.length)) (pa l k)≤0)))=true:=by
    obtain⟨⟨h1,h2⟩,h3⟩:=h
    simp only[Bool.and_eq_true,decide_eq_true_eq]
    exact⟨⟨by omega,by omega⟩,h3⟩
   rw[e3,cT]
  ·rw[if_neg h]
   have e3:(((decide ((k:Int)≠(i:Int)))&&(decide ((k:Int)≠(((i+1)%l.length:Nat):Int))))&&(decide (trn (pa l i) (pa l ((i+1)%l.length)) (pa l k)≤0)))=false:=by
    rw[Bool.eq_false_iff]
    intro hb
    simp only[Bool.and_eq_true,decide_eq_true_eq] at hb
    exact h ⟨⟨by omega,by omega⟩,hb.2⟩
   rw[e3,cF,ns]
 have key:=GB (L:=CO N l i (pa l i).1 (pa l i).2) (len:=l.length) (fun k=>if(k≠i∧k≠(i+1)%l.length)∧trn (pa l i) (pa l ((i+1)%l.length)) (pa l k)≤0 then some false else none)
  (fun n k hk hf=>by
   rw[step n k hk,if_neg]
   intro h;rw[if_pos h] at hf;cases hf) (fun n k r hk hf=>by
   by_cases h:(k≠i∧k≠(i+1)%l.length)∧trn (pa l i) (pa l ((i+1)%l.length)) (pa l k)≤0
   ·rw[step n k hk,if_pos h];rw[if_pos h] at hf;cases hf;rfl
   ·rw[if_neg h] at hf;cases hf) (fun n=>by
   rw[CO]
   have e1:decide ((l.length:Int)<(l.length:Int))=false:=by simp
   rw[e1,cF]) n (by omega)
 rcases key with⟨e,h⟩|⟨j,r,a2,a3,a4,e⟩
 ·rw[e,if_pos]
  intro k hk h1 h2
  have:=h k hk
  rcases Int.lt_or_le 0 (trn (pa l i) (pa l ((i+1)%l.length)) (pa l k)) with h3|h3
  ·exact h3
  ·rw[if_pos ⟨⟨h1,h2⟩,h3⟩] at this;cases this
 ·rw[e]
  split at a3
  ·rename_i h;cases a3
   rw[if_neg]
   intro hA
   have:=hA j a2 h.1.1 h.1.2
   omega
  ·cases a3
open Classical in
theorem EY {N:Nat} (hN:100≤N) (l:List Pt):BC N l=some (vB l):=by
 unfold BC
 by_cases hl:l.length<3∨8<l.length
 ·have e1:((decide ((l.length:Int)<3))||(decide (8<(l.length:Int))))=true:=by simp;omega
  have e2:vB l=false:=GO.2 fun h=>by have:=h.l3;have:=h.l8;omega
  simp only[e1,Bool.not_true,yF,Bool.true_or,cT,e2]
  rw[Ab (fun h=>by simp at h)]
 have e1:((decide ((l.length:Int)<3))||(decide (8<(l.length:Int))))=false:=by simp;omega
 rw[Ab (fun _=>by rw[R2 hN (by omega)];rfl),R2 hN (by omega)]
 simp only[e1,Bool.false_or,Option.getD_some]
 by_cases ho:∃p∈l,¬On p
 ·rw[show decide (∃p∈l,¬On p)=true from by simpa using ho,cT]
  have e2:vB l=false:=GO.2 fun h=>by obtain⟨p,hp,hn⟩:=ho;exact hn (h.on p hp)
  rw[e2]
 rw[show decide (∃p∈l,¬On p)=false from by simpa using ho,cF]
 have hon:∀p∈l,On p:=fun p hp=>by
  by_cases h:On p
  ·exact h
  ·exact absurd ⟨p,hp,h⟩ ho
 have hs:∀p∈l,Sml p:=fun p hp=>(hon p hp).sml
 have step:∀n (i:Nat),i<l.length→Dg N l (n+1) i=if∀k,k<l.length→k≠i→k≠(i+1)%l.length→0<trn (pa l i) (pa l ((i+1)%l.length)) (pa l k) then Dg N l n ((i+1:Nat):Int) else some (.inr false):=fun n i hi=>by
  rw[Dg]
  have e1:decide ((i:Int)<(l.length:Int))=true:=by simp;omega
  rw[e1,cT,C5 hi]
  simp only[bS]
  rw[Ab (by unfold I64;omega),Ab (by omega),Yo (by omega) hs hi N (by omega)]
  split
  ·simp only[bS]
   rw[Ab (by unfold I64;omega),ns]
  ·simp only[bS]
 have key:=GB (L:=Dg N l) (len:=l.length) (fun i=>if∀k,k<l.length→k≠i→k≠(i+1)%l.length→0<trn (pa l i) (pa l ((i+1)%l.length)) (pa l k) then none else some false)
  (fun n k hk hf=>by
   rw[step n k hk]
   split
   ·rfl
   ·rename_i h;simp[if_neg h] at hf) (fun n k r hk hf=>by
   rw[step n k hk]
   split
   ·rename_i h;rw[if_pos h] at hf;cases hf
   ·rename_i h;rw[if_neg h] at hf;cases hf;rfl) (fun n=>by
   rw[Dg]
   have e1:decide ((l.length:Int)<(l.length:Int))=false:=by simp
   rw[e1,cF]) N (by omega)
 rcases key with⟨e,h⟩|⟨j,r,a2,a3,a4,e⟩
 ·rw[e]
  simp only[bS]
  congr 1
  symm
  refine HF.2 ⟨by omega,by omega,hon,fun i k hi hk n1 n2=> ?_⟩
  have:=h i hi
  split at this
  ·rename_i h;exact h k hk n1 n2
  ·cases this
 ·rw[e]
  simp only[bS]
  split at a3
  ·cases a3
  ·rename_i h;cases a3
   congr 1
   symm
   exact GO.2 fun hv=>h fun k hk n1 n2=>hv.cv j k a2 hk n1 n2
theorem GP {N:Nat} (hN:100≤N) {l:List Pt} (h:VP l):BC N l=some true:=by rw[EY hN,HF.2 h]
def pk (c n:Int):Int:=if c<0 then(-(c+1)).tmod n else c.tmod n
theorem HW {c n:Int} (hn:0<n):0≤pk c n∧pk c n<n:=by
 unfold pk
 split
 ·exact⟨Int.tmod_nonneg _ (by omega),Int.tmod_lt_of_pos _ hn⟩
 ·exact⟨Int.tmod_nonneg _ (by omega),Int.tmod_lt_of_pos _ hn⟩
theorem dlt {k n:Nat} (h:k<n):decide ((k:Int)<(n:Int))=true:=by simp;omega
theorem dge (n:Nat):decide ((n:Int)<(n:Int))=false:=by simp
theorem ptE {p q:Pt}:(decide (p.1=q.1)&&decide (p.2=q.2))=decide (p=q):=by
 rw[Bool.eq_iff_iff]
 simp only[Bool.and_eq_true,decide_eq_true_eq]
 exact⟨fun h=>Prod.ext h.1 h.2,fun h=>by rw[h];exact⟨rfl,rfl⟩⟩
theorem KX {n k i j:Nat} (hi:i<n) (hj:j<n) (h:(k+i)%n=(k+j)%n):i=j:=by
 have h1:((k%n+i)%n)=((k%n+j)%n):=by simpa [Nat.add_mod] using h
 have hk:k%n<n:=Nat.mod_lt _ (by omega)
 generalize k%n=m at*
 by_cases a:m+i<n<;>by_cases b:m+j<n
 ·rw[Nat.mod_eq_of_lt a,Nat.mod_eq_of_lt b] at h1;omega
 ·rw[Nat.mod_eq_of_lt a,Nat.mod_eq_sub_mod (by omega),Nat.mod_eq_of_lt (by omega)] at h1;omega
 ·rw[Nat.mod_eq_of_lt b,Nat.mod_eq_sub_mod (by omega),Nat.mod_eq_of_lt (by omega)] at h1;omega
 ·rw[Nat.mod_eq_sub_mod (by omega),Nat.mod_eq_of_lt (by omega),Nat.mod_eq_sub_mod (by omega:n≤m+j),Nat.mod_eq_of_lt (by omega)] at h1;omega
def E (l:List Pt) (i:Nat) (p:Pt):Int:=trn (pa l i) (pa l ((i+1)%l.length)) p
def inn (l:List Pt) (p:Pt):Prop:=∀i,i<l.length→0<E l i p
def clo (l:List Pt) (p:Pt):Prop:=∀i,i<l.length→0≤E l i p
theorem inn.clo {l:List Pt} {p:Pt} (h:inn l p):clo l p:=fun i hi=>Int.le_of_lt (h i hi)
open Classical in
noncomputable def sd (l:List Pt) (p:Pt):Int:=if inn l p then 1 else if clo l p then 0 else-1
theorem Gg {l:List Pt} {e:Pt×Pt}:e∈Bm l↔∃i,i<l.length∧e=(pa l i,pa l ((i+1)%l.length)):=by
 unfold Bm
 simp only[List.mem_map,List.mem_range]
 exact⟨fun⟨i,h,e⟩=>⟨i,h,e.symm⟩,fun⟨i,h,e⟩=>⟨i,h,e.symm⟩⟩
theorem GV {l:List Pt} (hs:∀p∈l,Sml p):∀e∈Bm l,Sml e.1∧Sml e.2:=fun e he=>by
 obtain⟨i,hi,rfl⟩:=Gg.1 he
 exact⟨hs _ (AA hi),hs _ (AA (Nat.mod_lt _ (by omega)))⟩
theorem JT (N:Nat) (x y:Int):CU N x y=some (if x<y then-1 else if y<x then 1 else 0):=by
 unfold CU Gc
 rw[decide_eq_false (by simp),bS,decide_eq_false (by simp),bS,cF,cF]
 by_cases h:x<y
 ·rw[decide_eq_true h,cT,if_pos h]
 ·rw[decide_eq_false h,cF,if_neg h]
  by_cases h:y<x
  ·rw[decide_eq_true h,cT,if_pos h]
  ·rw[decide_eq_false h,cF,if_neg h]
theorem VP.sml {l:List Pt} (h:VP l):∀p∈l,Sml p:=fun p hp=>(h.on p hp).sml
theorem VP.ne {l:List Pt} (h:VP l) {i:Nat} (hi:i<l.length):pa l i≠pa l ((i+1)%l.length):=fun e=>by
 have l3:=h.l3
 obtain⟨k,hk,n1,n2⟩:∃k,k<l.length∧k≠i∧k≠(i+1)%l.length:=by
  by_cases h0:0≠i∧0≠(i+1)%l.length
  ·exact⟨0,by omega,h0.1,h0.2⟩
  by_cases h1:1≠i∧1≠(i+1)%l.length
  ·exact⟨1,by omega,h1.1,h1.2⟩
  exact⟨2,by omega,by omega,by omega⟩
 have:=h.cv i k hi hk n1 n2
 rw[←e,Wa] at this
 omega
def EdS (es:List (Pt×Pt)):Prop:=∀e∈es,Sml e.1∧Sml e.2
theorem EdS.tl {e:Pt×Pt} {es:List (Pt×Pt)} (h:EdS (e::es)):EdS es:=fun x hx=>h x (by simp[hx])
def arE (o:Pt) (e:Pt×Pt):Int:=trn o e.1 e.2
def mxE (o:Pt) (e:Pt×Pt):Int:=trn o e.1 e.2*(o.1+e.1.1+e.2.1)
def myE (o:Pt) (e:Pt×Pt):Int:=trn o e.1 e.2*(o.2+e.1.2+e.2.2)
def Ht (l:List Pt):Int:=((Bm l).map (arE (pa l 0))).sum
def NP (l:List Pt):Int:=((Bm l).map (mxE (pa l 0))).sum
def NQ (l:List Pt):Int:=((Bm l).map (myE (pa l 0))).sum
theorem Zc {o:Pt} {e:Pt×Pt} (ho:Sml o) (h:Sml e.1∧Sml e.2): -2000000≤arE o e∧arE o e≤2000000:=UM ho h.1 h.2
theorem Qm (N:Nat) {l:List Pt} (hl:0<l.length) (hs:∀p∈l,Sml p):∀(es:List (Pt×Pt)) (k:Nat) (o:Int),EdS es→k+es.length≤1000→(-3000000*k≤o∧o≤3000000*k)→DO N l es o=some (o+(es.map (arE (pa l 0))).sum)
 |[],k,o,h,hk,hb=>by simp[DO]
 |e::es,k,o,h,hk,hb=>by
  have he:=h e (by simp)
  have ho:=hs _ (AA hl)
  have b:=Zc ho he
  rw[show e=((e.1.1,e.1.2),(e.2.1,e.2.2)) from rfl,DO,show nth l 0=some ((pa l 0).1,(pa l 0).2) from C5 (i:=0) hl,bS]
  simp only
  simp only[List.length_cons] at hk
  rw[J1 ho he.1 he.2,bS,Ab (by unfold I64;unfold arE at b;omega),Qm N hl hs es (k+1) _ h.tl (by omega) (by unfold arE at b;omega),List.map_cons,List.sum_cons,Int.add_assoc]
  rfl
theorem Tw {N:Nat} (hN:100≤N) {l:List Pt} (h:VP l):Fx N l=some (Ht l):=by
 unfold Fx
 have l3:=h.l3
 have l8:=h.l8
 have:=Qm N (l:=l) (by omega) h.sml (Bm l) 0 0 (GV h.sml) (by rw[IZ];omega) (by omega)
 rw[GP hN h,bS,cF' _ (by rfl),Ab (by omega),this,bS,Int.zero_add]
 rfl
theorem O1 {α:Type} (f:α→Int) (B:Int):∀(es:List α),(∀e∈es,-B≤f e∧f e≤B)→-B*es.length≤(es.map f).sum∧(es.map f).sum≤B*es.length
 |[],_=>by simp
 |e::es,h=>by
  have h1:=h e (by simp)
  have h2:=O1 f B es fun x hx=>h x (by simp[hx])
  simp only[List.map_cons,List.sum_cons,List.length_cons,ns]
  rw[Int.mul_add,Int.mul_add]
  omega
theorem Wi {l:List Pt} (h:VP l): -16000000≤Ht l∧Ht l≤16000000:=by
 have l3:=h.l3
 have l8:=h.l8
 have:=O1 (arE (pa l 0)) 2000000 (Bm l) fun e he=>by
  have:=Zc (h.sml _ (AA (i:=0) (by omega))) (GV h.sml e he)
  omega
 rw[IZ] at this
 unfold Ht
 omega
def qa (l:List Pt) (t:Nat):Pt:=pa l (t%l.length)
theorem HX {l:List Pt} {t:Nat} (h:t<l.length):qa l t=pa l t:=by unfold qa;rw[Nat.mod_eq_of_lt h]
theorem Hg (l:List Pt) (t:Nat):qa l (t+l.length)=qa l t:=by unfold qa;rw[Nat.add_mod_right]
theorem sI (l:List Pt) (t:Nat):qa l (t%l.length)=qa l t:=by unfold qa;rw[Nat.mod_mod]
theorem IW {l:List Pt} (h:0<l.length) (t:Nat):qa l t∈l:=AA (Nat.mod_lt _ h)
theorem OY {n s a b:Nat} (ha:a<n) (hb:b<n) (h:a≠b):(s+a)%n≠(s+b)%n:=fun e=>h (KX ha hb e)
theorem Hh {l:List Pt} (h:Conv l) {s a:Nat} (h2:2≤a) (ha:a<l.length):0<trn (qa l s) (qa l (s+1)) (qa l (s+a)):=by
 have hn:0<l.length:=by omega
 have e:=h (s%l.length) ((s+a)%l.length) (Nat.mod_lt _ hn) (Nat.mod_lt _ hn) (fun e=>OY (s:=s) (by omega:a<l.length) (by omega:0<l.length) (by omega) (by simpa using e)) (fun e=>OY (s:=s) (by omega:a<l.length) (by omega:1<l.length) (by omega) (by rw[e,Nat.mod_add_mod]))
 rw[Nat.mod_add_mod] at e
 exact e
theorem Jw {l:List Pt} (h:Conv l) (s a:Nat) (h1:1≤a):∀d,a+d+1<l.length→0<trn (qa l s) (qa l (s+a)) (qa l (s+(a+d+1)))
 |0,hd=>by
  have e:=Hh h (s:=s+a) (a:=l.length-a) (by omega) (by omega)
  rw[show s+a+(l.length-a)=s+l.length by omega,Hg,FN,FN] at e
  have e2:=FN (qa l s) (qa l (s+a)) (qa l (s+a+1))
  rw[show s+(a+0+1)=s+a+1 by omega]
  have e3:=FN (qa l (s+a)) (qa l (s+a+1)) (qa l s)
  omega
 |d+1,hd=>by
  have ih:=Jw h s a h1 d (by omega)
  have ed:=Jw h s (a+d+1) (by omega) 0 (by omega)
  rw[show s+(a+d+1+0+1)=s+(a+(d+1)+1) by omega] at ed
  have lb:0<trn (qa l s) (qa l (s+1)) (qa l (s+(a+d+1))):=Hh h (by omega) (by omega)
  have lc:0<trn (qa l s) (qa l (s+1)) (qa l (s+(a+(d+1)+1))):=Hh h (by omega) (by omega)
  have la:0≤trn (qa l s) (qa l (s+1)) (qa l (s+a)):=by
   by_cases e:a=1
   ·rw[e,Et];omega
   ·exact Int.le_of_lt (Hh h (by omega) (by omega))
  generalize qa l (s+1)=v at*
  generalize qa l (s+(a+(d+1)+1))=C at*
  generalize qa l (s+(a+d+1))=B at*
  generalize qa l (s+a)=A at*
  generalize qa l s=o at*
  have key:trn o v B*trn o A C=trn o v A*trn o B C+trn o v C*trn o A B:=by unfold trn;grind
  have k1:0≤trn o v A*trn o B C:=Int.mul_nonneg la (by omega)
  have k2:=Int.mul_pos lc ih
  exact HT lb (by omega)
def arc (l:List Pt) (i m:Nat):List Pt:=(List.range (m+1)).map fun t=>qa l (i+t)
theorem Nc (l:List Pt) (i m:Nat):(arc l i m).length=m+1:=by simp[arc]
theorem K8 {l:List Pt} {i m t:Nat} (h:t≤m):pa (arc l i m) t=qa l (i+t):=by
 rw[C9 (by rw[Nc];omega)];simp[arc]
theorem aY {l:List Pt} (hl:0<l.length) {i m:Nat} {p:Pt} (h:p∈arc l i m):p∈l:=by
 unfold arc at h
 obtain⟨t,_,rfl⟩:=List.mem_map.1 h
 exact IW hl _
theorem sJ {l:List Pt} (h:VP l) {i m:Nat} (h2:2≤m) (hm:m<l.length):VP (arc l i m):=by
 have l3:=h.l3
 refine⟨by rw[Nc];omega,by rw[Nc];have:=h.l8;omega,fun p hp=>h.on p (aY (by omega) hp), ?_⟩
 intro t k ht hk n1 n2
 rw[Nc] at ht hk n2⊢
 by_cases e:t=m
 ·subst e
  rw[Nat.mod_self] at n2⊢
  rw[K8 (Nat.le_refl _),K8 (Nat.zero_le _),K8 (by omega)]
  have:=Jw h.cv i k (by omega) (t-k-1) (by omega)
  rw[show k+(t-k-1)+1=t by omega] at this
  rw[Nat.add_zero,FN,FN]
  exact this
 ·rw[Nat.mod_eq_of_lt (by omega)] at n2⊢
  rw[K8 (by omega),K8 (by omega),K8 (by omega)]
  by_cases hkt:t<k
  ·have:=Hh h.cv (s:=i+t) (a:=k-t) (by omega) (by omega)
   rw[show i+t+(k-t)=i+k by omega] at this
   exact this
  ·have:=Hh h.cv (s:=i+t) (a:=l.length+k-t) (by omega) (by omega)
   rw[show i+t+(l.length+k-t)=i+k+l.length by omega,Hg] at this
   exact this
theorem Wd (N:Nat) (p:Pt):EV N p.1 p.2=some (decide (On p)):=by
 unfold EV
 congr 1
 by_cases h:On p
 ·rw[decide_eq_true h]
  unfold On at h
  simp only[Bool.and_eq_true,decide_eq_true_eq]
  omega
 ·rw[decide_eq_false h]
  unfold On at h
  rw[Bool.eq_false_iff]
  simp only[ne_eq,Bool.and_eq_true,decide_eq_true_eq]
  omega
theorem K9 (N:Nat) {l:List Pt} {i:Nat} (hl:l.length≤1000) (h:i<l.length):B2 N l i=some (pa l ((i+1)%l.length)):=by
 unfold B2
 rw[Ab (by unfold I64;omega),Ab (by omega),Ki,C5 (Nat.mod_lt _ (by omega)),bS]
open Classical in
theorem We {N:Nat} {l:List Pt} (hl:l.length≤50) (ho:∀p∈l,Sml p) {i:Nat} (hi:i<l.length) (n:Nat) (hn:l.length<n):
  BY N l i n 0=some (if∀k,k<l.length→k≠i→k≠(i+1)%l.length→0<trn (pa l i) (pa l ((i+1)%l.length)) (pa l k) then .inl () else .inr false):=by
 have hm:(i+1)%l.length<l.length:=Nat.mod_lt _ (by omega)
 have step:∀n (k:Nat),k<l.length→BY N l i (n+1) k=if(k≠i∧k≠(i+1)%l.length)∧trn (pa l i) (pa l ((i+1)%l.length)) (pa l k)≤0 then some (.inr false) else BY N l i n ((k+1:Nat):Int):=fun n k hk=>by
  rw[BY]
  have tu:=NM (N:=N) (ho _ (AA hi)) (ho _ (AA hm)) (ho _ (AA hk))
  have e2:l.getD (i:Int).toNat (0,0)=pa l i:=by rw[Int.toNat_natCast];rfl
  have e3:l.getD (k:Int).toNat (0,0)=pa l k:=by rw[Int.toNat_natCast];rfl
  rw[dlt hk,cT,K9 N (by omega) hi,e2,e3,Option.getD_some,tu,Ki,Option.getD_some]
  rw[Ab (fun _=>by unfold I64;omega),Ab (fun _=>by omega),Ab (fun _=>⟨by omega,by omega⟩),Ab (fun _=>Option.isSome_some),Ab (fun _=>⟨by omega,by omega⟩),Ab (fun _=>Option.isSome_some),Ab (by unfold I64;omega)]
  by_cases h:(k≠i∧k≠(i+1)%l.length)∧trn (pa l i) (pa l ((i+1)%l.length)) (pa l k)≤0
  ·rw[if_pos h]
   rw[cT' _ (by
    obtain⟨⟨h1,h2⟩,h3⟩:=h
    simp only[Bool.and_eq_true,decide_eq_true_eq]
    exact⟨⟨by omega,by omega⟩,h3⟩)]
  ·rw[if_neg h]
   rw[cF' _ (by
    rw[Bool.eq_false_iff]
    intro hb
    simp only[Bool.and_eq_true,decide_eq_true_eq] at hb
    exact h ⟨⟨by omega,by omega⟩,hb.2⟩),ns]
 have key:=GB (L:=BY N l i) (len:=l.length) (fun k=>if(k≠i∧k≠(i+1)%l.length)∧trn (pa l i) (pa l ((i+1)%l.length)) (pa l k)≤0 then some false else none)
  (fun n k hk hf=>by
   rw[step n k hk,if_neg]
   intro h;rw[if_pos h] at hf;cases hf) (fun n k r hk hf=>by
   by_cases h:(k≠i∧k≠(i+1)%l.length)∧trn (pa l i) (pa l ((i+1)%l.length)) (pa l k)≤0
   ·rw[step n k hk,if_pos h];rw[if_pos h] at hf;cases hf;rfl
   ·rw[if_neg h] at hf;cases hf) (fun n=>by
   rw[BY,dge,cF]) n (by omega)
 rcases key with⟨e,h⟩|⟨j,r,a2,a3,a4,e⟩
 ·rw[e,if_pos]
  intro k hk h1 h2
  have:=h k hk
  rcases Int.lt_or_le 0 (trn (pa l i) (pa l ((i+1)%l.length)) (pa l k)) with h3|h3
  ·exact h3
  ·rw[if_pos ⟨⟨h1,h2⟩,h3⟩] at this;cases this
 ·rw[e]
  split at a3
  ·rename_i h;cases a3
   rw[if_neg]
   intro hA
   have:=hA j a2 h.1.1 h.1.2
   omega
  ·cases a3
open Classical in
theorem Da {N:Nat} (hN:100≤N) (l:List Pt):Bo N l=some (vB l):=by
 unfold Bo
 by_cases hl:l.length<3∨8<l.length
 ·have e2:vB l=false:=GO.2 fun h=>by have:=h.l3;have:=h.l8;omega
  rw[cT' _ (by simp;omega),e2]
 rw[cF' _ (by simp;omega)]
 have key:=GB (L:=Cw N l) (len:=l.length) (fun i=>if On (pa l i) then none else some false) (fun n k hk hf=>by
   rw[Cw]
   have hon:On (pa l k):=by
    by_cases h:On (pa l k)
    ·exact h
    ·simp[h] at hf
   rw[dlt hk,cT,C5 hk,bS]
   simp only
   rw[Wd,bS,decide_eq_true hon,cF' _ (by rfl),Ab (by unfold I64;omega),ns]) (fun n k r hk hf=>by
   rw[Cw]
   have hon:¬On (pa l k):=fun h=>by simp[h] at hf
   rw[if_neg hon] at hf
   rw[dlt hk,cT,C5 hk,bS]
   simp only
   rw[Wd,bS,decide_eq_false hon,cT' _ (by rfl),←yJ hf]) (fun n=>by
   rw[Cw,dge,cF]) N (by omega)
 rcases key with⟨e,h⟩|⟨j,r,a2,a3,a4,e⟩
 ·rw[e,bS]
  simp only
  have hon:∀p∈l,On p:=fun p hp=>by
   obtain⟨i,hi,rfl⟩:=GA hp
   have:=h i hi
   by_cases ho:On (pa l i)
   ·exact ho
   ·simp[ho] at this
  have hs:∀p∈l,Sml p:=fun p hp=>(hon p hp).sml
  have step:∀n (i:Nat),i<l.length→Cc N l (n+1) i=if∀k,k<l.length→k≠i→k≠(i+1)%l.length→0<trn (pa l i) (pa l ((i+1)%l.length)) (pa l k) then Cc N l n ((i+1:Nat):Int) else some (.inr false):=fun n i hi=>by
   rw[Cc,dlt hi,cT,We (by omega) hs hi N (by omega)]
   split
   ·rw[bS]
    simp only
    rw[Ab (by unfold I64;omega),ns]
   ·rw[bS]
  have key:=GB (L:=Cc N l) (len:=l.length) (fun i=>if∀k,k<l.length→k≠i→k≠(i+1)%l.length→0<trn (pa l i) (pa l ((i+1)%l.length)) (pa l k) then none else some false)
   (fun n k hk hf=>by
    rw[step n k hk]
    split
    ·rfl
    ·rename_i h;simp[if_neg h] at hf) (fun n k r hk hf=>by
    rw[step n k hk]
    split
    ·rename_i h;rw[if_pos h] at hf;cases hf
    ·rename_i h;rw[if_neg h] at hf;cases hf;rfl) (fun n=>by
    rw[Cc,dge,cF]) N (by omega)
  rcases key with⟨e,h⟩|⟨j,r,a2,a3,a4,e⟩
  ·rw[e,bS]
   simp only
   congr 1
   symm
   refine HF.2 ⟨by omega,by omega,hon,fun i k hi hk n1 n2=> ?_⟩
   have:=h i hi
   split at this
   ·rename_i h;exact h k hk n1 n2
   ·cases this
  ·rw[e,bS]
   simp only
   split at a3
   ·cases a3
   ·rename_i h;cases a3
    congr 1
    symm
    exact GO.2 fun hv=>h fun k hk n1 n2=>hv.cv j k a2 hk n1 n2
 ·rw[e,bS]
  simp only
  by_cases hon:On (pa l j)
  ·simp[hon] at a3
  ·simp only[hon,if_false,yE] at a3
   subst a3
   congr 1
   symm
   exact GO.2 fun hv=>hon (hv.on _ (AA a2))
def stp (n i k:Nat):Nat:=(k+n-i)%n
theorem iB {n i k:Nat} (h:0<n):stp n i k<n:=Nat.mod_lt _ h
theorem iC {n i k:Nat} (hi:i<n) (hk:k<n):(i+stp n i k)%n=k:=by
 unfold stp
 by_cases h:i≤k
 ·have e:(k+n-i)%n=k-i:=by rw[Nat.mod_eq_sub_mod (by omega),Nat.mod_eq_of_lt (by omega)];omega
  rw[e,show i+(k-i)=k by omega,Nat.mod_eq_of_lt hk]
 ·have e:(k+n-i)%n=k+n-i:=Nat.mod_eq_of_lt (by omega)
  rw[e,show i+(k+n-i)=k+n by omega,Nat.add_mod_right,Nat.mod_eq_of_lt hk]
def tP (l:List Pt) (i k:Nat):List Pt×List Pt×Int:=
 if stp l.length i k<2∨stp l.length k i<2 then([],[],70) else(arc l i (stp l.length i k),arc l k (stp l.length k i),0)
theorem R7 {n d:Int} (h:I64 n) (hd:1<d) (hd2:d≤1000):I64 (n.tdiv d):=by
 unfold I64 at*
 rcases Int.le_total 0 n with h0|h0
 ·have h1:=Int.tdiv_nonneg h0 (show 0≤d by omega)
  have h2:n.tdiv d≤n:=Int.tdiv_le_self d h0
  omega
 ·have e:n.tdiv d= -((-n).tdiv d):=by rw[Int.neg_tdiv,Int.neg_neg]
  have h1:=Int.tdiv_nonneg (show 0≤-n by omega) (show 0≤d by omega)
  have h2:(-n).tdiv d≤-n:=Int.tdiv_le_self d (by omega)
  omega
def sep (l:List Pt) (i:Nat) (b:List Pt):Prop:=∀p∈b,E l i p≤0
open Classical in
noncomputable def Il (l b:List Pt):Option Nat:=(List.range l.length).find? fun i=>decide (sep l i b)
def apart (a b:List Pt):Prop:=(∃i,i<a.length∧sep a i b)∨∃i,i<b.length∧sep b i a
theorem apart.symm {a b:List Pt} (h:apart a b):apart b a:=Or.symm h
theorem KH {l b:List Pt} {i:Nat} (h:Il l b=some i):i<l.length∧sep l i b:=by
 unfold Il at h
 have h1:=List.find?_some h
 have h2:=List.mem_of_find?_eq_some h
 exact⟨by simpa using h2,by simpa using h1⟩
theorem Qk {l b:List Pt} (h:Il l b=none):∀i,i<l.length→¬sep l i b:=by
 unfold Il at h
 rw[List.find?_eq_none] at h
 intro i hi hs
 exact h i (by simpa using hi) (by simpa using hs)
open Classical in
theorem aZ {N:Nat} {b:List Pt} (hb:b.length≤1000) (hN:1000<N) (hs:∀p∈b,Sml p) {u w:Pt} (hu:Sml u) (hw:Sml w):BE N b u.1 u.2 w.1 w.2=some (decide (∃p∈b,0<trn u w p)):=by
 unfold BE Ch
 have step:∀n (k:Nat),k<b.length→As N b u.1 u.2 w.1 w.2 (n+1) k=if 0<trn u w (pa b k) then some (.inr (k:Int)) else As N b u.1 u.2 w.1 w.2 n ((k+1:Nat):Int):=fun n k hk=>by
  rw[As,dlt hk,cT,C5 hk,bS]
  simp only
  unfold Ho
  rw[J1 hu hw (hs _ (AA hk)),bS,bS,Ab (by unfold I64;omega),ns]
  by_cases h:0<trn u w (pa b k)
  ·rw[decide_eq_true h,cT,if_pos h]
  ·rw[decide_eq_false h,cF,if_neg h]
 have key:=GB (L:=As N b u.1 u.2 w.1 w.2) (len:=b.length) (fun k=>if 0<trn u w (pa b k) then some (k:Int) else none)
  (fun n k hk hf=>by
   rw[step n k hk,if_neg]
   intro h;rw[if_pos h] at hf;cases hf) (fun n k r hk hf=>by
   by_cases h:0<trn u w (pa b k)
   ·rw[step n k hk,if_pos h];rw[if_pos h] at hf;rw[←yJ hf]
   ·rw[if_neg h] at hf;cases hf) (fun n=>by
   rw[As,dge,cF]) N (by omega)
 rcases key with⟨e,h⟩|⟨j,r,a2,a3,a4,e⟩
 ·rw[e,bS]
  simp only
  rw[bS]
  congr 1
  rw[decide_eq_false (by decide)]
  symm
  rw[decide_eq_false_iff_not]
  rintro⟨p,hp,hn⟩
  obtain⟨i,hi,rfl⟩:=GA hp
  have:=h i hi
  rw[if_pos hn] at this;cases this
 ·rw[e,bS]
  simp only
  rw[bS]
  split at a3
  ·rename_i h
   rw[←yJ a3,decide_eq_true (by omega)]
   congr 1
   symm
   rw[decide_eq_true_eq]
   exact⟨_,AA a2,h⟩
  ·cases a3
open Classical in
theorem OZ {N:Nat} (hN:1000<N) {l b:List Pt} (hl:l.length≤1000) (hb:b.length≤1000) (hsl:∀p∈l,Sml p) (hsb:∀p∈b,Sml p):∀(k j:Nat),j+k=l.length→
  DP N b ((List.range' j k).map fun i=>(pa l i,pa l ((i+1)%l.length))) (j:Int)=some (match(List.range' j k).find? fun i=>decide (sep l i b) with|some i=> .inr (i:Int)|none=> .inl ())
 |0,j,h=>by simp[DP]
 |k+1,j,h=>by
  have hm:(j+1)%l.length<l.length:=Nat.mod_lt _ (by omega)
  rw[List.range'_succ,List.map_cons,List.find?_cons]
  rw[show(pa l j,pa l ((j+1)%l.length))=(((pa l j).1,(pa l j).2),((pa l ((j+1)%l.length)).1,(pa l ((j+1)%l.length)).2)) from rfl,DP,aZ hb hN hsb (hsl _ (AA (by omega))) (hsl _ (AA hm)),bS]
  by_cases hs:sep l j b
  ·have e:¬∃p∈b,0<trn (pa l j) (pa l ((j+1)%l.length)) p:=by
    rintro⟨p,hp,hq⟩
    have:=hs p hp
    unfold E at this;omega
   rw[decide_eq_false e,cT' _ (by rfl),decide_eq_true hs]
  ·have e:∃p∈b,0<trn (pa l j) (pa l ((j+1)%l.length)) p:=by
    by_cases h:∃p∈b,0<trn (pa l j) (pa l ((j+1)%l.length)) p
    ·exact h
    ·exact absurd (fun p hp=>by
      rcases Int.lt_or_le 0 (E l j p) with h1|h1
      ·exact absurd ⟨p,hp,h1⟩ h
      ·exact h1) hs
   rw[decide_eq_true e,cF' _ (by rfl),decide_eq_false hs,Ab (by unfold I64;omega),←ns]
   exact OZ hN hl hb hsl hsb k (j+1) (by omega)
theorem R8 {N:Nat} (hN:1000<N) {l b:List Pt} (hl:l.length≤1000) (hb:b.length≤1000) (hsl:∀p∈l,Sml p) (hsb:∀p∈b,Sml p):F1 N l b=some (match Il l b with|some i=>(i:Int)|none=> -1):=by
 unfold F1
 have:=OZ hN hl hb hsl hsb l.length 0 (by omega)
 rw[←List.range_eq_range',Int.natCast_zero] at this
 rw[Ab (by omega),show Bm l=(List.range l.length).map fun i=>(pa l i,pa l ((i+1)%l.length)) from rfl,this,bS]
 unfold Il
 cases(List.range l.length).find? fun i=> @decide (sep l i b) (Classical.propDecidable _)<;>rfl
noncomputable def Gi (a b:List Pt):Int×Int×Bool:=match Il a b with
 |some i=>(0,(i:Int),true)
 |none=>match Il b a with
  |some i=>(1,(i:Int),true)
  |none=>(0,0,false)
theorem SX (a b:List Pt):(∃i,i<a.length∧sep a i b∧Gi a b=(0,(i:Int),true))∨(∃i,i<b.length∧sep b i a∧Gi a b=(1,(i:Int),true))∨(¬apart a b∧Gi a b=(0,0,false)):=by
 unfold Gi
 cases h:Il a b with
 |some i=>exact .inl ⟨i,(KH h).1,(KH h).2,rfl⟩
 |none=>
  cases h2:Il b a with
  |some i=>exact .inr (.inl ⟨i,(KH h2).1,(KH h2).2,rfl⟩)
  |none=>
   refine .inr (.inr ⟨?_,rfl⟩)
   rintro(⟨i,hi,hs⟩|⟨i,hi,hs⟩)
   ·exact Qk h i hi hs
   ·exact Qk h2 i hi hs
theorem J2 {a b:List Pt}:(Gi a b).2.2=true↔apart a b:=by
 rcases SX a b with⟨i,h1,h2,h3⟩|⟨i,h1,h2,h3⟩|⟨h1,h3⟩<;>rw[h3]
 ·simp only[true_iff];exact .inl ⟨i,h1,h2⟩
 ·simp only[true_iff];exact .inr ⟨i,h1,h2⟩
 ·simp[h1]
theorem mK {N:Nat} (hN:1001≤N) {a b:List Pt} (ha:VP a) (hb:VP b):FT N a b=some (Gi a b):=by
 unfold FT
 have a8:=ha.l8
 have b8:=hb.l8
 rw[GP (by omega) ha,GP (by omega) hb,bS,Ab (fun _=>Option.isSome_some),Option.getD_some,cF' _ (by rfl),R8 (by omega) (by omega) (by omega) ha.sml hb.sml,bS,R8 (by omega) (by omega) (by omega) hb.sml ha.sml]
 unfold Gi
 cases Il a b with
 |some i=>simp only;rw[cT' _ (decide_eq_true (by omega))]
 |none=>
  simp only
  rw[cF' _ (by decide),bS]
  cases Il b a with
  |some i=>simp only;rw[cT' _ (decide_eq_true (by omega))]
  |none=>simp only;rw[cF' _ (by decide)]
theorem JU {N:Nat} (hN:1001≤N) {a b:List Pt} (ha:VP a) (hb:VP b):CL N a b=some (!(Gi a b).2.2):=by
 unfold CL
 rw[mK hN ha hb,show Gi a b=((Gi a b).1,(Gi a b).2.1,(Gi a b).2.2) from rfl,bS,GP (by omega) ha,GP (by omega) hb]
 simp only
 rw[bS,Ab (fun _=>Option.isSome_some)]
 rfl
theorem UN {a:List Pt} (h:VP a):¬apart a a:=by
 have l3:=h.l3
 have key:∀i,i<a.length→¬sep a i a:=fun i hi hs=>by
  obtain⟨k,hk,n1,n2⟩:∃k,k<a.length∧k≠i∧k≠(i+1)%a.length:=by
   by_cases h0:0≠i∧0≠(i+1)%a.length
   ·exact⟨0,by omega,h0.1,h0.2⟩
   by_cases h1:1≠i∧1≠(i+1)%a.length
   ·exact⟨1,by omega,h1.1,h1.2⟩
   exact⟨2,by omega,by omega,by omega⟩
  have e1:=h.cv i k hi hk n1 n2
  have e2:=hs _ (AA hk)
  unfold E at e2
  omega
 rintro(⟨i,hi,hs⟩|⟨i,hi,hs⟩)
 ·exact key i hi hs
 ·exact key i hi hs
theorem Wf {g p a b:Pt} (ha:lin g p a=0) (hb:lin g p b=0) (hg:g≠(0,0)):trn p a b=0:=by
 have e1:g.1*trn p a b=lin g p a*(b.2-p.2)-lin g p b*(a.2-p.2):=by unfold lin trn;grind
 have e2:g.2*trn p a b=lin g p b*(a.1-p.1)-lin g p a*(b.1-p.1):=by unfold lin trn;grind
 rw[ha,hb] at e1 e2
 simp only[Int.zero_mul,Int.sub_self,Int.mul_eq_zero] at e1 e2
 rcases e1 with e1|e1
 ·rcases e2 with e2|e2
  ·exact absurd (Prod.ext e1 e2) hg
  ·exact e2
 ·exact e1
theorem Nd {n:Nat} {v:Nat→Pt} (hn:0<n) (per:∀t,v (t+n)=v t) {p g:Pt} (h:∀t,0<trn (v t) (v (t+1)) p) (hg:g≠(0,0)) (hh:∀t,0≤lin g p (v t)):False:=by
 have h':∀t,0<trn p (v t) (v (t+1)):=fun t=>by rw[←FN];exact h t
 obtain⟨m,hm⟩:∃m,0<lin g p (v m):=by
  by_cases h0:0<lin g p (v 0)
  ·exact⟨0,h0⟩
  by_cases h1:0<lin g p (v 1)
  ·exact⟨1,h1⟩
  have z0:=hh 0
  have z1:=hh 1
  have:=Wf (show lin g p (v 0)=0 by omega) (show lin g p (v 1)=0 by omega) hg
  have:0<trn p (v 0) (v 1):=h' 0
  omega
 have key:∀t,0<trn p (v m) (v (m+(t+1))):=by
  intro t
  induction t with
  |zero=>exact h' m
  |succ t ih=>
   have pl:=UK g p (v m) (v (m+(t+1))) (v (m+(t+1+1)))
   have hb:=hh (m+(t+1))
   have hc:=hh (m+(t+1+1))
   have hbc:=h' (m+(t+1))
   rw[show m+(t+1)+1=m+(t+1+1) by omega] at hbc
   have k1:=Int.mul_pos hm hbc
   have k2:=Int.mul_nonneg hc (Int.le_of_lt ih)
   have hb':0<lin g p (v (m+(t+1))):=by
    rcases Int.lt_or_eq_of_le hb with q|q
    ·exact q
    ·rw[←q,Int.zero_mul] at pl;omega
   exact HT hb' (by omega)
 have:=key (n-1)
 rw[show m+(n-1+1)=m+n by omega,per,Et] at this
 omega
theorem PN {l:List Pt} (hl:0<l.length) (t:Nat) (p:Pt):trn (qa l t) (qa l (t+1)) p=E l (t%l.length) p:=by
 unfold E qa
 rw[Nat.mod_add_mod]
theorem La (a b p q:Pt):lin (b.2-a.2,a.1-b.1) p q=trn a b p-trn a b q:=by unfold lin trn;grind
end Go.Proofs.YtciphecegkfaiaaGreat.Am
