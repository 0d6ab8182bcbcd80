import Derived.Test.YtdabfcbelkjmgaaGreatDoorD6
import Derived.Test.YtdabfcbelkjmgaaGreatDoorG1
namespace Go.Proofs.YtdabfcbelkjmgaaGreatDoor.Am
set_option linter.unusedSimpArgs false
set_option linter.unusedVariables false
theorem cT' {α:Type} (b:Bool) (h:b=true) (x y:α):(bif b then x else y)=x:=by subst h;rfl
theorem cF' {α:Type} (b:Bool) (h:b=false) (x y:α):(bif b then x else y)=y:=by subst h;rfl
theorem bS' {α β:Type} (o:Option α) (a:α) (h:o=some a) (f:α→Option β):o.bind f=f a:=by subst h;rfl
theorem cT {α:Type} (x y:α):(bif true then x else y)=x:=cT' _ rfl x y
theorem cF {α:Type} (x y:α):(bif false then x else y)=y:=cF' _ rfl x y
theorem bS {α β:Type} (a:α) (f:α→Option β):(some a).bind f=f a:=bS' _ a rfl f
theorem HM {β:Type} {L:Nat→Int→Option (Sum Unit β)} {len:Nat} (f:Nat→Option β)
  (h1:∀n (k:Nat),k<len→f k=none→L (n+1) k=L n ((k+1:Nat):Int)) (h2:∀n (k:Nat) r,k<len→f k=some r→L (n+1) k=some (.inr r)) (h3:∀n,L (n+1) len=some (.inl ())):
  ∀(n k:Nat),k≤len→len<n+k→(L n k=some (.inl ())∧∀j,k≤j→j<len→f j=none)∨∃j r,k≤j∧j<len∧f j=some r∧(∀i,k≤i→i<j→f i=none)∧L n k=some (.inr r)
 |0,k,hk,hn=>by omega
 |n+1,k,hk,hn=>by
  by_cases he:k=len
  ·subst he
   exact .inl ⟨h3 n,fun j h1 h2=>by omega⟩
  cases hf:f k with
  |some r=>exact .inr ⟨k,r,Nat.le_refl _,by omega,hf,fun i _ _=>by omega,h2 n k r (by omega) hf⟩
  |none=>
   rw[h1 n k (by omega) hf]
   rcases HM f h1 h2 h3 n (k+1) (by omega) (by omega) with⟨e,h⟩|⟨j,r,a1,a2,a3,a4,a5⟩
   ·refine .inl ⟨e,fun j hj hl=> ?_⟩
    by_cases hjk:j=k
    ·rw[hjk];exact hf
    ·exact h j (by omega) hl
   ·refine .inr ⟨j,r,by omega,a2,a3,fun i h1 h2=> ?_,a5⟩
    by_cases hik:i=k
    ·rw[hik];exact hf
    ·exact a4 i (by omega) h2
theorem FN {β:Type} {L:Nat→Int→Option (Sum Unit β)} {len:Nat} (f:Nat→Option β)
  (h1:∀n (k:Nat),k<len→f k=none→L (n+1) k=L n ((k+1:Nat):Int)) (h2:∀n (k:Nat) r,k<len→f k=some r→L (n+1) k=some (.inr r)) (h3:∀n,L (n+1) len=some (.inl ())) (n:Nat) (hn:len<n):
  (L n 0=some (.inl ())∧∀j,j<len→f j=none)∨∃j r,j<len∧f j=some r∧(∀i,i<j→f i=none)∧L n 0=some (.inr r):=by
 have:=HM f h1 h2 h3 n 0 (by omega) (by omega)
 rw[Int.natCast_zero] at this
 rcases this with⟨e,h⟩|⟨j,r,a1,a2,a3,a4,e⟩
 ·exact .inl ⟨e,fun j hj=>h j (by omega) hj⟩
 ·exact .inr ⟨j,r,a2,a3,fun i hi=>a4 i (by omega) hi,e⟩
theorem ns (k:Nat):((k+1:Nat):Int)=(k:Int)+1:=by omega
theorem FO (i n:Nat):((i:Int)+1).tmod (n:Int)=(((i+1)%n:Nat):Int):=by
 rw[Int.tmod_eq_emod_of_nonneg (by omega)];rfl
theorem Bu {l:List Pt} {i:Nat} (h:i<l.length):nth l (i:Int)=some ((pa l i).1,(pa l i).2):=by
 rw[PG (0,0) (by omega) (by omega),Int.toNat_natCast];rfl
theorem Gf {α:Type} {p q:Prop} [Decidable p] [Decidable q] {k:Option α} (h:p→q):gd (p→q) k=k:=Aa h
theorem I5 {a b c:Pt} (ha:Sml a) (hb:Sml b) (hc:Sml c): -2000000≤trn a b c∧trn a b c≤2000000:=by
 unfold Sml at*
 have h1:=Eg (x:=b.1-a.1) (y:=c.2-a.2) (by omega) (by omega)
 have h2:=Eg (x:=b.2-a.2) (y:=c.1-a.1) (by omega) (by omega)
 unfold trn;omega
theorem DV {N:Nat} {a b c:Pt} (ha:Sml a) (hb:Sml b) (hc:Sml c):S0 N a.1 a.2 b.1 b.2 c.1 c.2=some (trn a b c):=by
 unfold Sml at*
 have h1:=Eg (x:=b.1-a.1) (y:=c.2-a.2) (by omega) (by omega)
 have h2:=Eg (x:=b.2-a.2) (y:=c.1-a.1) (by omega) (by omega)
 unfold S0 trn
 rw[Aa (by unfold I64;omega),Aa (by unfold I64;omega),Aa (by unfold I64;omega),Aa (by unfold I64;omega),Aa (by unfold I64;omega),Aa (by unfold I64;omega),Aa (by unfold I64;omega)]
theorem JK {N:Nat} {a b c:Pt} (ha:Sml a) (hb:Sml b) (hc:Sml c):SG N a.1 a.2 b.1 b.2 c.1 c.2=some (trn a b c):=by
 unfold Sml at*
 have h1:=Eg (x:=b.1-a.1) (y:=c.2-a.2) (by omega) (by omega)
 have h2:=Eg (x:=b.2-a.2) (y:=c.1-a.1) (by omega) (by omega)
 unfold SG trn
 rw[Aa (by unfold I64;omega),Aa (by unfold I64;omega),Aa (by unfold I64;omega),Aa (by unfold I64;omega),Aa (by unfold I64;omega),Aa (by unfold I64;omega),Aa (by unfold I64;omega)]
def On (p:Pt):Prop:=(0≤p.1∧p.1≤40)∧(0≤p.2∧p.2≤40)
instance (p:Pt):Decidable (On p):=inferInstanceAs (Decidable ((_∧_)∧(_∧_)))
theorem On.sml {p:Pt} (h:On p):Sml p:=by unfold On at h;unfold Sml;omega
structure VP (l:List Pt):Prop where
 l3:3≤l.length
 l8:l.length≤8
 on:∀p∈l,On p
 cv:Conv l
open Classical in
noncomputable def vB (l:List Pt):Bool:=decide (VP l)
theorem JL {l:List Pt}:vB l=true↔VP l:=by unfold vB;simp
theorem Ii {l:List Pt}:vB l=false↔¬VP l:=by unfold vB;simp
theorem Hb (N:Nat) (p:Pt):Us N p.1 p.2=some (!decide (On p)):=by
 unfold Us
 congr 1
 by_cases h:On p
 ·rw[decide_eq_true h]
  unfold On at h
  simp only[Bool.not_true,Bool.or_eq_false_iff,decide_eq_false_iff_not]
  omega
 ·rw[decide_eq_false h]
  unfold On at h
  simp only[Bool.not_false,Bool.or_eq_true,decide_eq_true_eq]
  omega
open Classical in
theorem JM {N:Nat} {l:List Pt} (hN:100≤N) (hl:l.length≤50):Sb N l=some (decide (∃p∈l,¬On p)):=by
 unfold Sb Sz
 have key:=FN (L:=Ss N l) (len:=l.length) (fun i=>if On (pa l i) then none else some (i:Int)) (fun n k hk hf=>by
   rw[Ss]
   have e1:decide ((k:Int)<(l.length:Int))=true:=by simp;omega
   have hon:On (pa l k):=by
    by_cases h:On (pa l k)
    ·exact h
    ·simp[h] at hf
   rw[e1,cT,Bu hk]
   simp only[bS]
   rw[Hb]
   simp only[bS,hon,decide_true,Bool.not_true,cF]
   rw[Aa (by unfold I64;omega),ns]) (fun n k r hk hf=>by
   rw[Ss]
   have e1:decide ((k:Int)<(l.length:Int))=true:=by simp;omega
   have hon:¬On (pa l k):=fun h=>by simp[h] at hf
   rw[if_neg hon] at hf
   rw[e1,cT,Bu hk]
   simp only[bS]
   rw[Hb]
   simp only[bS,hon,decide_false,Bool.not_false,cT]
   rw[←yJ hf]) (fun n=>by
   rw[Ss]
   have e1:decide ((l.length:Int)<(l.length:Int))=false:=by simp
   rw[e1,cF]) N (by omega)
 rcases key with⟨e,h⟩|⟨j,r,a2,a3,a4,e⟩
 ·rw[e]
  simp only[bS]
  congr 1
  symm
  simp only[show decide ((0:Int)≤-1)=false from rfl,decide_eq_false_iff_not]
  rintro⟨p,hp,hn⟩
  obtain⟨i,hi,rfl⟩:=EV hp
  have:=h i hi
  simp[hn] at this
 ·rw[e]
  simp only[bS]
  by_cases hon:On (pa l j)
  ·simp[hon] at a3
  ·simp only[hon,if_false,yE] at a3
   subst a3
   congr 1
   rw[show decide ((0:Int)≤(j:Int))=true from by simp]
   symm
   simp only[decide_eq_true_eq]
   exact⟨_,AJ a2,hon⟩
open Classical in
theorem Nz {N:Nat} {l:List Pt} (hl:l.length≤50) (ho:∀p∈l,Sml p) {i:Nat} (hi:i<l.length) (n:Nat) (hn:l.length<n):
  S3 N l i (pa l i).1 (pa l i).2 n 0=some (if∀k,k<l.length→k≠i→k≠(i+1)%l.length→0<trn (pa l i) (pa l ((i+1)%l.length)) (pa l k) then .inl () else .inr false):=by
 have hm:(i+1)%l.length<l.length:=Nat.mod_lt _ (by omega)
 have step:∀n (k:Nat),k<l.length→S3 N l i (pa l i).1 (pa l i).2 (n+1) k=if(k≠i∧k≠(i+1)%l.length)∧trn (pa l i) (pa l ((i+1)%l.length)) (pa l k)≤0 then some (.inr false) else S3 N l i (pa l i).1 (pa l i).2 n ((k+1:Nat):Int):=fun n k hk=>by
  rw[S3]
  have e1:decide ((k:Int)<(l.length:Int))=true:=by simp;omega
  have tu:=DV (N:=N) (ho _ (AJ hi)) (ho _ (AJ hm)) (ho _ (AJ hk))
  have e2:(l.getD (((i+1)%l.length:Nat):Int).toNat (0,0))=pa l ((i+1)%l.length):=by rw[Int.toNat_natCast];rfl
  rw[e1,cT,Bu hk]
  simp only[bS,FO,e2,tu,Option.isSome_some,Option.getD_some]
  rw[Aa (fun _=>⟨by omega,by omega⟩),Aa (fun _=>yT),Aa (by unfold I64;omega)]
  by_cases h:(k≠i∧k≠(i+1)%l.length)∧trn (pa l i) (pa l ((i+1)%l.length)) (pa l k)≤0
  ·rw[if_pos h]
   have e3:(((decide ((k:Int)≠(i:Int)))&&(decide ((k:Int)≠(((i+1)%l.length:Nat):Int))))&&(decide (trn (pa l i) (pa l ((i+1)%l.length)) (pa l k)≤0)))=true:=by
    obtain⟨⟨h1,h2⟩,h3⟩:=h
    simp only[Bool.and_eq_true,decide_eq_true_eq]
    exact⟨⟨by omega,by omega⟩,h3⟩
   rw[e3,cT]
  ·rw[if_neg h]
   have e3:(((decide ((k:Int)≠(i:Int)))&&(decide ((k:Int)≠(((i+1)%l.length:Nat):Int))))&&(decide (trn (pa l i) (pa l ((i+1)%l.length)) (pa l k)≤0)))=false:=by
    rw[Bool.eq_false_iff]
    intro hb
    simp only[Bool.and_eq_true,decide_eq_true_eq] at hb
    exact h ⟨⟨by omega,by omega⟩,hb.2⟩
   rw[e3,cF,ns]
 have key:=FN (L:=S3 N l i (pa l i).1 (pa l i).2) (len:=l.length) (fun k=>if(k≠i∧k≠(i+1)%l.length)∧trn (pa l i) (pa l ((i+1)%l.length)) (pa l k)≤0 then some false else none)
  (fun n k hk hf=>by
   rw[step n k hk,if_neg]
   intro h;rw[if_pos h] at hf;cases hf) (fun n k r hk hf=>by
   by_cases h:(k≠i∧k≠(i+1)%l.length)∧trn (pa l i) (pa l ((i+1)%l.length)) (pa l k)≤0
   ·rw[step n k hk,if_pos h];rw[if_pos h] at hf;cases hf;rfl
   ·rw[if_neg h] at hf;cases hf) (fun n=>by
   rw[S3]
   have e1:decide ((l.length:Int)<(l.length:Int))=false:=by simp
   rw[e1,cF]) n (by omega)
 rcases key with⟨e,h⟩|⟨j,r,a2,a3,a4,e⟩
 ·rw[e,if_pos]
  intro k hk h1 h2
  have:=h k hk
  rcases Int.lt_or_le 0 (trn (pa l i) (pa l ((i+1)%l.length)) (pa l k)) with h3|h3
  ·exact h3
  ·rw[if_pos ⟨⟨h1,h2⟩,h3⟩] at this;cases this
 ·rw[e]
  split at a3
  ·rename_i h;cases a3
   rw[if_neg]
   intro hA
   have:=hA j a2 h.1.1 h.1.2
   omega
  ·cases a3
open Classical in
theorem JN {N:Nat} (hN:100≤N) (l:List Pt):Sm N l=some (vB l):=by
 unfold Sm
 by_cases hl:l.length<3∨8<l.length
 ·have e1:((decide ((l.length:Int)<3))||(decide (8<(l.length:Int))))=true:=by simp;omega
  have e2:vB l=false:=Ii.2 fun h=>by have:=h.l3;have:=h.l8;omega
  simp only[e1,Bool.not_true,yF,Bool.true_or,cT,e2]
  rw[Aa (fun h=>by simp at h)]
 have e1:((decide ((l.length:Int)<3))||(decide (8<(l.length:Int))))=false:=by simp;omega
 rw[Aa (fun _=>by rw[JM hN (by omega)];rfl),JM hN (by omega)]
 simp only[e1,Bool.false_or,Option.getD_some]
 by_cases ho:∃p∈l,¬On p
 ·rw[show decide (∃p∈l,¬On p)=true from by simpa using ho,cT]
  have e2:vB l=false:=Ii.2 fun h=>by obtain⟨p,hp,hn⟩:=ho;exact hn (h.on p hp)
  rw[e2]
 rw[show decide (∃p∈l,¬On p)=false from by simpa using ho,cF]
 have hon:∀p∈l,On p:=fun p hp=>by
  by_cases h:On p
  ·exact h
  ·exact absurd ⟨p,hp,h⟩ ho
 have hs:∀p∈l,Sml p:=fun p hp=>(hon p hp).sml
 have step:∀n (i:Nat),i<l.length→Tb N l (n+1) i=if∀k,k<l.length→k≠i→k≠(i+1)%l.length→0<trn (pa l i) (pa l ((i+1)%l.length)) (pa l k) then Tb N l n ((i+1:Nat):Int) else some (.inr false):=fun n i hi=>by
  rw[Tb]
  have e1:decide ((i:Int)<(l.length:Int))=true:=by simp;omega
  rw[e1,cT,Bu hi]
  simp only[bS]
  rw[Aa (by unfold I64;omega),Aa (by omega),Nz (by omega) hs hi N (by omega)]
  split
  ·simp only[bS]
   rw[Aa (by unfold I64;omega),ns]
  ·simp only[bS]
 have key:=FN (L:=Tb N l) (len:=l.length) (fun i=>if∀k,k<l.length→k≠i→k≠(i+1)%l.length→0<trn (pa l i) (pa l ((i+1)%l.length)) (pa l k) then none else some false)
  (fun n k hk hf=>by
   rw[step n k hk]
   split
   ·rfl
   ·rename_i h;simp[if_neg h] at hf) (fun n k r hk hf=>by
   rw[step n k hk]
   split
   ·rename_i h;rw[if_pos h] at hf;cases hf
   ·rename_i h;rw[if_neg h] at hf;cases hf;rfl) (fun n=>by
   rw[Tb]
   have e1:decide ((l.length:Int)<(l.length:Int))=false:=by simp
   rw[e1,cF]) N (by omega)
 rcases key with⟨e,h⟩|⟨j,r,a2,a3,a4,e⟩
 ·rw[e]
  simp only[bS]
  congr 1
  symm
  refine JL.2 ⟨by omega,by omega,hon,fun i k hi hk n1 n2=> ?_⟩
  have:=h i hi
  split at this
  ·rename_i h;exact h k hk n1 n2
  ·cases this
 ·rw[e]
  simp only[bS]
  split at a3
  ·cases a3
  ·rename_i h;cases a3
   congr 1
   symm
   exact Ii.2 fun hv=>h fun k hk n1 n2=>hv.cv j k a2 hk n1 n2
theorem Cx {N:Nat} (hN:100≤N) {l:List Pt} (h:VP l):Sm N l=some true:=by rw[JN hN,JL.2 h]
def pk (c n:Int):Int:=if c<0 then(-(c+1)).tmod n else c.tmod n
theorem Db {c n:Int} (hn:0<n):0≤pk c n∧pk c n<n:=by
 unfold pk
 split
 ·exact⟨Int.tmod_nonneg _ (by omega),Int.tmod_lt_of_pos _ hn⟩
 ·exact⟨Int.tmod_nonneg _ (by omega),Int.tmod_lt_of_pos _ hn⟩
theorem CE {N:Nat} {c n:Int} (hc:I64 c) (hn:0<n):Si N c n=some (pk c n):=by
 unfold Si pk
 unfold I64 at hc
 by_cases h:c<0
 ·rw[decide_eq_true h,cT,if_pos h,Aa (by unfold I64;omega),Aa (by unfold I64;omega),Aa (by omega)]
 ·rw[decide_eq_false h,cF,if_neg h,Aa (by omega)]
theorem GI {l:List Pt} {i:Nat} (h:i<l.length):l.drop i=pa l i::l.drop (i+1):=by
 rw[Ba h];exact List.drop_eq_getElem_cons h
theorem dlt {k n:Nat} (h:k<n):decide ((k:Int)<(n:Int))=true:=by simp;omega
theorem dge (n:Nat):decide ((n:Int)<(n:Int))=false:=by simp
theorem Hc (N:Nat) (l:List Pt) (hl:l.length≤1000):∀(n i:Nat) (f:Pt),i≤l.length→l.length<n+i→SV N l n i f.1 f.2=some ((l.drop i).foldl BY f)
 |0,i,f,hi,hn=>by omega
 |n+1,i,f,hi,hn=>by
  rw[SV]
  by_cases he:i=l.length
  ·subst he
   rw[dge,cF,List.drop_length];rfl
  have hi':i<l.length:=by omega
  rw[dlt hi',cT,Bu hi',bS,GI hi',List.foldl_cons]
  simp only
  rw[Aa (by unfold I64;omega),Aa (by unfold I64;omega),←ns,Hc N l hl n (i+1) (pa l i) (by omega) (by omega),Hc N l hl n (i+1) f (by omega) (by omega)]
  by_cases h:(pa l i).2<f.2∨((pa l i).2=f.2∧(pa l i).1<f.1)
  ·rw[cT' _ (by simpa using h),show BY f (pa l i)=pa l i from if_pos h]
  ·rw[cF' _ (by rw[Bool.eq_false_iff];simpa using h),show BY f (pa l i)=f from if_neg h]
theorem L8 {N:Nat} {a b:Pt} (ha:Sml a) (hb:Sml b):SR N a.1 a.2 b.1 b.2=some (dst a b):=by
 unfold Sml at*
 have h1:=Eg (x:=a.1-b.1) (y:=a.1-b.1) (by omega) (by omega)
 have h2:=Eg (x:=a.2-b.2) (y:=a.2-b.2) (by omega) (by omega)
 unfold SR dst
 rw[Aa (by unfold I64;omega),Aa (by unfold I64;omega),Aa (by unfold I64;omega),Aa (by unfold I64;omega),Aa (by unfold I64;omega),Aa (by unfold I64;omega),Aa (by unfold I64;omega)]
theorem ptE {p q:Pt}:(decide (p.1=q.1)&&decide (p.2=q.2))=decide (p=q):=by
 rw[Bool.eq_iff_iff]
 simp only[Bool.and_eq_true,decide_eq_true_eq]
 exact⟨fun h=>Prod.ext h.1 h.2,fun h=>by rw[h];exact⟨rfl,rfl⟩⟩
theorem Hd (N:Nat) (l:List Pt) (hl:l.length≤1000) (hs:∀p∈l,Sml p) (o:Pt) (ho:Sml o):∀(n i:Nat) (q:Pt),Sml q→i≤l.length→l.length<n+i→SJ N l o.1 o.2 n i q.1 q.2=some ((l.drop i).foldl (BM o) q)
 |0,i,f,_,hi,hn=>by omega
 |n+1,i,q,hq,hi,hn=>by
  rw[SJ]
  by_cases he:i=l.length
  ·subst he
   rw[dge,cF,List.drop_length];rfl
  have hi':i<l.length:=by omega
  have hp:=hs _ (AJ hi')
  rw[dlt hi',cT,Bu hi',bS,GI hi',List.foldl_cons]
  simp only
  rw[ptE]
  rw[Aa (by unfold I64;omega),←ns,Hd N l hl hs o ho n (i+1) q hq (by omega) (by omega),Aa (by unfold I64;omega),Hd N l hl hs o ho n (i+1) (pa l i) hp (by omega) (by omega),JK ho hq hp,bS,L8 ho hp,L8 ho hq]
  rw[Aa (fun _=>Option.isSome_some),Aa (fun _=>Option.isSome_some),Option.getD_some,Option.getD_some,ptE]
  by_cases hpo:pa l i=o
  ·rw[decide_eq_true hpo,cT,show BM o q (pa l i)=q from if_pos hpo]
  ·rw[decide_eq_false hpo,cF]
   by_cases h:q=o∨trn o q (pa l i)<0∨(trn o q (pa l i)=0∧dst o q<dst o (pa l i))
   ·rw[cT' _ (by simpa only[Bool.or_eq_true,Bool.and_eq_true,decide_eq_true_eq,or_assoc] using h),show BM o q (pa l i)=pa l i from by unfold BM;rw[if_neg hpo,if_pos h]]
   ·rw[cF' _ (by rw[Bool.eq_false_iff];simpa only[ne_eq,Bool.or_eq_true,Bool.and_eq_true,decide_eq_true_eq,or_assoc] using h),show BM o q (pa l i)=q from by unfold BM;rw[if_neg hpo,if_neg h]]
theorem OC {l:List Pt} {o:Pt} (hs:∀p∈l,Sml p):∀(q:Pt),Sml q→Sml (l.foldl (BM o) q):=by
 induction l with
 |nil=>intro q h;exact h
 |cons p l ih=>
  intro q h
  rw[List.foldl_cons]
  refine ih (fun r hr=>hs r (by simp[hr])) _ ?_
  unfold BM
  split
  ·exact h
  ·split
   ·exact hs p (by simp)
   ·exact h
theorem IJ {N:Nat} {l:List Pt} (hN:1000≤N) (hl:l.length≤100) (hs:∀p∈l,Sml p) (f:Pt):∀(n:Nat) (o:Pt) (out r:List Pt),Sml o→out.length+n≤5000→Dz l f n o out=some r→Te N l f.1 f.2 n o.1 o.2 out=some r
 |0,o,out,r,_,_,h=>by simp[Dz] at h
 |n+1,o,out,r,ho,hb,h=>by
  rw[Te]
  have e0:((0:Nat):Int)=0:=rfl
  have es:=Hd N l (by omega) hs o ho N 0 o ho (by omega) (by omega)
  rw[e0,List.drop_zero] at es
  have esl:l.foldl (BM o) o=sel o l:=rfl
  have es:SJ N l o.1 o.2 N 0 o.1 o.2=some ((sel o l).1,(sel o l).2):=es
  rw[es,bS]
  simp only
  rw[ptE,ptE]
  rw[Dz] at h
  by_cases hc:sel o l=o∨sel o l=f
  ·rw[if_pos hc] at h
   rw[cT' _ (by simpa using hc)]
   exact h
  ·rw[if_neg hc] at h
   rw[cF' _ (by rw[Bool.eq_false_iff];simpa using hc),Aa (by omega)]
   refine IJ hN hl hs f n (sel o l) _ r ?_ (by simp;omega) h
   rw[←esl];exact OC hs o ho
theorem OD {N:Nat} {l:List Pt} (hN:1000≤N) (h0:0<l.length) (hl:l.length≤100) (hs:∀p∈l,Sml p) (hNb:N≤4000):∃r,Tm N l=some r∧HullOK l r:=by
 unfold Tm
 have e0:nth l 0=some ((pa l 0).1,(pa l 0).2):=Bu (i:=0) h0
 rw[e0,bS]
 simp only
 have el:=Hc N l (by omega) N 0 (pa l 0) (by omega) (by omega)
 rw[show((0:Nat):Int)=0 from rfl,List.drop_zero] at el
 have el:SV N l N 0 (pa l 0).1 (pa l 0).2=some ((low (pa l 0) l).1,(low (pa l 0) l).2):=el
 rw[el,bS]
 simp only
 obtain⟨h1,h2⟩:=JJ l (pa l 0)
 have hm:low (pa l 0) l∈l:=by
  rcases List.mem_cons.1 h1 with h|h
  ·rw[h];exact AJ h0
  ·exact h
 have hx:=Oz hs hm (fun p hp=>h2 p (by simp[hp]))
 obtain⟨r,hr,ho⟩:=KF hs (low (pa l 0) l) N (low (pa l 0) l) [low (pa l 0) l] (Nw hm hx) (by simp;omega)
 refine⟨r, ?_,ho⟩
 rw[show[((low (pa l 0) l).1,(low (pa l 0) l).2)]=[low (pa l 0) l] from rfl,IJ hN hl hs _ N _ _ r (hs _ hm) (by simp;omega) hr,bS]
def In2 (x:List Pt):Prop:=∀p∈x,I64 p.1∧I64 p.2
theorem KH {N:Nat} {x:List Pt} {low high:Int} (hx:In2 x) (h0:0≤low) (hlh:low≤high) (h1:high≤40):∀(n i:Nat) (out:List Pt),i≤8→i≤x.length→out.length=i→(∀p∈out,On p∧low≤p.1∧p.1≤high)→8<n+i→
  ∃P,Tf N x high low n i out=some P∧P.length≤8∧∀p∈P,On p∧low≤p.1∧p.1≤high
 |0,i,out,h8,hi,ho,hp,hn=>by omega
 |n+1,i,out,h8,hi,ho,hp,hn=>by
  rw[Tf]
  by_cases hc:i<x.length∧i<8
  ·obtain⟨c1,c2⟩:=hc
   have hm:=hx _ (AJ c1)
   have b1:= @Db (pa x i).1 ((high-low)+1) (by omega)
   have b2:= @Db (pa x i).2 41 (by omega)
   rw[cT' _ (by simp;omega),Bu c1,bS]
   simp only
   rw[Aa (by unfold I64;omega),Aa (by unfold I64;omega),CE hm.1 (by omega),bS,Aa (by unfold I64;omega),CE hm.2 (by omega),bS,Aa (by omega),Aa (by unfold I64;omega),←ns]
   refine KH hx h0 hlh h1 n (i+1) _ (by omega) (by omega) (by simp;omega) (fun p hp'=> ?_) (by omega)
   rcases List.mem_append.1 hp' with h|h
   ·exact hp p h
   ·simp at h
    subst h
    refine⟨⟨⟨?_, ?_⟩, ?_, ?_⟩, ?_, ?_⟩<;>simp only<;>omega
  ·rw[cF' _ (by rw[Bool.eq_false_iff];simp;omega)]
   exact⟨out,rfl,by omega,hp⟩
theorem JO {l:List Pt} {k i:Nat} (hk:k≤l.length) (hi:i<l.length):pa (l.drop k++l.take k) i=pa l ((k+i)%l.length):=by
 by_cases h:i<l.length-k
 ·rw[Es (by simp;omega),Nat.mod_eq_of_lt (by omega),Ba (by simp;omega),Ba (by omega),List.getElem_drop]
 ·rw[GH (by simp;omega) (by simp;omega),Ba (by simp;omega),List.getElem_take,Ba (Nat.mod_lt _ (by omega))]
  congr 1
  simp only[List.length_drop]
  rw[Nat.mod_eq_sub_mod (by omega),Nat.mod_eq_of_lt (by omega)]
  omega
theorem Ij {l:List Pt} {k:Nat} (hk:k≤l.length):(l.drop k++l.take k).length=l.length:=by simp;omega
theorem D3 {n k i j:Nat} (hi:i<n) (hj:j<n) (h:(k+i)%n=(k+j)%n):i=j:=by
 have h1:((k%n+i)%n)=((k%n+j)%n):=by simpa [Nat.add_mod] using h
 have hk:k%n<n:=Nat.mod_lt _ (by omega)
 generalize k%n=m at*
 by_cases a:m+i<n<;>by_cases b:m+j<n
 ·rw[Nat.mod_eq_of_lt a,Nat.mod_eq_of_lt b] at h1;omega
 ·rw[Nat.mod_eq_of_lt a,Nat.mod_eq_sub_mod (by omega),Nat.mod_eq_of_lt (by omega)] at h1;omega
 ·rw[Nat.mod_eq_of_lt b,Nat.mod_eq_sub_mod (by omega),Nat.mod_eq_of_lt (by omega)] at h1;omega
 ·rw[Nat.mod_eq_sub_mod (by omega),Nat.mod_eq_of_lt (by omega),Nat.mod_eq_sub_mod (by omega:n≤m+j),Nat.mod_eq_of_lt (by omega)] at h1;omega
theorem NA {l:List Pt} {k:Nat} (hk:k≤l.length) (h:Conv l):Conv (l.drop k++l.take k):=by
 intro i j hi hj n1 n2
 rw[Ij hk] at hi hj n2⊢
 have hi2:(i+1)%l.length<l.length:=Nat.mod_lt _ (by omega)
 rw[JO hk hi,JO hk hj,JO hk hi2]
 have e:(k+(i+1)%l.length)%l.length=((k+i)%l.length+1)%l.length:=by
  rw[Nat.add_mod_mod,Nat.mod_add_mod,Nat.add_assoc]
 rw[e]
 refine h _ _ (Nat.mod_lt _ (by omega)) (Nat.mod_lt _ (by omega)) (fun q=>n1 (D3 hj hi q)) (fun q=>n2 ?_)
 rw[←e] at q
 exact D3 hj hi2 q
structure MP (low high:Int) (l:List Pt):Prop where
 vp:VP l
 box:∀p∈l,low≤p.1∧p.1≤high
theorem MP.rot {low high:Int} {l:List Pt} (h:MP low high l) {k:Nat} (hk:k≤l.length):MP low high (l.drop k++l.take k):=by
 have hm:∀p∈l.drop k++l.take k,p∈l:=fun p hp=>by
  rcases List.mem_append.1 hp with h|h
  ·exact List.mem_of_mem_drop h
  ·exact List.mem_of_mem_take h
 exact⟨⟨by rw[Ij hk];exact h.vp.l3,by rw[Ij hk];exact h.vp.l8,fun p hp=>h.vp.on p (hm p hp),NA hk h.vp.cv⟩,fun p hp=>h.box p (hm p hp)⟩
theorem JP {low high:Int} (h0:0≤low) (hlh:low<high) (h1:high≤40):MP low high [(low,10),(high,10),(low,20)]:=by
 have e:(high-low)*10>0:=by omega
 refine⟨⟨by simp,by simp, ?_, ?_⟩, ?_⟩
 ·intro p hp
  simp at hp
  rcases hp with rfl|rfl|rfl<;>refine⟨⟨?_, ?_⟩, ?_, ?_⟩<;>simp only<;>omega
 ·intro i k hi hk n1 n2
  have hi':i=0∨i=1∨i=2:=by simp at hi;omega
  have hk':k=0∨k=1∨k=2:=by simp at hk;omega
  rcases hi' with rfl|rfl|rfl<;>rcases hk' with rfl|rfl|rfl<;>simp at n1 n2<;>simp[trn,pa]<;>omega
 ·intro p hp
  simp at hp
  rcases hp with rfl|rfl|rfl<;>simp only<;>omega
theorem GJ {N:Nat} (hN:1000≤N) (hNb:N≤4000) {x:List Pt} {low high:Int} (hx:In2 x) (h0:0≤low) (hlh:low<high) (h1:high≤40):∃l,SH N x low high=some l∧MP low high l:=by
 unfold SH
 obtain⟨P,eP,hP8,hP⟩:=KH (N:=N) hx h0 (Int.le_of_lt hlh) h1 N 0 [] (by omega) (by omega) rfl (by simp) (by omega)
 rw[show((0:Nat):Int)=0 from rfl] at eP
 rw[eP,bS]
 have key:∃l,(bif decide (0<(P.length:Int)) then((Tm N P).bind fun r193=>bif decide (3≤(r193.length:Int)) then(some r193) else(some [(low,10),(high,10),(low,20)])) else(some [(low,10),(high,10),(low,20)]):Option (List (Int×Int)))=some l∧MP low high l:=by
  by_cases hp:0<P.length
  ·rw[decide_eq_true (by omega),cT]
   obtain⟨r,hr,ho⟩:=OD hN hp (by omega) (fun p h=>(hP p h).1.sml) hNb
   rw[hr,bS]
   by_cases h3:3≤r.length
   ·rw[decide_eq_true (by omega),cT]
    refine⟨r,rfl,⟨h3, ?_,fun p h=>(hP p (ho.sub p h)).1,ho.conv h3⟩,fun p h=>(hP p (ho.sub p h)).2⟩
    have:=Ge r P ho.nd ho.sub
    omega
   ·rw[decide_eq_false (by omega),cF]
    exact⟨_,rfl,JP h0 hlh h1⟩
  ·rw[decide_eq_false (by omega),cF]
   exact⟨_,rfl,JP h0 hlh h1⟩
 obtain⟨l,el,hl⟩:=key
 rw[el,bS]
 have l3:=hl.vp.l3
 have l8:=hl.vp.l8
 by_cases hxl:0<x.length
 ·have hm:=hx _ (AJ hxl)
  have e0:nth x 0=some ((pa x 0).1,(pa x 0).2):=Bu (i:=0) hxl
  rw[decide_eq_true (by omega),cT,e0,bS]
  simp only
  have hq:I64 ((pa x 0).1.tdiv 41):=by
   obtain⟨⟨m1,m2⟩,_⟩:=hm
   have q1:=Int.tdiv_le_tdiv (c:=41) (by omega) m2
   have q2:=Int.tdiv_le_tdiv (c:=41) (by omega) m1
   have q3:(-9223372036854775808:Int).tdiv 41= -224960293581823800:=by decide+kernel
   have q4:(9223372036854775807:Int).tdiv 41=224960293581823800:=by decide+kernel
   rw[q3] at q2
   rw[q4] at q1
   unfold I64;omega
  have b:= @Db ((pa x 0).1.tdiv 41) (l.length:Int) (by omega)
  rw[Aa hq,CE hq (by omega),bS]
  generalize pk ((pa x 0).1.tdiv 41) (l.length:Int)=r at*
  obtain⟨k,rfl⟩:∃k:Nat,r=k:=⟨r.toNat,by omega⟩
  have hk:k≤l.length:=by omega
  rw[Int.toNat_natCast,Nat.sub_zero]
  rw[Aa ⟨by omega,by omega⟩,Aa (by simp;omega),Aa ⟨by omega,by omega,by omega⟩,Aa (by simp;omega)]
  exact⟨_,rfl,hl.rot hk⟩
 ·rw[decide_eq_false (by omega),cF,Aa ⟨by omega,by omega⟩,Aa (by simp;omega),Aa ⟨by omega,by omega,by omega⟩,Aa (by simp;omega)]
  exact⟨_,rfl,by simpa using hl⟩
def E (l:List Pt) (i:Nat) (p:Pt):Int:=trn (pa l i) (pa l ((i+1)%l.length)) p
def inn (l:List Pt) (p:Pt):Prop:=∀i,i<l.length→0<E l i p
def clo (l:List Pt) (p:Pt):Prop:=∀i,i<l.length→0≤E l i p
theorem inn.clo {l:List Pt} {p:Pt} (h:inn l p):clo l p:=fun i hi=>Int.le_of_lt (h i hi)
open Classical in
noncomputable def sd (l:List Pt) (p:Pt):Int:=if inn l p then 1 else if clo l p then 0 else-1
theorem R5 {l:List Pt} {p:Pt}:sd l p=1↔inn l p:=by
 unfold sd
 split
 ·simp[*]
 ·split<;>simp[*]
theorem R6 {l:List Pt} {p:Pt}:sd l p=0↔clo l p∧¬inn l p:=by
 unfold sd
 split
 ·simp[*]
 ·split<;>simp[*]
theorem Rb (l:List Pt) (p:Pt):sd l p=1∨sd l p=0∨sd l p= -1:=by
 unfold sd
 split
 ·simp
 ·split<;>simp
theorem BL {l:List Pt} {e:Pt×Pt}:e∈AS l↔∃i,i<l.length∧e=(pa l i,pa l ((i+1)%l.length)):=by
 unfold AS
 simp only[List.mem_map,List.mem_range]
 exact⟨fun⟨i,h,e⟩=>⟨i,h,e.symm⟩,fun⟨i,h,e⟩=>⟨i,h,e.symm⟩⟩
theorem B9 {l:List Pt} (hs:∀p∈l,Sml p):∀e∈AS l,Sml e.1∧Sml e.2:=fun e he=>by
 obtain⟨i,hi,rfl⟩:=BL.1 he
 exact⟨hs _ (AJ hi),hs _ (AJ (Nat.mod_lt _ (by omega)))⟩
theorem FP (N:Nat) (x y:Int):Tw N x y=some (if x<y then-1 else if y<x then 1 else 0):=by
 unfold Tw Uf
 rw[decide_eq_false (by simp),bS,decide_eq_false (by simp),bS,cF,cF]
 by_cases h:x<y
 ·rw[decide_eq_true h,cT,if_pos h]
 ·rw[decide_eq_false h,cF,if_neg h]
  by_cases h:y<x
  ·rw[decide_eq_true h,cT,if_pos h]
  ·rw[decide_eq_false h,cF,if_neg h]
theorem VP.sml {l:List Pt} (h:VP l):∀p∈l,Sml p:=fun p hp=>(h.on p hp).sml
theorem NB {f:Pt→Pt} {l:List Pt} {i:Nat} (hi:i<l.length) (v:Pt):((l.take i).map f++l.drop i).set i v=(l.take i).map f++v::l.drop (i+1):=by
 have e:((l.take i).map f).length=i:=by simp;omega
 rw[GI hi,List.set_append_right _ _ (by omega),e,Nat.sub_self,List.set_cons_zero]
theorem L9 {f:Pt→Pt} {l:List Pt} {i:Nat} (hi:i<l.length) (u v:Pt):((l.take i).map f++u::l.drop (i+1)).set i v=(l.take i).map f++v::l.drop (i+1):=by
 have e:((l.take i).map f).length=i:=by simp;omega
 rw[List.set_append_right _ _ (by omega),e,Nat.sub_self,List.set_cons_zero]
theorem JR {f:Pt→Pt} {l R:List Pt} {i:Nat} (hi:i<l.length) (u:Pt):nth ((l.take i).map f++u::R) (i:Int)=some u:=by
 have e:((l.take i).map f).length=i:=by simp;omega
 rw[Ow,List.getElem?_append_right (by omega),e,Nat.sub_self];rfl
theorem NC {f:Pt→Pt} {l:List Pt} {i:Nat} (hi:i<l.length):(l.take i).map f++f (pa l i)::l.drop (i+1)=(l.take (i+1)).map f++l.drop (i+1):=by
 rw[List.take_succ_eq_append_getElem hi,List.map_append,List.map_singleton,←Ba hi,List.append_assoc];rfl
theorem VP.ne {l:List Pt} (h:VP l) {i:Nat} (hi:i<l.length):pa l i≠pa l ((i+1)%l.length):=fun e=>by
 have l3:=h.l3
 obtain⟨k,hk,n1,n2⟩:∃k,k<l.length∧k≠i∧k≠(i+1)%l.length:=by
  by_cases h0:0≠i∧0≠(i+1)%l.length
  ·exact⟨0,by omega,h0.1,h0.2⟩
  by_cases h1:1≠i∧1≠(i+1)%l.length
  ·exact⟨1,by omega,h1.1,h1.2⟩
  exact⟨2,by omega,by omega,by omega⟩
 have:=h.cv i k hi hk n1 n2
 rw[←e,L6] at this
 omega
theorem Ca {f:Pt→Pt} {l:List Pt} {i:Nat} (h:i<l.length):pa (l.map f) i=f (pa l i):=by
 rw[Ba (by simpa using h),List.getElem_map,Ba h]
def EdS (es:List (Pt×Pt)):Prop:=∀e∈es,Sml e.1∧Sml e.2
theorem EdS.tl {e:Pt×Pt} {es:List (Pt×Pt)} (h:EdS (e::es)):EdS es:=fun x hx=>h x (by simp[hx])
def arE (o:Pt) (e:Pt×Pt):Int:=trn o e.1 e.2
def mxE (o:Pt) (e:Pt×Pt):Int:=trn o e.1 e.2*(o.1+e.1.1+e.2.1)
def myE (o:Pt) (e:Pt×Pt):Int:=trn o e.1 e.2*(o.2+e.1.2+e.2.2)
def BS (l:List Pt):Int:=((AS l).map (arE (pa l 0))).sum
def DW (l:List Pt):Int:=((AS l).map (mxE (pa l 0))).sum
def EG (l:List Pt):Int:=((AS l).map (myE (pa l 0))).sum
theorem PM {x y:Int} (hx: -2000000≤x∧x≤2000000) (hy: -1300≤y∧y≤1300): -2600000000≤x*y∧x*y≤2600000000:=by
 have h1:0≤(2000000-x)*(1300+y):=Int.mul_nonneg (by omega) (by omega)
 have h2:0≤(2000000+x)*(1300-y):=Int.mul_nonneg (by omega) (by omega)
 have h3:0≤(2000000+x)*(1300+y):=Int.mul_nonneg (by omega) (by omega)
 have h4:0≤(2000000-x)*(1300-y):=Int.mul_nonneg (by omega) (by omega)
 constructor<;>grind
theorem NQ {o:Pt} {e:Pt×Pt} (ho:Sml o) (h:Sml e.1∧Sml e.2): -2000000≤arE o e∧arE o e≤2000000:=I5 ho h.1 h.2
theorem NR {o:Pt} {e:Pt×Pt} (ho:Sml o) (h:Sml e.1∧Sml e.2): -2600000000≤mxE o e∧mxE o e≤2600000000:=by
 have:=I5 ho h.1 h.2
 obtain⟨h1,h2⟩:=h
 unfold Sml at*
 exact PM this (by omega)
theorem NS {o:Pt} {e:Pt×Pt} (ho:Sml o) (h:Sml e.1∧Sml e.2): -2600000000≤myE o e∧myE o e≤2600000000:=by
 have:=I5 ho h.1 h.2
 obtain⟨h1,h2⟩:=h
 unfold Sml at*
 exact PM this (by omega)
theorem IP (N:Nat) {l:List Pt} (hl:0<l.length) (hs:∀p∈l,Sml p):∀(es:List (Pt×Pt)) (k:Nat) (o:Int),EdS es→k+es.length≤1000→(-3000000*k≤o∧o≤3000000*k)→TI N l es o=some (o+(es.map (arE (pa l 0))).sum)
 |[],k,o,h,hk,hb=>by simp[TI]
 |e::es,k,o,h,hk,hb=>by
  have he:=h e (by simp)
  have ho:=hs _ (AJ hl)
  have b:=NQ ho he
  rw[show e=((e.1.1,e.1.2),(e.2.1,e.2.2)) from rfl,TI,show nth l 0=some ((pa l 0).1,(pa l 0).2) from Bu (i:=0) hl,bS]
  simp only
  simp only[List.length_cons] at hk
  rw[DV ho he.1 he.2,bS,Aa (by unfold I64;unfold arE at b;omega),IP N hl hs es (k+1) _ h.tl (by omega) (by unfold arE at b;omega),List.map_cons,List.sum_cons,Int.add_assoc]
  rfl
theorem OL {N:Nat} (hN:100≤N) {l:List Pt} (h:VP l):Ut N l=some (BS l):=by
 unfold Ut
 have l3:=h.l3
 have l8:=h.l8
 have:=IP N (l:=l) (by omega) h.sml (AS l) 0 0 (B9 h.sml) (by rw[Dc];omega) (by omega)
 rw[Cx hN h,bS,cF' _ (by rfl),Aa (by omega),this,bS,Int.zero_add]
 rfl
theorem JV (N:Nat) {l:List Pt} (hl:0<l.length) (hs:∀p∈l,Sml p):∀(es:List (Pt×Pt)) (k:Nat) (u v:Int),EdS es→k+es.length≤1000→(-3000000000*k≤u∧u≤3000000000*k)→(-3000000000*k≤v∧v≤3000000000*k)→
  Tp N l es u v=some (u+(es.map (myE (pa l 0))).sum,v+(es.map (mxE (pa l 0))).sum)
 |[],k,u,v,h,hk,h1,h2=>by simp[Tp]
 |e::es,k,u,v,h,hk,h1,h2=>by
  have he:=h e (by simp)
  have ho:=hs _ (AJ hl)
  have b1:=NR ho he
  have b2:=NS ho he
  have tb:=I5 ho he.1 he.2
  have ho':=ho
  obtain⟨he1,he2⟩:=he
  rw[show e=((e.1.1,e.1.2),(e.2.1,e.2.2)) from rfl,Tp,show nth l 0=some ((pa l 0).1,(pa l 0).2) from Bu (i:=0) hl,bS]
  simp only
  simp only[List.length_cons] at hk
  rw[DV ho he1 he2,bS]
  unfold Sml at ho' he1 he2
  have c1:trn (pa l 0) e.1 e.2*(((pa l 0).1+e.1.1)+e.2.1)=mxE (pa l 0) e:=rfl
  have c2:trn (pa l 0) e.1 e.2*(((pa l 0).2+e.1.2)+e.2.2)=myE (pa l 0) e:=rfl
  rw[c1,c2,Aa (by unfold I64;omega),Aa (by unfold I64;omega),Aa (by unfold I64;omega),Aa (by unfold I64;omega),Aa (by unfold I64;omega),Aa (by unfold I64;omega),Aa (by unfold I64;omega),Aa (by unfold I64;omega),
   JV N hl hs es (k+1) _ _ h.tl (by omega) (by omega) (by omega)]
  rw[show((e.1.1,e.1.2),(e.2.1,e.2.2))=e from rfl,List.map_cons,List.sum_cons,List.map_cons,List.sum_cons,Int.add_assoc,Int.add_assoc]
theorem PN {N:Nat} (hN:100≤N) {l:List Pt} (h:VP l):TW N l=some (DW l,EG l):=by
 unfold TW
 have l3:=h.l3
 have l8:=h.l8
 have:=JV N (l:=l) (by omega) h.sml (AS l) 0 0 0 (B9 h.sml) (by rw[Dc];omega) (by omega) (by omega)
 rw[Cx hN h,bS,cF' _ (by rfl),Aa (by omega),this,bS,Int.zero_add,Int.zero_add]
 rfl
theorem HS {α:Type} (f:α→Int) (B:Int):∀(es:List α),(∀e∈es,-B≤f e∧f e≤B)→-B*es.length≤(es.map f).sum∧(es.map f).sum≤B*es.length
 |[],_=>by simp
 |e::es,h=>by
  have h1:=h e (by simp)
  have h2:=HS f B es fun x hx=>h x (by simp[hx])
  simp only[List.map_cons,List.sum_cons,List.length_cons,ns]
  rw[Int.mul_add,Int.mul_add]
  omega
theorem Me {l:List Pt} (h:VP l): -16000000≤BS l∧BS l≤16000000:=by
 have l3:=h.l3
 have l8:=h.l8
 have:=HS (arE (pa l 0)) 2000000 (AS l) fun e he=>by
  have:=NQ (h.sml _ (AJ (i:=0) (by omega))) (B9 h.sml e he)
  omega
 rw[Dc] at this
 unfold BS
 omega
theorem Qz {l:List Pt} (h:VP l):(-20800000000≤DW l∧DW l≤20800000000)∧-20800000000≤EG l∧EG l≤20800000000:=by
 have l3:=h.l3
 have l8:=h.l8
 have h1:=HS (mxE (pa l 0)) 2600000000 (AS l) fun e he=>by
  have:=NR (h.sml _ (AJ (i:=0) (by omega))) (B9 h.sml e he)
  omega
 have h2:=HS (myE (pa l 0)) 2600000000 (AS l) fun e he=>by
  have:=NS (h.sml _ (AJ (i:=0) (by omega))) (B9 h.sml e he)
  omega
 rw[Dc] at h1 h2
 unfold DW EG
 omega
end Go.Proofs.YtdabfcbelkjmgaaGreatDoor.Am
