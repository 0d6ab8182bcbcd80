import Derived.Test.YtdabfcbelkjmgaaGreatDoorM9
import Derived.Test.YtdabfcbelkjmgaaGreatDoorD2
namespace Go.Proofs.YtdabfcbelkjmgaaGreatDoor.Am
set_option linter.unusedSimpArgs false
set_option linter.unusedVariables false
def qa (l:List Pt) (t:Nat):Pt:=pa l (t%l.length)
theorem Cm {l:List Pt} {t:Nat} (h:t<l.length):qa l t=pa l t:=by unfold qa;rw[Nat.mod_eq_of_lt h]
theorem BP (l:List Pt) (t:Nat):qa l (t+l.length)=qa l t:=by unfold qa;rw[Nat.add_mod_right]
theorem ED {l:List Pt} (h:0<l.length) (t:Nat):qa l t∈l:=AJ (Nat.mod_lt _ h)
theorem HO {n s a b:Nat} (ha:a<n) (hb:b<n) (h:a≠b):(s+a)%n≠(s+b)%n:=fun e=>h (D3 ha hb e)
theorem BF {l:List Pt} (h:Conv l) {s a:Nat} (h2:2≤a) (ha:a<l.length):0<trn (qa l s) (qa l (s+1)) (qa l (s+a)):=by
 have hn:0<l.length:=by omega
 have e:=h (s%l.length) ((s+a)%l.length) (Nat.mod_lt _ hn) (Nat.mod_lt _ hn) (fun e=>HO (s:=s) (by omega:a<l.length) (by omega:0<l.length) (by omega) (by simpa using e)) (fun e=>HO (s:=s) (by omega:a<l.length) (by omega:1<l.length) (by omega) (by rw[e,Nat.mod_add_mod]))
 rw[Nat.mod_add_mod] at e
 exact e
theorem EE {l:List Pt} (h:Conv l) (s a:Nat) (h1:1≤a):∀d,a+d+1<l.length→0<trn (qa l s) (qa l (s+a)) (qa l (s+(a+d+1)))
 |0,hd=>by
  have e:=BF h (s:=s+a) (a:=l.length-a) (by omega) (by omega)
  rw[show s+a+(l.length-a)=s+l.length by omega,BP,BX,BX] at e
  have e2:=BX (qa l s) (qa l (s+a)) (qa l (s+a+1))
  rw[show s+(a+0+1)=s+a+1 by omega]
  have e3:=BX (qa l (s+a)) (qa l (s+a+1)) (qa l s)
  omega
 |d+1,hd=>by
  have ih:=EE h s a h1 d (by omega)
  have ed:=EE h s (a+d+1) (by omega) 0 (by omega)
  rw[show s+(a+d+1+0+1)=s+(a+(d+1)+1) by omega] at ed
  have lb:0<trn (qa l s) (qa l (s+1)) (qa l (s+(a+d+1))):=BF h (by omega) (by omega)
  have lc:0<trn (qa l s) (qa l (s+1)) (qa l (s+(a+(d+1)+1))):=BF h (by omega) (by omega)
  have la:0≤trn (qa l s) (qa l (s+1)) (qa l (s+a)):=by
   by_cases e:a=1
   ·rw[e,Bn];omega
   ·exact Int.le_of_lt (BF h (by omega) (by omega))
  generalize qa l (s+1)=v at*
  generalize qa l (s+(a+(d+1)+1))=C at*
  generalize qa l (s+(a+d+1))=B at*
  generalize qa l (s+a)=A at*
  generalize qa l s=o at*
  have key:trn o v B*trn o A C=trn o v A*trn o B C+trn o v C*trn o A B:=by unfold trn;grind
  have k1:0≤trn o v A*trn o B C:=Int.mul_nonneg la (by omega)
  have k2:=Int.mul_pos lc ih
  exact CD lb (by omega)
def arc (l:List Pt) (i m:Nat):List Pt:=(List.range (m+1)).map fun t=>qa l (i+t)
theorem AI (l:List Pt) (i m:Nat):(arc l i m).length=m+1:=by simp[arc]
theorem Cb {l:List Pt} {i m t:Nat} (h:t≤m):pa (arc l i m) t=qa l (i+t):=by
 rw[Ba (by rw[AI];omega)];simp[arc]
theorem Ik {l:List Pt} (hl:0<l.length) {i m:Nat} {p:Pt} (h:p∈arc l i m):p∈l:=by
 unfold arc at h
 obtain⟨t,_,rfl⟩:=List.mem_map.1 h
 exact ED hl _
theorem Ma {l:List Pt} (h:VP l) {i m:Nat} (h2:2≤m) (hm:m<l.length):VP (arc l i m):=by
 have l3:=h.l3
 refine⟨by rw[AI];omega,by rw[AI];have:=h.l8;omega,fun p hp=>h.on p (Ik (by omega) hp), ?_⟩
 intro t k ht hk n1 n2
 rw[AI] at ht hk n2⊢
 by_cases e:t=m
 ·subst e
  rw[Nat.mod_self] at n2⊢
  rw[Cb (Nat.le_refl _),Cb (Nat.zero_le _),Cb (by omega)]
  have:=EE h.cv i k (by omega) (t-k-1) (by omega)
  rw[show k+(t-k-1)+1=t by omega] at this
  rw[Nat.add_zero,BX,BX]
  exact this
 ·rw[Nat.mod_eq_of_lt (by omega)] at n2⊢
  rw[Cb (by omega),Cb (by omega),Cb (by omega)]
  by_cases hkt:t<k
  ·have:=BF h.cv (s:=i+t) (a:=k-t) (by omega) (by omega)
   rw[show i+t+(k-t)=i+k by omega] at this
   exact this
  ·have:=BF h.cv (s:=i+t) (a:=l.length+k-t) (by omega) (by omega)
   rw[show i+t+(l.length+k-t)=i+k+l.length by omega,BP] at this
   exact this
theorem Mb (N:Nat) (p:Pt):Tx N p.1 p.2=some (decide (On p)):=by
 unfold Tx
 congr 1
 by_cases h:On p
 ·rw[decide_eq_true h]
  unfold On at h
  simp only[Bool.and_eq_true,decide_eq_true_eq]
  omega
 ·rw[decide_eq_false h]
  unfold On at h
  rw[Bool.eq_false_iff]
  simp only[ne_eq,Bool.and_eq_true,decide_eq_true_eq]
  omega
theorem OF (N:Nat) {l:List Pt} {i:Nat} (hl:l.length≤1000) (h:i<l.length):Sl N l i=some (pa l ((i+1)%l.length)):=by
 unfold Sl
 rw[Aa (by unfold I64;omega),Aa (by omega),FO,Bu (Nat.mod_lt _ (by omega)),bS]
open Classical in
theorem Mc {N:Nat} {l:List Pt} (hl:l.length≤50) (ho:∀p∈l,Sml p) {i:Nat} (hi:i<l.length) (n:Nat) (hn:l.length<n):
  Sy N l i n 0=some (if∀k,k<l.length→k≠i→k≠(i+1)%l.length→0<trn (pa l i) (pa l ((i+1)%l.length)) (pa l k) then .inl () else .inr false):=by
 have hm:(i+1)%l.length<l.length:=Nat.mod_lt _ (by omega)
 have step:∀n (k:Nat),k<l.length→Sy N l i (n+1) k=if(k≠i∧k≠(i+1)%l.length)∧trn (pa l i) (pa l ((i+1)%l.length)) (pa l k)≤0 then some (.inr false) else Sy N l i n ((k+1:Nat):Int):=fun n k hk=>by
  rw[Sy]
  have tu:=JK (N:=N) (ho _ (AJ hi)) (ho _ (AJ hm)) (ho _ (AJ hk))
  have e2:l.getD (i:Int).toNat (0,0)=pa l i:=by rw[Int.toNat_natCast];rfl
  have e3:l.getD (k:Int).toNat (0,0)=pa l k:=by rw[Int.toNat_natCast];rfl
  rw[dlt hk,cT,OF N (by omega) hi,e2,e3,Option.getD_some,tu,FO,Option.getD_some]
  rw[Aa (fun _=>by unfold I64;omega),Aa (fun _=>by omega),Aa (fun _=>⟨by omega,by omega⟩),Aa (fun _=>Option.isSome_some),Aa (fun _=>⟨by omega,by omega⟩),Aa (fun _=>Option.isSome_some),Aa (by unfold I64;omega)]
  by_cases h:(k≠i∧k≠(i+1)%l.length)∧trn (pa l i) (pa l ((i+1)%l.length)) (pa l k)≤0
  ·rw[if_pos h]
   rw[cT' _ (by
    obtain⟨⟨h1,h2⟩,h3⟩:=h
    simp only[Bool.and_eq_true,decide_eq_true_eq]
    exact⟨⟨by omega,by omega⟩,h3⟩)]
  ·rw[if_neg h]
   rw[cF' _ (by
    rw[Bool.eq_false_iff]
    intro hb
    simp only[Bool.and_eq_true,decide_eq_true_eq] at hb
    exact h ⟨⟨by omega,by omega⟩,hb.2⟩),ns]
 have key:=FN (L:=Sy N l i) (len:=l.length) (fun k=>if(k≠i∧k≠(i+1)%l.length)∧trn (pa l i) (pa l ((i+1)%l.length)) (pa l k)≤0 then some false else none)
  (fun n k hk hf=>by
   rw[step n k hk,if_neg]
   intro h;rw[if_pos h] at hf;cases hf) (fun n k r hk hf=>by
   by_cases h:(k≠i∧k≠(i+1)%l.length)∧trn (pa l i) (pa l ((i+1)%l.length)) (pa l k)≤0
   ·rw[step n k hk,if_pos h];rw[if_pos h] at hf;cases hf;rfl
   ·rw[if_neg h] at hf;cases hf) (fun n=>by
   rw[Sy,dge,cF]) n (by omega)
 rcases key with⟨e,h⟩|⟨j,r,a2,a3,a4,e⟩
 ·rw[e,if_pos]
  intro k hk h1 h2
  have:=h k hk
  rcases Int.lt_or_le 0 (trn (pa l i) (pa l ((i+1)%l.length)) (pa l k)) with h3|h3
  ·exact h3
  ·rw[if_pos ⟨⟨h1,h2⟩,h3⟩] at this;cases this
 ·rw[e]
  split at a3
  ·rename_i h;cases a3
   rw[if_neg]
   intro hA
   have:=hA j a2 h.1.1 h.1.2
   omega
  ·cases a3
open Classical in
theorem Md {N:Nat} (hN:100≤N) (l:List Pt):Sa N l=some (vB l):=by
 unfold Sa
 by_cases hl:l.length<3∨8<l.length
 ·have e2:vB l=false:=Ii.2 fun h=>by have:=h.l3;have:=h.l8;omega
  rw[cT' _ (by simp;omega),e2]
 rw[cF' _ (by simp;omega)]
 have key:=FN (L:=SS N l) (len:=l.length) (fun i=>if On (pa l i) then none else some false) (fun n k hk hf=>by
   rw[SS]
   have hon:On (pa l k):=by
    by_cases h:On (pa l k)
    ·exact h
    ·simp[h] at hf
   rw[dlt hk,cT,Bu hk,bS]
   simp only
   rw[Mb,bS,decide_eq_true hon,cF' _ (by rfl),Aa (by unfold I64;omega),ns]) (fun n k r hk hf=>by
   rw[SS]
   have hon:¬On (pa l k):=fun h=>by simp[h] at hf
   rw[if_neg hon] at hf
   rw[dlt hk,cT,Bu hk,bS]
   simp only
   rw[Mb,bS,decide_eq_false hon,cT' _ (by rfl),←yJ hf]) (fun n=>by
   rw[SS,dge,cF]) N (by omega)
 rcases key with⟨e,h⟩|⟨j,r,a2,a3,a4,e⟩
 ·rw[e,bS]
  simp only
  have hon:∀p∈l,On p:=fun p hp=>by
   obtain⟨i,hi,rfl⟩:=EV hp
   have:=h i hi
   by_cases ho:On (pa l i)
   ·exact ho
   ·simp[ho] at this
  have hs:∀p∈l,Sml p:=fun p hp=>(hon p hp).sml
  have step:∀n (i:Nat),i<l.length→SE N l (n+1) i=if∀k,k<l.length→k≠i→k≠(i+1)%l.length→0<trn (pa l i) (pa l ((i+1)%l.length)) (pa l k) then SE N l n ((i+1:Nat):Int) else some (.inr false):=fun n i hi=>by
   rw[SE,dlt hi,cT,Mc (by omega) hs hi N (by omega)]
   split
   ·rw[bS]
    simp only
    rw[Aa (by unfold I64;omega),ns]
   ·rw[bS]
  have key:=FN (L:=SE N l) (len:=l.length) (fun i=>if∀k,k<l.length→k≠i→k≠(i+1)%l.length→0<trn (pa l i) (pa l ((i+1)%l.length)) (pa l k) then none else some false)
   (fun n k hk hf=>by
    rw[step n k hk]
    split
    ·rfl
    ·rename_i h;simp[if_neg h] at hf) (fun n k r hk hf=>by
    rw[step n k hk]
    split
    ·rename_i h;rw[if_pos h] at hf;cases hf
    ·rename_i h;rw[if_neg h] at hf;cases hf;rfl) (fun n=>by
    rw[SE,dge,cF]) N (by omega)
  rcases key with⟨e,h⟩|⟨j,r,a2,a3,a4,e⟩
  ·rw[e,bS]
   simp only
   congr 1
   symm
   refine JL.2 ⟨by omega,by omega,hon,fun i k hi hk n1 n2=> ?_⟩
   have:=h i hi
   split at this
   ·rename_i h;exact h k hk n1 n2
   ·cases this
  ·rw[e,bS]
   simp only
   split at a3
   ·cases a3
   ·rename_i h;cases a3
    congr 1
    symm
    exact Ii.2 fun hv=>h fun k hk n1 n2=>hv.cv j k a2 hk n1 n2
 ·rw[e,bS]
  simp only
  by_cases hon:On (pa l j)
  ·simp[hon] at a3
  ·simp only[hon,if_false,yE] at a3
   subst a3
   congr 1
   symm
   exact Ii.2 fun hv=>hon (hv.on _ (AJ a2))
def stp (n i k:Nat):Nat:=(k+n-i)%n
theorem Fg {n i k:Nat} (h:0<n):stp n i k<n:=Nat.mod_lt _ h
theorem Gg {n i k:Nat} (hi:i<n) (hk:k<n):(i+stp n i k)%n=k:=by
 unfold stp
 by_cases h:i≤k
 ·have e:(k+n-i)%n=k-i:=by rw[Nat.mod_eq_sub_mod (by omega),Nat.mod_eq_of_lt (by omega)];omega
  rw[e,show i+(k-i)=k by omega,Nat.mod_eq_of_lt hk]
 ·have e:(k+n-i)%n=k+n-i:=Nat.mod_eq_of_lt (by omega)
  rw[e,show i+(k+n-i)=k+n by omega,Nat.add_mod_right,Nat.mod_eq_of_lt hk]
theorem ND (l:List Pt) (i m:Nat):arc l i m++[qa l (i+m+1)]=arc l i (m+1):=by
 unfold arc
 rw[List.range_succ (n:=m+1),List.map_append];rfl
theorem IM (N:Nat) {l:List Pt} (hl:l.length≤1000) {i k:Nat} (hi:i<l.length) (hk:k<l.length):∀(n t:Nat),t≤stp l.length i k→stp l.length i k<n+t→Tg N k l n (((i+t)%l.length:Nat):Int) (arc l i t)=some (arc l i (stp l.length i k))
 |0,t,h1,h2=>by omega
 |n+1,t,h1,h2=>by
  rw[Tg]
  have hs:=Fg (i:=i) (k:=k) (show 0<l.length by omega)
  have ha:=Gg hi hk
  by_cases e:t=stp l.length i k
  ·subst e
   rw[ha,cF' _ (by simp)]
  ·have hne:(i+t)%l.length≠k:=fun q=>e (D3 (by omega) hs (by rw[q,ha]))
   have hm:(i+t)%l.length<l.length:=Nat.mod_lt _ (by omega)
   rw[cT' _ (decide_eq_true (by omega)),Aa (by unfold I64;omega),Aa (by omega),FO,Bu (Nat.mod_lt _ (by omega)),bS]
   simp only
   rw[Aa (by rw[AI];omega)]
   have e2:[((pa l (((i+t)%l.length+1)%l.length)).1,(pa l (((i+t)%l.length+1)%l.length)).2)]=[qa l (i+t+1)]:=by
    unfold qa;rw[Nat.mod_add_mod]
   rw[e2,ND,Nat.mod_add_mod]
   exact IM N hl hi hk n (t+1) (by omega) (by omega)
theorem KI {N:Nat} (hN:100≤N) {l:List Pt} (hl:l.length≤50) {i k:Nat} (hi:i<l.length) (hk:k<l.length):Tn N l i k=some (arc l i (stp l.length i k)):=by
 unfold Tn
 have hs:=Fg (i:=i) (k:=k) (show 0<l.length by omega)
 have:=IM N (by omega) hi hk N 0 (by omega) (by omega)
 rw[Nat.add_zero,Nat.mod_eq_of_lt hi] at this
 have e:arc l i 0=[((pa l i).1,(pa l i).2)]:=by
  unfold arc
  simp[Cm hi]
 rw[e] at this
 rw[Bu hi,bS]
 simp only
 rw[this,bS]
def JS (l:List Pt) (i k:Nat):List Pt×List Pt×Int:=
 if stp l.length i k<2∨stp l.length k i<2 then([],[],70) else(arc l i (stp l.length i k),arc l k (stp l.length k i),0)
theorem OG {N:Nat} (hN:100≤N) {l:List Pt} (h:VP l) {i k:Nat} (hi:i<l.length) (hk:k<l.length):Td N l i k=some (JS l i k):=by
 unfold Td JS
 have l8:=h.l8
 rw[Md hN,JL.2 h,bS,cF' _ (by simp;omega),KI hN (by omega) hi hk,bS,KI hN (by omega) hk hi,bS,AI,AI]
 by_cases hc:stp l.length i k<2∨stp l.length k i<2
 ·rw[if_pos hc,cT' _ (by simp;omega)]
 ·rw[if_neg hc,cF' _ (by rw[Bool.eq_false_iff];simp;omega)]
theorem IN {N:Nat} {x:List Pt} (hx:In2 x):∀(n i:Nat) (out:List Pt),i≤6→i≤x.length→out.length=i→In2 out→6<n+i→∃P,S9 N x n i out=some P∧P.length≤6∧In2 P
 |0,i,out,h8,hi,ho,hp,hn=>by omega
 |n+1,i,out,h8,hi,ho,hp,hn=>by
  rw[S9]
  by_cases hc:i<x.length∧i<6
  ·obtain⟨c1,c2⟩:=hc
   rw[cT' _ (by simp;omega),Bu c1,bS]
   simp only
   rw[Aa (by omega),Aa (by unfold I64;omega),←ns]
   refine IN hx n (i+1) _ (by omega) (by omega) (by simp;omega) (fun p hp'=> ?_) (by omega)
   rcases List.mem_append.1 hp' with h|h
   ·exact hp p h
   ·simp at h
    subst h
    exact hx _ (AJ c1)
  ·rw[cF' _ (by rw[Bool.eq_false_iff];simp;omega)]
   exact⟨out,rfl,by omega,hp⟩
theorem HP {N:Nat} {x:List Pt} (hx:In2 x):∀(n i:Nat) (out:List Pt),i≤6→i≤x.length→out.length=i→In2 out→6<n+i→∃P,Ta N x n i out=some P∧P.length≤6∧In2 P
 |0,i,out,h8,hi,ho,hp,hn=>by omega
 |n+1,i,out,h8,hi,ho,hp,hn=>by
  rw[Ta]
  by_cases hc:i<x.length∧i<6
  ·obtain⟨c1,c2⟩:=hc
   rw[cT' _ (by simp;omega),Bu c1,bS]
   simp only
   rw[Aa (by omega),Aa (by unfold I64;omega),←ns]
   refine HP hx n (i+1) _ (by omega) (by omega) (by simp;omega) (fun p hp'=> ?_) (by omega)
   rcases List.mem_append.1 hp' with h|h
   ·exact hp p h
   ·simp at h
    subst h
    exact hx _ (AJ c1)
  ·rw[cF' _ (by rw[Bool.eq_false_iff];simp;omega)]
   exact⟨out,rfl,by omega,hp⟩
theorem EF {n d:Int} (h:I64 n) (hd:1<d) (hd2:d≤1000):I64 (n.tdiv d):=by
 unfold I64 at*
 rcases Int.le_total 0 n with h0|h0
 ·have h1:=Int.tdiv_nonneg h0 (show 0≤d by omega)
  have h2:n.tdiv d≤n:=Int.tdiv_le_self d h0
  omega
 ·have e:n.tdiv d= -((-n).tdiv d):=by rw[Int.neg_tdiv,Int.neg_neg]
  have h1:=Int.tdiv_nonneg (show 0≤-n by omega) (show 0≤d by omega)
  have h2:(-n).tdiv d≤-n:=Int.tdiv_le_self d (by omega)
  omega
theorem OH {N:Nat} (hN:1000≤N) (hNb:N≤4000) {x y:List Pt} {how:Int} (hx:In2 x) (hy:In2 y) (hh:I64 how):∃a b,To N x y how=some (a,b)∧VP a∧VP b:=by
 unfold To
 rw[CE hh (by omega),bS]
 obtain⟨X,eX,hX⟩:=GJ hN hNb hx (low:=0) (high:=40) (by omega) (by omega) (by omega)
 obtain⟨Y,eY,hY⟩:=GJ hN hNb hy (low:=0) (high:=40) (by omega) (by omega) (by omega)
 by_cases c0:pk how 3=0
 ·rw[decide_eq_true c0,cT,eX,bS,eY,bS]
  exact⟨X,Y,rfl,hX.vp,hY.vp⟩
 rw[decide_eq_false c0,cF]
 have d3:=EF (d:=3) hh (by omega) (by omega)
 by_cases c1:pk how 3=1
 ·rw[decide_eq_true c1,cT]
  obtain⟨P,eP,lP,hP⟩:=IN (N:=N) hx N 0 [] (by omega) (by omega) rfl (by intro p hp;simp at hp) (by omega)
  obtain⟨Q,eQ,lQ,hQ⟩:=HP (N:=N) hy N 0 [] (by omega) (by omega) rfl (by intro p hp;simp at hp) (by omega)
  rw[Int.natCast_zero] at eP eQ
  have d90:=EF (d:=90) hh (by omega) (by omega)
  have d900:=EF (d:=900) hh (by omega) (by omega)
  have d7:=EF (d:=7) hh (by omega) (by omega)
  have b1:= @Db (how.tdiv 3) 30 (by omega)
  have b2:= @Db (how.tdiv 90) 10 (by omega)
  have b3:= @Db (how.tdiv 900) 40 (by omega)
  have b4:= @Db (how.tdiv 7) 40 (by omega)
  rw[eP,bS,eQ,bS,Aa d3,CE d3 (by omega),bS,Aa (by unfold I64;omega),Aa d90,CE d90 (by omega),bS,Aa (by unfold I64;omega),Aa (by omega),Aa d900,CE d900 (by omega),bS,Aa d7,CE d7 (by omega),bS,Aa (by omega)]
  have q1:In2 (P++[(20,pk (how.tdiv 3) 30),(20,pk (how.tdiv 3) 30+1+pk (how.tdiv 90) 10)]):=fun p hp=>by
   rcases List.mem_append.1 hp with h|h
   ·exact hP p h
   ·simp at h
    rcases h with rfl|rfl<;>unfold I64<;>simp only<;>omega
  have q2:In2 (Q++[(0,pk (how.tdiv 900) 40),(0,pk (how.tdiv 7) 40)]):=fun p hp=>by
   rcases List.mem_append.1 hp with h|h
   ·exact hQ p h
   ·simp at h
    rcases h with rfl|rfl<;>unfold I64<;>simp only<;>omega
  obtain⟨A,eA,hA⟩:=GJ hN hNb q1 (low:=0) (high:=20) (by omega) (by omega) (by omega)
  obtain⟨B,eB,hB⟩:=GJ hN hNb q2 (low:=20) (high:=40) (by omega) (by omega) (by omega)
  rw[eA,bS,eB,bS]
  exact⟨A,B,rfl,hA.vp,hB.vp⟩
 rw[decide_eq_false c1,cF]
 have l3:=hX.vp.l3
 have l8:=hX.vp.l8
 have b:= @Db (how.tdiv 3) (X.length:Int) (by omega)
 rw[eX,bS,Aa d3,CE d3 (by omega),bS]
 obtain⟨k,hk⟩:∃k:Nat,pk (how.tdiv 3) (X.length:Int)=k:=⟨(pk (how.tdiv 3) (X.length:Int)).toNat,by omega⟩
 rw[hk] at b⊢
 have e2:((k:Int)+2).tmod (X.length:Int)=(((k+2)%X.length:Nat):Int):=by
  rw[Int.tmod_eq_emod_of_nonneg (by omega)];rfl
 have hk':k<X.length:=by omega
 have hm:(k+2)%X.length<X.length:=Nat.mod_lt _ (by omega)
 rw[Aa (by unfold I64;omega),Aa (by omega),e2,OG (by omega) hX.vp hk' hm,bS]
 unfold JS
 by_cases hc:stp X.length k ((k+2)%X.length)<2∨stp X.length ((k+2)%X.length) k<2
 ·rw[if_pos hc]
  simp only
  rw[cT' _ (by decide),eY,bS]
  exact⟨X,Y,rfl,hX.vp,hY.vp⟩
 ·rw[if_neg hc]
  simp only
  rw[cF' _ (by decide)]
  exact⟨_,_,rfl,Ma hX.vp (by omega) (Fg (by omega)),Ma hX.vp (by omega) (Fg (by omega))⟩
def sep (l:List Pt) (i:Nat) (b:List Pt):Prop:=∀p∈b,E l i p≤0
open Classical in
noncomputable def DA (l b:List Pt):Option Nat:=(List.range l.length).find? fun i=>decide (sep l i b)
def apart (a b:List Pt):Prop:=(∃i,i<a.length∧sep a i b)∨∃i,i<b.length∧sep b i a
theorem apart.symm {a b:List Pt} (h:apart a b):apart b a:=Or.symm h
theorem EW {l b:List Pt} {i:Nat} (h:DA l b=some i):i<l.length∧sep l i b:=by
 unfold DA at h
 have h1:=List.find?_some h
 have h2:=List.mem_of_find?_eq_some h
 exact⟨by simpa using h2,by simpa using h1⟩
theorem IO {l b:List Pt} (h:DA l b=none):∀i,i<l.length→¬sep l i b:=by
 unfold DA at h
 rw[List.find?_eq_none] at h
 intro i hi hs
 exact h i (by simpa using hi) (by simpa using hs)
open Classical in
theorem OI {N:Nat} {b:List Pt} (hb:b.length≤1000) (hN:1000<N) (hs:∀p∈b,Sml p) {u w:Pt} (hu:Sml u) (hw:Sml w):Sv N b u.1 u.2 w.1 w.2=some (decide (∃p∈b,0<trn u w p)):=by
 unfold Sv SA
 have step:∀n (k:Nat),k<b.length→Su N b u.1 u.2 w.1 w.2 (n+1) k=if 0<trn u w (pa b k) then some (.inr (k:Int)) else Su N b u.1 u.2 w.1 w.2 n ((k+1:Nat):Int):=fun n k hk=>by
  rw[Su,dlt hk,cT,Bu hk,bS]
  simp only
  unfold Ur
  rw[DV hu hw (hs _ (AJ hk)),bS,bS,Aa (by unfold I64;omega),ns]
  by_cases h:0<trn u w (pa b k)
  ·rw[decide_eq_true h,cT,if_pos h]
  ·rw[decide_eq_false h,cF,if_neg h]
 have key:=FN (L:=Su N b u.1 u.2 w.1 w.2) (len:=b.length) (fun k=>if 0<trn u w (pa b k) then some (k:Int) else none)
  (fun n k hk hf=>by
   rw[step n k hk,if_neg]
   intro h;rw[if_pos h] at hf;cases hf) (fun n k r hk hf=>by
   by_cases h:0<trn u w (pa b k)
   ·rw[step n k hk,if_pos h];rw[if_pos h] at hf;rw[←yJ hf]
   ·rw[if_neg h] at hf;cases hf) (fun n=>by
   rw[Su,dge,cF]) N (by omega)
 rcases key with⟨e,h⟩|⟨j,r,a2,a3,a4,e⟩
 ·rw[e,bS]
  simp only
  rw[bS]
  congr 1
  rw[decide_eq_false (by decide)]
  symm
  rw[decide_eq_false_iff_not]
  rintro⟨p,hp,hn⟩
  obtain⟨i,hi,rfl⟩:=EV hp
  have:=h i hi
  rw[if_pos hn] at this;cases this
 ·rw[e,bS]
  simp only
  rw[bS]
  split at a3
  ·rename_i h
   rw[←yJ a3,decide_eq_true (by omega)]
   congr 1
   symm
   rw[decide_eq_true_eq]
   exact⟨_,AJ a2,h⟩
  ·cases a3
open Classical in
theorem HQ {N:Nat} (hN:1000<N) {l b:List Pt} (hl:l.length≤1000) (hb:b.length≤1000) (hsl:∀p∈l,Sml p) (hsb:∀p∈b,Sml p):∀(k j:Nat),j+k=l.length→
  TJ N b ((List.range' j k).map fun i=>(pa l i,pa l ((i+1)%l.length))) (j:Int)=some (match(List.range' j k).find? fun i=>decide (sep l i b) with|some i=> .inr (i:Int)|none=> .inl ())
 |0,j,h=>by simp[TJ]
 |k+1,j,h=>by
  have hm:(j+1)%l.length<l.length:=Nat.mod_lt _ (by omega)
  rw[List.range'_succ,List.map_cons,List.find?_cons]
  rw[show(pa l j,pa l ((j+1)%l.length))=(((pa l j).1,(pa l j).2),((pa l ((j+1)%l.length)).1,(pa l ((j+1)%l.length)).2)) from rfl,TJ,OI hb hN hsb (hsl _ (AJ (by omega))) (hsl _ (AJ hm)),bS]
  by_cases hs:sep l j b
  ·have e:¬∃p∈b,0<trn (pa l j) (pa l ((j+1)%l.length)) p:=by
    rintro⟨p,hp,hq⟩
    have:=hs p hp
    unfold E at this;omega
   rw[decide_eq_false e,cT' _ (by rfl),decide_eq_true hs]
  ·have e:∃p∈b,0<trn (pa l j) (pa l ((j+1)%l.length)) p:=by
    by_cases h:∃p∈b,0<trn (pa l j) (pa l ((j+1)%l.length)) p
    ·exact h
    ·exact absurd (fun p hp=>by
      rcases Int.lt_or_le 0 (E l j p) with h1|h1
      ·exact absurd ⟨p,hp,h1⟩ h
      ·exact h1) hs
   rw[decide_eq_true e,cF' _ (by rfl),decide_eq_false hs,Aa (by unfold I64;omega),←ns]
   exact HQ hN hl hb hsl hsb k (j+1) (by omega)
theorem JT {N:Nat} (hN:1000<N) {l b:List Pt} (hl:l.length≤1000) (hb:b.length≤1000) (hsl:∀p∈l,Sml p) (hsb:∀p∈b,Sml p):Uk N l b=some (match DA l b with|some i=>(i:Int)|none=> -1):=by
 unfold Uk
 have:=HQ hN hl hb hsl hsb l.length 0 (by omega)
 rw[←List.range_eq_range',Int.natCast_zero] at this
 rw[Aa (by omega),show AS l=(List.range l.length).map fun i=>(pa l i,pa l ((i+1)%l.length)) from rfl,this,bS]
 unfold DA
 cases(List.range l.length).find? fun i=> @decide (sep l i b) (Classical.propDecidable _)<;>rfl
noncomputable def Cc (a b:List Pt):Int×Int×Bool:=match DA a b with
 |some i=>(0,(i:Int),true)
 |none=>match DA b a with
  |some i=>(1,(i:Int),true)
  |none=>(0,0,false)
theorem Kj (a b:List Pt):(∃i,i<a.length∧sep a i b∧Cc a b=(0,(i:Int),true))∨(∃i,i<b.length∧sep b i a∧Cc a b=(1,(i:Int),true))∨(¬apart a b∧Cc a b=(0,0,false)):=by
 unfold Cc
 cases h:DA a b with
 |some i=>exact .inl ⟨i,(EW h).1,(EW h).2,rfl⟩
 |none=>
  cases h2:DA b a with
  |some i=>exact .inr (.inl ⟨i,(EW h2).1,(EW h2).2,rfl⟩)
  |none=>
   refine .inr (.inr ⟨?_,rfl⟩)
   rintro(⟨i,hi,hs⟩|⟨i,hi,hs⟩)
   ·exact IO h i hi hs
   ·exact IO h2 i hi hs
theorem GK {a b:List Pt}:(Cc a b).2.2=true↔apart a b:=by
 rcases Kj a b with⟨i,h1,h2,h3⟩|⟨i,h1,h2,h3⟩|⟨h1,h3⟩<;>rw[h3]
 ·simp only[true_iff];exact .inl ⟨i,h1,h2⟩
 ·simp only[true_iff];exact .inr ⟨i,h1,h2⟩
 ·simp[h1]
theorem Qt {N:Nat} (hN:1001≤N) {a b:List Pt} (ha:VP a) (hb:VP b):Ug N a b=some (Cc a b):=by
 unfold Ug
 have a8:=ha.l8
 have b8:=hb.l8
 rw[Cx (by omega) ha,Cx (by omega) hb,bS,Aa (fun _=>Option.isSome_some),Option.getD_some,cF' _ (by rfl),JT (by omega) (by omega) (by omega) ha.sml hb.sml,bS,JT (by omega) (by omega) (by omega) hb.sml ha.sml]
 unfold Cc
 cases DA a b with
 |some i=>simp only;rw[cT' _ (decide_eq_true (by omega))]
 |none=>
  simp only
  rw[cF' _ (by decide),bS]
  cases DA b a with
  |some i=>simp only;rw[cT' _ (decide_eq_true (by omega))]
  |none=>simp only;rw[cF' _ (by decide)]
theorem HR {N:Nat} (hN:1001≤N) {a b:List Pt} (ha:VP a) (hb:VP b):S6 N a b=some (!(Cc a b).2.2):=by
 unfold S6
 rw[Qt hN ha hb,show Cc a b=((Cc a b).1,(Cc a b).2.1,(Cc a b).2.2) from rfl,bS,Cx (by omega) ha,Cx (by omega) hb]
 simp only
 rw[bS,Aa (fun _=>Option.isSome_some)]
 rfl
theorem Qu {a:List Pt} (h:VP a):¬apart a a:=by
 have l3:=h.l3
 have key:∀i,i<a.length→¬sep a i a:=fun i hi hs=>by
  obtain⟨k,hk,n1,n2⟩:∃k,k<a.length∧k≠i∧k≠(i+1)%a.length:=by
   by_cases h0:0≠i∧0≠(i+1)%a.length
   ·exact⟨0,by omega,h0.1,h0.2⟩
   by_cases h1:1≠i∧1≠(i+1)%a.length
   ·exact⟨1,by omega,h1.1,h1.2⟩
   exact⟨2,by omega,by omega,by omega⟩
  have e1:=h.cv i k hi hk n1 n2
  have e2:=hs _ (AJ hk)
  unfold E at e2
  omega
 rintro(⟨i,hi,hs⟩|⟨i,hi,hs⟩)
 ·exact key i hi hs
 ·exact key i hi hs
theorem PL {g p a b:Pt} (ha:lin g p a=0) (hb:lin g p b=0) (hg:g≠(0,0)):trn p a b=0:=by
 have e1:g.1*trn p a b=lin g p a*(b.2-p.2)-lin g p b*(a.2-p.2):=by unfold lin trn;grind
 have e2:g.2*trn p a b=lin g p b*(a.1-p.1)-lin g p a*(b.1-p.1):=by unfold lin trn;grind
 rw[ha,hb] at e1 e2
 simp only[Int.zero_mul,Int.sub_self,Int.mul_eq_zero] at e1 e2
 rcases e1 with e1|e1
 ·rcases e2 with e2|e2
  ·exact absurd (Prod.ext e1 e2) hg
  ·exact e2
 ·exact e1
theorem OJ {n:Nat} {v:Nat→Pt} (hn:0<n) (per:∀t,v (t+n)=v t) {p g:Pt} (h:∀t,0<trn (v t) (v (t+1)) p) (hg:g≠(0,0)) (hh:∀t,0≤lin g p (v t)):False:=by
 have h':∀t,0<trn p (v t) (v (t+1)):=fun t=>by rw[←BX];exact h t
 obtain⟨m,hm⟩:∃m,0<lin g p (v m):=by
  by_cases h0:0<lin g p (v 0)
  ·exact⟨0,h0⟩
  by_cases h1:0<lin g p (v 1)
  ·exact⟨1,h1⟩
  have z0:=hh 0
  have z1:=hh 1
  have:=PL (show lin g p (v 0)=0 by omega) (show lin g p (v 1)=0 by omega) hg
  have:0<trn p (v 0) (v 1):=h' 0
  omega
 have key:∀t,0<trn p (v m) (v (m+(t+1))):=by
  intro t
  induction t with
  |zero=>exact h' m
  |succ t ih=>
   have pl:=Lk g p (v m) (v (m+(t+1))) (v (m+(t+1+1)))
   have hb:=hh (m+(t+1))
   have hc:=hh (m+(t+1+1))
   have hbc:=h' (m+(t+1))
   rw[show m+(t+1)+1=m+(t+1+1) by omega] at hbc
   have k1:=Int.mul_pos hm hbc
   have k2:=Int.mul_nonneg hc (Int.le_of_lt ih)
   have hb':0<lin g p (v (m+(t+1))):=by
    rcases Int.lt_or_eq_of_le hb with q|q
    ·exact q
    ·rw[←q,Int.zero_mul] at pl;omega
   exact CD hb' (by omega)
 have:=key (n-1)
 rw[show m+(n-1+1)=m+n by omega,per,Bn] at this
 omega
theorem CW {l:List Pt} (hl:0<l.length) (t:Nat) (p:Pt):trn (qa l t) (qa l (t+1)) p=E l (t%l.length) p:=by
 unfold E qa
 rw[Nat.mod_add_mod]
theorem Il (a b p q:Pt):lin (b.2-a.2,a.1-b.1) p q=trn a b p-trn a b q:=by unfold lin trn;grind
end Go.Proofs.YtdabfcbelkjmgaaGreatDoor.Am
