import Derived.Test.YtdabfcbelkjmgaaGreatDoorW2
import Derived.Test.YtdabfcbelkjmgaaGreatDoorE6
import Derived.Test.YtdabfcbelkjmgaaGreatDoorMY
import Derived.Test.YtdabfcbelkjmgaaGreatDoorUG
namespace Go.Proofs.YtdabfcbelkjmgaaGreatDoor.Am
set_option linter.unusedSimpArgs false
set_option linter.unusedVariables false
theorem vL {N:Nat} {n:Int} (h:Wr n):Ui N n=some (zg n:Int):=by
 have h':=h
 unfold Wr at h'
 unfold Ui zg
 by_cases h0:n<0
 ·obtain⟨m,hm⟩:∃m:Nat,-n=m:=Int.eq_ofNat_of_zero_le (by omega)
  rw[decide_eq_true h0,cT,hm,Aa (by unfold I64;omega),wrN (by omega),if_neg (by omega)]
  rw[show(m:Int)*2=((2*m:Nat):Int) by omega,Aa (wrN (by omega)),show((2*m:Nat):Int)-1=((2*m-1:Nat):Int) by omega,Aa (wrN (by omega))]
  congr 1
  omega
 ·obtain⟨m,rfl⟩:=Int.eq_ofNat_of_zero_le (show 0≤n by omega)
  rw[decide_eq_false h0,cF,wrN (by omega),if_pos (by omega)]
  rw[show(m:Int)*2=((2*m:Nat):Int) by omega,Aa (wrN (by omega))]
  rfl
theorem tm (m n:Nat):(m:Int).tmod (n:Int)=((m%n:Nat):Int):=(Int.ofNat_tmod m n).symm
theorem td (m n:Nat):(m:Int).tdiv (n:Int)=((m/n:Nat):Int):=(Int.ofNat_tdiv m n).symm
theorem vJ (N:Nat):∀(k n f z:Nat) (l:List Int),0<k→z<128^k→k≤9→k≤n→k≤f→l.length+k≤100→∃(z':Int) (l':List Int),TP N n z l=some (z',l')∧toB (l'++[IntKind.wrap .u8 z'])=toB l++vbL f z∧l'.length≤100
 |0,n,f,z,l,h0,_,_,_,_,_=>by omega
 |k+1,0,f,z,l,_,_,_,h,_,_=>by omega
 |k+1,n+1,0,z,l,_,_,_,_,h,_=>by omega
 |k+1,n+1,f+1,z,l,_,hz,h9,hn,hf,hl=>by
  have hB:(128:Nat)^(k+1)≤128^9:=Nat.pow_le_pow_right (by omega) h9
  rw[show(128:Nat)^9=9223372036854775808 from rfl] at hB
  rw[TP]
  by_cases hc:z<128
  ·rw[decide_eq_false (by omega),cF,Mz hc]
   refine⟨_,_,rfl, ?_,by omega⟩
   rw[wr8 (by omega)]
   simp[toB]
  ·rw[decide_eq_true (by omega),cT,show(128:Int)=((128:Nat):Int) from rfl,tm,td,show((z%128:Nat):Int)+((128:Nat):Int)=((z%128+128:Nat):Int) by omega,Aa (wrN (by omega)),Aa (by omega),Aa (wrN (by omega)),wr8 (by omega)]
   have hk:0<k:=by
    rcases Nat.eq_zero_or_pos k with rfl|h
    ·rw[show(128:Nat)^(0+1)=128 from rfl] at hz;omega
    ·exact h
   obtain⟨z',l',e1,e2,e3⟩:=vJ N k n f (z/128) (l++[((z%128+128:Nat):Int)]) hk (by rw[Nat.pow_succ] at hz;omega) (by omega) (by omega) (by omega) (by simp;omega)
   refine⟨z',l',e1, ?_,e3⟩
   rw[e2,MA hc (by omega)]
   unfold toB
   rw[List.map_append,List.append_assoc]
   rfl
theorem vN {n:Int} (h:¬Wr n):CZ n=[]:=by
 unfold Wr at h
 unfold CZ
 rw[show(decide (n< -4611686018427387903)||decide (4611686018427387903<n))=true by simp;omega,cond_true]
open Classical in
theorem vM {N:Nat} (hN:10≤N) (n:Int):Ts N n=some (CZ n,if Wr n then 0 else 10):=by
 unfold Ts
 by_cases h:Wr n
 ·have h':=h
  unfold Wr at h'
  rw[cF' _ (by simp;omega),vL h,bS,if_pos h,KQ h]
  obtain⟨z',l',e1,e2,e3⟩:=vJ N 9 N 10 (zg n) [] (by omega) (by rw[show(128:Nat)^9=9223372036854775808 from rfl];exact QK h) (by omega) (by omega) (by omega) (by simp)
  rw[e1,bS]
  simp only
  rw[Aa (by omega)]
  have e2':(l'++[IntKind.wrap .u8 z']).map (fun x=>UInt8.ofNat x.toNat)=vbL 10 (zg n):=by
   rw[show toB []=[] from rfl,List.nil_append] at e2
   exact e2
  rw[e2']
 ·rw[vN h,if_neg h]
  unfold Wr at h
  rw[cT' _ (by simp;omega)]
theorem vK (N:Nat) (hN:10≤N) (s:List UInt8) (p:Nat) (hs:s.length≤1000000000) (hp:p≤s.length):∀(n i z:Nat),i≤9→9<n+i→z<128^i→
  rdB 9 (s.drop p)=(match rdB (9-i) (s.drop (p+i)) with|some (y,m)=>if 0<i∧y=0 then none else some (z+y*128^i,i+m)|none=>none)→
  ∃o,Uj N p s n z i=some o∧(match o with| .inl ()=>(0,0,10)| .inr r=>r)=(match rdI (s.drop p) with|some (x,m)=>(x,((p+m:Nat):Int),0)|none=>((0,0,10):Int×Int×Int))
 |0,i,z,hi,hn,hz,_=>by omega
 |n+1,i,z,hi,hn,hz,hI=>by
  rw[Uj]
  by_cases h9:i=9
  ·subst h9
   rw[Aa (fun h=>by simp at h),cF' _ (by simp)]
   refine⟨_,rfl, ?_⟩
   have:rdI (s.drop p)=none:=by
    unfold rdI
    rw[hI]
    rfl
   rw[this]
  have hi9:i<9:=by omega
  obtain⟨k,hk⟩:∃k,9-i=k+1:=⟨8-i,by omega⟩
  rw[Aa (fun _=>by unfold I64;omega)]
  by_cases hle:s.length≤p+i
  ·rw[cF' _ (by rw[Bool.and_eq_false_iff];exact .inr (decide_eq_false (by omega)))]
   refine⟨_,rfl, ?_⟩
   have:rdI (s.drop p)=none:=by
    unfold rdI
    rw[hI,List.drop_eq_nil_of_le hle,hk]
    rfl
   rw[this]
  rw[cT' _ (by simp;omega),Aa (by unfold I64;omega),Aa (by omega),Aa (by unfold I64;omega),Aa (by omega)]
  have hpi:((p:Int)+(i:Int)).toNat=p+i:=by omega
  have hlt:p+i<s.length:=by omega
  have hdr:s.drop (p+i)=s.getD (p+i) 0::s.drop (p+i+1):=by
   rw[List.drop_eq_getElem_cons hlt]
   simp[List.getD_eq_getElem?_getD,hlt]
  rw[hk,hdr] at hI
  rw[hpi]
  generalize hbb:s.getD (p+i) 0=b at hI⊢
  have hb:b.toNat<256:=b.toNat_lt
  have hB:(128:Nat)^(i+1)≤128^9:=Nat.pow_le_pow_right (by omega) hi9
  rw[show(128:Nat)^9=9223372036854775808 from rfl] at hB
  have h2:(128:Nat)^i=2^(7*i):=by rw[Nat.pow_mul]
  have e2:128^i*(b.toNat%128)+z<128^(i+1):=by
   rw[Nat.pow_succ]
   have:128^i*(b.toNat%128)≤128^i*127:=Nat.mul_le_mul_left _ (by omega)
   omega
  have e:Cn .shl .u64 ((b.toNat%128:Nat):Int) (7*(i:Int))=((128^i*(b.toNat%128):Nat):Int):=by
   unfold Cn
   simp only
   rw[show(7*(i:Int)).toNat=7*i by omega,show min (7*i) (IntKind.bits .u64)=7*i from Nat.min_eq_left (by show 7*i≤64;omega)]
   rw[show((b.toNat%128:Nat):Int)*2^(7*i)=((128^i*(b.toNat%128):Nat):Int) by rw[h2,Int.natCast_mul,Int.natCast_pow,Int.mul_comm];rfl,wrN (by omega)]
  rw[wrN (show b.toNat<18446744073709551616 by omega),show(128:Int)=((128:Nat):Int) from rfl,tm,e,show(z:Int)+((128^i*(b.toNat%128):Nat):Int)=((128^i*(b.toNat%128)+z:Nat):Int) by omega,Aa (wrN (by omega))]
  simp only[rdB] at hI
  by_cases hc:128≤b.toNat
  ·rw[decide_eq_true (by omega),cT,Aa (by unfold I64;omega),show((i:Int)+1)=((i+1:Nat):Int) from rfl]
   refine vK N hN s p hs hp n (i+1) _ (by omega) (by omega) e2 ?_
   rw[hI,if_pos hc,show 9-(i+1)=k by omega,show p+(i+1)=p+i+1 by omega]
   cases hr:rdB k (s.drop (p+i+1)) with
   |none=>rfl
   |some zm=>
    obtain⟨y,m⟩:=zm
    rw[Option.bind_some]
    simp only
    by_cases hy:y=0
    ·rw[if_pos hy,if_pos ⟨by omega,hy⟩]
    ·rw[if_neg hy]
     have e3:128^i*(b.toNat%128)+z+y*128^(i+1)=z+(b.toNat%128+128*y)*128^i:=by rw[Nat.pow_succ];grind
     simp only
     rw[e3,if_neg (by omega),if_neg (by omega),show i+(m+1)=i+1+m by omega]
  ·rw[if_neg hc] at hI
   simp only at hI
   rw[decide_eq_false (by omega),cF]
   have hm:b.toNat%128=b.toNat:=Nat.mod_eq_of_lt (by omega)
   rw[hm] at e2⊢
   have e4:128^i*b.toNat+z=z+b.toNat*128^i:=by rw[Nat.mul_comm,Nat.add_comm]
   rw[e4] at e2⊢
   generalize hzz:z+b.toNat*128^i=y at*
   rw[show(2:Int)=((2:Nat):Int) from rfl,tm,td,Aa (wrN (by omega)),wrI (by omega)]
   have hu:(bif decide (((y%2:Nat):Int)=1) then gd (I64 (-((y/2:Nat):Int))) (gd (I64 (-((y/2:Nat):Int)-1)) (some (-((y/2:Nat):Int)-1))) else some ((y/2:Nat):Int):Option Int)=some (unz y):=by
    unfold unz
    by_cases h:y%2=0
    ·rw[decide_eq_false (by omega),cF,if_pos h]
    ·rw[decide_eq_true (by omega),cT,if_neg h,Aa (by unfold I64;omega),Aa (by unfold I64;omega)]
   rw[hu,bS,vM hN,bS]
   simp only
   rw[Aa (fun _=>by unfold I64;omega),Aa (fun _=>by unfold I64;omega),Aa (fun _=>by omega)]
   have hsl:(s.drop (p:Int).toNat).take (((p:Int)+(i:Int)+1).toNat-(p:Int).toNat)=(s.drop p).take (i+1):=by
    rw[show(p:Int).toNat=p by omega,show((p:Int)+(i:Int)+1).toNat-p=i+1 by omega]
   rw[hsl]
   by_cases hw:Wr (unz y)
   ·by_cases hq:CZ (unz y)=(s.drop p).take (i+1)
    ·rw[cF' _ (by simp[hw,hq]),Aa (by unfold I64;omega),Aa (by unfold I64;omega)]
     refine⟨_,rfl, ?_⟩
     have hr:=O6 hw ((s.drop p).drop (i+1))
     rw[hq,List.take_append_drop,List.length_take,List.length_drop,Nat.min_eq_left (by omega)] at hr
     rw[hr]
     simp only
     congr 1
    ·rw[cT' _ (by simp[hq])]
     refine⟨_,rfl, ?_⟩
     have:rdI (s.drop p)=none:=by
      cases hr:rdI (s.drop p) with
      |none=>rfl
      |some nm=>
       exfalso
       obtain⟨x,m⟩:=nm
       obtain⟨_,a2,_,_⟩:=J9 hr
       unfold rdI at hr
       rw[hI] at hr
       split at hr
       ·cases hr
       ·rw[Option.bind_some] at hr
        split at hr
        ·cases hr
        ·cases hr
         exact hq a2.symm
     rw[this]
   ·rw[cT' _ (by simp[hw])]
    refine⟨_,rfl, ?_⟩
    have:rdI (s.drop p)=none:=by
     cases hr:rdI (s.drop p) with
     |none=>rfl
     |some nm=>
      exfalso
      obtain⟨x,m⟩:=nm
      obtain⟨a1,_,_,_⟩:=J9 hr
      unfold rdI at hr
      rw[hI] at hr
      split at hr
      ·cases hr
      ·rw[Option.bind_some] at hr
       split at hr
       ·cases hr
       ·cases hr
        exact hw a1
    rw[this]
theorem vO {N:Nat} (hN:10≤N) {s:List UInt8} {p:Nat} (hs:s.length≤1000000000) (hp:p≤s.length):TU N s p=some (match rdI (s.drop p) with|some (n,m)=>(n,((p+m:Nat):Int),0)|none=>(0,0,10)):=by
 unfold TU
 obtain⟨o,h1,h2⟩:=vK N hN s p hs hp N 0 0 (by omega) (by omega) (by simp) (by
  rw[Nat.sub_zero,Nat.add_zero]
  cases rdB 9 (s.drop p) with
  |none=>rfl
  |some zm=>obtain⟨y,m⟩:=zm;simp)
 rw[Int.natCast_zero] at h1
 rw[cF' _ (by simp;omega),h1,bS,←h2]
 cases o<;>rfl
end Go.Proofs.YtdabfcbelkjmgaaGreatDoor.Am
namespace Go.Proofs.YtdabfcbelkjmgaaGreatDoor.Am
set_option linter.unusedSimpArgs false
set_option linter.unusedVariables false
set_option linter.unusedSectionVars false
section
variable {N:Nat} (hN:1001≤N)
include hN
theorem uJ (a b c:Int) (l:List Pt) (p q:Int):Sk N a b c l p q=some (H4 a b c p q&&vB l):=by
 unfold Sk H4
 rw[Md (by omega)]
 by_cases h:(0≤a∧a≤99)∧(1≤b∧b≤8)∧0≤c∧c≤7
 ·rw[cF' _ (by simp;omega),Gf (fun _=>Option.isSome_some),Option.getD_some]
  rw[decide_eq_true h.1.1,decide_eq_true h.1.2,decide_eq_true h.2.1.1,decide_eq_true h.2.1.2,decide_eq_true h.2.2.1,decide_eq_true h.2.2.2]
  rfl
 ·rw[cT' _ (by simp;omega)]
  congr 1
  symm
  rw[Bool.eq_false_iff]
  intro hc
  simp only[Bool.and_eq_true,decide_eq_true_eq] at hc
  exact h ⟨hc.1.1.1.1.1.1,hc.1.1.1.1.1.2,hc.1.1.1.1.2⟩
theorem uL (c:Int):∃s,S7 N c=some s∧SD N c=some s∧s.1.1=(if 0≤c∧c≤7 then den c else 0):=by
 unfold S7 SD
 rw[FS,bS]
 by_cases h:0≤c∧c≤7
 ·rw[cF' _ (by simp[h]),cF' _ (by simp;omega),Aa (by omega),if_pos h]
  obtain rfl|rfl|rfl|rfl|rfl|rfl|rfl|rfl:c=0∨c=1∨c=2∨c=3∨c=4∨c=5∨c=6∨c=7:=by omega
  all_goals exact⟨_,rfl,rfl,rfl⟩
 ·rw[cT' _ (by simp;omega),cT' _ (by simp;omega),if_neg h]
  exact⟨_,rfl,rfl,rfl⟩
theorem uX (a b c:Int) (l:List Pt) (p q:Int):Up N a b c l p q=some (if H4 a b c p q&&vB l then q-p else 0):=by
 cases h:H4 a b c p q&&vB l with
 |true=>rw[J7 (by omega) (J6.1 h),if_pos rfl]
 |false=>
  unfold Up
  rw[IX (by omega),h,bS,cT' _ (by rfl)]
  rfl
theorem uV (a b c:Int) (l:List Pt) (p q:Int):∃r,SK N a b c l p q=some r∧Sr N a b c l p q=some r∧(-4000000000≤r∧r≤4000000000)∧((H4 a b c p q&&vB l)=false→r=0):=by
 unfold Sr
 rw[uJ hN,bS]
 cases h:H4 a b c p q&&vB l with
 |true=>
  have u:=J6.1 h
  have hd:=u.d
  have ha:=Me u.l
  have v1:=Gm ha (y:=q-p) (B:=8) (by omega) (by omega)
  rw[P6 (by omega) u,cF' _ (by rfl),tI (by omega) u.l,bS,Aa (by unfold I64;omega),Aa (by unfold I64;omega)]
  exact⟨_,rfl,rfl,by omega,fun h=>by cases h⟩
 |false=>
  rw[cT' _ (by rfl)]
  obtain⟨r,h1,_⟩:=tR (N:=N) (by omega) l
  unfold SK
  rw[h1,bS,uX hN,h,bS,if_neg (by simp),Int.mul_zero,Aa (by unfold I64;omega)]
  exact⟨0,rfl,rfl,by omega,fun _=>rfl⟩
theorem uY (a b c:Int) (l:List Pt) (p q:Int):Ud N a b c l p q=some (if 0≤c∧c≤7 then den c else 0):=by
 obtain⟨s,h1,_,h3⟩:=uL hN c
 obtain⟨⟨s1,s2,s3,s4,s5⟩,s6⟩:=s
 unfold Ud
 rw[h1,bS]
 simp only at h3⊢
 rw[h3]
theorem uZ (a b c:Int) (l:List Pt) (p q:Int):∃r,Sp N a b c l p q=some r∧SX N a b c l p q=some r:=by
 obtain⟨v,h1,h2,hb,_⟩:=uV hN a b c l p q
 obtain⟨⟨⟨s1,s2,s3,s4,s5⟩,s6⟩,g1,g2,g3⟩:=uL hN c
 unfold Sp SX
 simp only at g3
 have hd:0≤s1∧s1≤10:=by
  rw[g3]
  split
  ·rename_i hc;have:=Mv hc;omega
  ·omega
 have v2:=Gm (x:=3*v) (A:=12000000000) (y:=s1) (B:=10) (by omega) (by omega) (by omega)
 rw[h1,bS,Aa (by unfold I64;omega),uY hN,←g3,bS,Aa (by unfold I64;omega),g2,bS]
 simp only
 rw[h2,bS,Aa (by unfold I64;omega),Aa (by unfold I64;omega)]
 exact⟨_,rfl,rfl⟩
theorem vA (a b c:Int) (l:List Pt) (p q:Int):∃r,SB N a b c l p q=some r∧Th N a b c l p q=some r:=by
 obtain⟨⟨⟨s1,s2,s3,s4,s5⟩,s6⟩,g1,g2,g3⟩:=uL hN c
 simp only at g3
 unfold Th
 rw[uJ hN,bS]
 cases h:H4 a b c p q&&vB l with
 |true=>
  have u:=J6.1 h
  have hd:=u.d
  have hm:=(Qz u.l).1
  have w:=Mv u.c
  rw[if_pos u.c] at g3
  have v3:=Gm hm (y:=q-p) (B:=8) (by omega) (by omega)
  have v4:=Gm (x:=DW l*(q-p)) (A:=170000000000) (y:=s1) (B:=10) (by omega) (by omega) (by omega)
  rw[QW (by omega) u,cF' _ (by rfl),g2,bS]
  simp only
  rw[tK (by omega) u.l,bS]
  simp only
  rw[Aa (by unfold I64;omega),Aa (by unfold I64;omega),Aa (by unfold I64;omega),g3]
  exact⟨_,rfl,rfl⟩
 |false=>
  rw[cT' _ (by rfl)]
  obtain⟨⟨r,s⟩,h1,_⟩:=tX (N:=N) (by omega) l
  unfold SB
  rw[h1,bS]
  simp only
  rw[uX hN,h,bS,if_neg (by simp),Int.mul_zero,Aa (by unfold I64;omega),uY hN,bS,Int.zero_mul,Aa (by unfold I64;omega)]
  exact⟨0,rfl,rfl⟩
noncomputable def uS (a b c:Int) (l:List Pt) (p q a' b' c':Int) (l':List Pt) (p' q':Int):Bool:=decide (max p p'<min q q')&&(H4 a b c p q&&vB l)&&(H4 a' b' c' p' q'&&vB l')
theorem uP (a b c:Int) (l:List Pt) (p q a' b' c':Int) (l':List Pt) (p' q':Int):TN N a b c l p q a' b' c' l' p' q'=some (max p p',min q q',uS a b c l p q a' b' c' l' p' q')∧TO N a b c l p q a' b' c' l' p' q'=some (uS a b c l p q a' b' c' l' p' q'):=by
 unfold TN TO uS
 rw[IX (by omega),IX (by omega),uJ hN,uJ hN,Gf (fun _=>Option.isSome_some),Gf (fun _=>Option.isSome_some),bS,Gf (fun _=>Option.isSome_some),Option.getD_some,Option.getD_some]
 refine⟨rfl, ?_⟩
 congr 1
 cases(H4 a b c p q&&vB l)<;>cases(H4 a' b' c' p' q'&&vB l')<;>cases decide (max p p'<min q q')<;>rfl
theorem vF (a b c:Int) (l:List Pt) (p q a' b' c':Int) (l':List Pt) (p' q':Int):∃r,Sw N a b c l p q a' b' c' l' p' q'=some r∧Ti N a b c l p q a' b' c' l' p' q'=some r:=by
 obtain⟨h1,h2⟩:=uP hN a b c l p q a' b' c' l' p' q'
 obtain⟨r,g1,g2⟩:=tT hN l l'
 unfold Sw Ti
 rw[h1,h2,g1,g2,bS,bS]
 simp only
 rw[Gf (fun _=>Option.isSome_some)]
 exact⟨_,rfl,rfl⟩
theorem vD (a b c:Int) (l:List Pt) (p q a' b' c':Int) (l':List Pt) (p' q':Int):∃r,ST N a b c l p q a' b' c' l' p' q'=some r∧Sx N a b c l p q a' b' c' l' p' q'=some r:=by
 obtain⟨h1,h2⟩:=uP hN a b c l p q a' b' c' l' p' q'
 obtain⟨⟨⟨⟨r1,r2⟩,r3,r4⟩,r5⟩,g1,g2⟩:=tU hN l l'
 unfold ST Sx
 rw[h1,h2,g1,g2,bS,bS]
 simp only
 cases uS a b c l p q a' b' c' l' p' q' with
 |false=>exact⟨_,by rw[cT' _ (by rfl)],by rw[cT' _ (by rfl)]⟩
 |true=>
  rw[cF' (!true) (by rfl),bS]
  simp only
  cases r5 with
  |false=>exact⟨_,by rw[cT' _ (by rfl)],by rw[cT' _ (by rfl)]⟩
  |true=>exact⟨_,by rw[cF' _ (by rfl)],by rw[cF' _ (by rfl)]⟩
theorem vG (a b c:Int) (l:List Pt) (p q dx dy:Int):∃r,Tl N a b c l p q dx dy=some r∧SU N a b c l p q dx dy=some r∧r.1.2.2.2.1.length≤8:=by
 obtain⟨⟨r,e⟩,g1,g2,g3⟩:=tS (N:=N) (by omega) l dx dy
 unfold Tl SU
 rw[g1,g2,uJ hN,IX (by omega),bS,bS]
 simp only
 rw[Gf (fun _=>Option.isSome_some),Option.getD_some]
 cases h:H4 a b c p q&&vB l with
 |false=>exact⟨((0,0,0,[],0,0),80),by rw[cT' _ (by simp)],by rw[cT' _ (by rfl)],by simp⟩
 |true=>
  rw[cF' (!true) (by rfl),bS]
  simp only
  by_cases he:e=0
  ·rw[cF' _ (by simp[he]),cF' _ (by simp[he])]
   exact⟨_,rfl,rfl,g3⟩
  ·rw[cT' _ (by simp[he]),cT' _ (by simp[he])]
   exact⟨_,rfl,rfl,by simp⟩
omit hN in
theorem uN (l:List Pt) (a:Int) (hl:l.length≤1000):∀(n i:Nat) (out:List Pt),i≤l.length→l.length<n+i→out.length=i→∃r,UB N l a n i out=some r∧TZ N l a n i out=some r∧r.length=l.length
 |0,i,out,hi,hn,_=>by omega
 |n+1,i,out,hi,hn,ho=>by
  rw[UB,TZ]
  by_cases he:i=l.length
  ·subst he
   rw[dge,cF,cF]
   exact⟨out,rfl,rfl,ho⟩
  have hi':i<l.length:=by omega
  rw[dlt hi',cT,cT,Aa (by omega),Aa (by unfold I64;omega),Aa (by omega),Aa (by unfold I64;omega),←ns]
  exact uN l a hl n (i+1) _ (by omega) (by omega) (by simp[ho])
theorem vE (a b c:Int) (l:List Pt) (p q:Int):∃r,UF N a b c l p q=some r∧Um N a b c l p q=some r∧r.length≤1000:=by
 unfold UF Um
 rw[IX (by omega),uJ hN,bS,bS]
 cases h:H4 a b c p q&&vB l with
 |false=>exact⟨[],by rw[cT' _ (by rfl)],by rw[cT' _ (by rfl)],by simp⟩
 |true=>
  have u:=J6.1 h
  have l8:=u.l.l8
  obtain⟨r,h1,h2,h3⟩:=uN (N:=N) l a (by omega) N 0 [] (by omega) (by omega) rfl
  rw[Int.natCast_zero] at h1 h2
  rw[cF' _ (by rfl),cF' _ (by rfl),h1,h2,bS,bS,Aa (by omega),Aa (by rw[List.length_append,List.length_singleton];omega),Aa (by omega),List.append_assoc]
  exact⟨_,rfl,rfl,by simp;omega⟩
omit hN in
theorem uK (l:List Pt) (hl:l.length≤1000):∀(n i:Nat) (out:List Pt),i≤l.length→l.length<n+i→out.length≤i→Tq N l n i out=some (out++(l.drop i).filter fun p=>decide (p.2=0))
 |0,i,out,hi,hn,_=>by omega
 |n+1,i,out,hi,hn,ho=>by
  rw[Tq]
  by_cases he:i=l.length
  ·subst he
   rw[dge,cF,List.drop_length]
   simp
  have hi':i<l.length:=by omega
  rw[dlt hi',cT,Bu hi',bS,GI hi',List.filter_cons]
  simp only
  by_cases h:(pa l i).2=0
  ·rw[decide_eq_true h,cT,Aa (by omega),Aa (by unfold I64;omega),←ns,uK l hl n (i+1) _ (by omega) (by omega) (by simp;omega),if_pos rfl,List.append_assoc]
   rfl
  ·rw[decide_eq_false h,cF,Aa (by unfold I64;omega),←ns,uK l hl n (i+1) _ (by omega) (by omega) (by omega),if_neg (by simp)]
theorem vC (a b c:Int) (l:List Pt) (p q:Int):∃r,SZ N a b c l p q=some r∧Sq N a b c l p q=some r:=by
 cases h:H4 a b c p q&&vB l with
 |false=>
  unfold SZ Sq
  rw[IX (by omega),uJ hN,h,bS,bS]
  exact⟨_,by rw[cT' _ (by rfl)],by rw[cT' _ (by rfl)]⟩
 |true=>
  have u:=J6.1 h
  have l8:=u.l.l8
  have l3:=u.l.l3
  have hy:∀x∈l,0≤x.2:=fun x hx=>(u.l.on x hx).2.1
  have hn:=uU u.l hy
  have hL:=uK (N:=N) l (by omega) N 0 [] (by omega) (by omega) (by simp)
  rw[Int.natCast_zero,List.drop_zero,List.nil_append] at hL
  unfold Sq
  rw[uJ hN,h,bS,cF' _ (by rfl),hL,bS]
  rcases uR (N:=N) (by omega) u with⟨e,hno⟩|⟨i,hi,hc,e⟩
  ·have:¬(l.filter fun p=>decide (p.2=0)).length=2:=fun h2=>by
    obtain⟨i,hi,hc⟩:=hn.1 h2
    exact hno i hi hc
   rw[cT' _ (by simp only[decide_eq_true_eq];omega)]
   exact⟨_,e,rfl⟩
  ·have h2:=hn.2 ⟨i,hi,hc⟩
   have hm:(i+1)%l.length<l.length:=Nat.mod_lt _ (by omega)
   have hg:=(uM u.l hy hi hc.1 hc.2).1
   have nf:(l.filter fun p=>decide (p.2=0)).Nodup:=(uO u.l).filter _
   have m1:pa l i∈l.filter fun p=>decide (p.2=0):=List.mem_filter.2 ⟨AJ hi,by simp[hc.1]⟩
   have m2:pa l ((i+1)%l.length)∈l.filter fun p=>decide (p.2=0):=List.mem_filter.2 ⟨AJ hm,by simp[hc.2]⟩
   have hne:=u.l.ne hi
   rw[cF' _ (by simp only[decide_eq_false_iff_not];omega)]
   match hf:l.filter fun p=>decide (p.2=0) with
   |[]=>rw[hf] at h2;simp at h2
   |[_]=>rw[hf] at h2;simp at h2
   |_::_::_::_=>rw[hf] at h2;simp at h2
   |[x,y]=>
    rw[hf] at m1 m2
    rw[hf]
    rw[show nth [x,y] 0=some (x.1,x.2) from rfl,show nth [x,y] 1=some (y.1,y.2) from rfl,bS]
    simp only
    rw[bS]
    simp only
    simp only[List.mem_cons,List.not_mem_nil,or_false] at m1 m2
    refine⟨_,e, ?_⟩
    rcases m1 with m1|m1<;>rcases m2 with m2|m2
    ·exact absurd (m1.trans m2.symm) hne
    ·rw[m1,m2] at hg⊢
     rw[decide_eq_false (by omega),cF]
    ·rw[m1,m2] at hg⊢
     rw[decide_eq_true hg,cT]
    ·exact absurd (m1.trans m2.symm) hne
end
end Go.Proofs.YtdabfcbelkjmgaaGreatDoor.Am
namespace Go.Proofs.YtdabfcbelkjmgaaGreatDoor.Am
set_option linter.unusedSimpArgs false
set_option linter.unusedVariables false
theorem vZ {N:Nat} {a b c a' b' c':Int} {l l':List Pt} {p q p' q':Int} (hl:l.length<N) (hN:N≤100000):SC N a b c l p q a' b' c' l' p' q'=some (decide ((a,b,c,l,p,q)=(a',b',c',l',p',q'))):=by
 unfold SC
 by_cases h:a=a'∧b=b'∧c=c'∧p=p'∧q=q'∧l.length=l'.length
 ·obtain⟨rfl,rfl,rfl,rfl,rfl,hlen⟩:=h
  rw[cF' _ (by simp[hlen])]
  let f:Nat→Option Bool:=fun i=>if pa l i=pa l' i then none else some false
  have step:∀n (k:Nat),k<l.length→Ue N l l' (n+1) k=(match f k with|some r=>some (.inr r)|none=>Ue N l l' n ((k+1:Nat):Int)):=fun n k hk=>by
   rw[Ue,dlt hk,cT,Bu hk,bS]
   simp only
   rw[Bu (by omega),bS]
   simp only
   by_cases e:pa l k=pa l' k
   ·rw[cF' _ (by simp[e]),show f k=none from if_pos e,Aa (by unfold I64;omega),ns]
   ·rw[cT' _ (by
     rw[Bool.not_eq_true',Bool.and_eq_false_iff]
     simp only[decide_eq_false_iff_not]
     by_cases h1:(pa l k).1=(pa l' k).1
     ·exact .inr fun h2=>e (Prod.ext h1 h2)
     ·exact .inl h1),show f k=some false from if_neg e]
  have F:=FN (L:=Ue N l l') (len:=l.length) f (fun n k hk e=>by rw[step n k hk,e]) (fun n k r hk e=>by rw[step n k hk,e]) (fun n=>by rw[Ue,dge,cF]) N (by omega)
  rcases F with⟨e,hf⟩|⟨j,r,hj,hf,_,e⟩
  ·rw[e,bS]
   have:l=l':=List.ext_getElem hlen fun i h1 h2=>by
    have:=hf i h1
    by_cases hp:pa l i=pa l' i
    ·rw[Ba h1,Ba h2] at hp;exact hp
    ·rw[show f i=some false from if_neg hp] at this;cases this
   subst this
   simp
  ·rw[e,bS]
   have hne:¬l=l':=fun e=>by
    subst e
    rw[show f j=none from if_pos rfl] at hf
    cases hf
   by_cases hp:pa l j=pa l' j
   ·rw[show f j=none from if_pos hp] at hf;cases hf
   ·rw[show f j=some false from if_neg hp] at hf
    cases hf
    simp[hne]
 ·rw[cT' _ (by
   simp only[Bool.or_eq_true,decide_eq_true_eq]
   by_cases h1:a=a'
   ·by_cases h2:b=b'
    ·by_cases h3:c=c'
     ·by_cases h4:p=p'
      ·by_cases h5:q=q'
       ·exact .inr fun h6=>h ⟨h1,h2,h3,h4,h5,by omega⟩
       ·exact .inl (.inr h5)
      ·exact .inl (.inl (.inr h4))
     ·exact .inl (.inl (.inl (.inr h3)))
    ·exact .inl (.inl (.inl (.inl (.inr h2))))
   ·exact .inl (.inl (.inl (.inl (.inl h1)))))]
  congr 1
  symm
  refine decide_eq_false fun e=>h ?_
  simp only[Prod.mk.injEq] at e
  obtain⟨rfl,rfl,rfl,rfl,rfl,rfl⟩:=e
  simp
theorem vW {N:Nat} (hN:100≤N) {a b c:Int} {l:List Pt} {p q:Int} (h:UP a b c l p q):CJ N a b c l p q=some (E6 a b c l p q,0):=by
 have:=h.l.l8
 unfold CJ
 rw[FT hN h,bS,Aa (by omega)]
 rfl
theorem wB {N:Nat} (hN:100≤N) {s:List UInt8} (hs:s.length≤1000000000):Bh N s=some (match Iu s with|some x=>(x,0)|none=>((0,0,0,[],0,0),80)):=by
 unfold Bh
 rw[RL hN hs]
 rfl
theorem wC {a b c:Int} {l:List Pt} {p q:Int} (h:UP a b c l p q):0<(E6 a b c l p q).length∧(E6 a b c l p q).length≤1000:=by
 have l8:=h.l.l8
 have h1:=Is l
 have h2:=FR [a,b,c,p,q,(l.length:Int)]
 have h3:=O2 (n:=a) (by have:=h.a;omega) (by have:=h.a;omega)
 have h4:0<(CZ a).length:=List.length_pos_iff.2 h3
 have h5:(CZ a).length≤(Bb [a,b,c,p,q,(l.length:Int)]).length:=by simp[Bb]
 unfold E6 I7
 rw[List.length_append]
 simp only[List.length_cons,List.length_nil] at h2
 omega
theorem vR (N:Nat) (l:List Pt) (hl:l.length≤1000):∀(n i:Nat) (o:List Int),i≤l.length→l.length<n+i→o.length≤6+2*i→TQ N l n i o=some (o++fl (l.drop i))
 |0,i,o,hi,hn,ho=>by omega
 |n+1,i,o,hi,hn,ho=>by
  rw[TQ]
  by_cases he:i=l.length
  ·subst he
   rw[dge,cF,List.drop_length]
   simp[fl]
  have hi':i<l.length:=by omega
  rw[dlt hi',cT,Bu hi',bS]
  simp only
  rw[Aa (by omega),Aa (by unfold I64;omega),←ns,vR N l hl n (i+1) _ (by omega) (by omega) (by simp;omega),GI hi',fl,List.append_assoc]
  rfl
theorem vP {α:Type} (l:List α) {i:Nat} (h:i<l.length):nth l (i:Int)=some l[i]:=by
 unfold nth
 rw[if_pos (by omega)]
 simp[h]
theorem vS {N:Nat} (hN:10≤N) (l:List Int) (hl:l.length≤1000):∀(n i:Nat) (o:List UInt8),i≤l.length→l.length<n+i→o.length≤10*i→TR N l n o i=some (o++Bb (l.drop i))
 |0,i,o,hi,hn,ho=>by omega
 |n+1,i,o,hi,hn,ho=>by
  rw[TR]
  by_cases he:i=l.length
  ·subst he
   rw[dge,cF,List.drop_length]
   simp[Bb]
  have hi':i<l.length:=by omega
  have hp:=NK l[i]
  rw[dlt hi',cT,vP l hi',bS,vM hN,bS]
  simp only
  rw[Aa (by rw[List.length_append];omega),Aa (by unfold I64;omega),←ns,vS hN l hl n (i+1) _ (by omega) (by omega) (by rw[List.length_append];omega),List.drop_eq_getElem_cons hi']
  unfold Bb
  rw[List.map_cons,List.flatten_cons,List.append_assoc]
theorem vT (a b:List Int):Bb (a++b)=Bb a++Bb b:=by simp[Bb]
theorem vX {N:Nat} (hN:1001≤N) {a b c:Int} {l:List Pt} {p q:Int} (h:UP a b c l p q):Tt N a b c l p q=some (E6 a b c l p q,0):=by
 have l8:=h.l.l8
 have e1:=vR N l (by omega) N 0 [a,b,c,p,q,(l.length:Int)] (by omega) (by omega) (by simp)
 have hf:=MB l
 have e2:=vS (N:=N) (by omega) ([a,b,c,p,q,(l.length:Int)]++fl l) (by simp;omega) N 0 [] (by omega) (by simp;omega) (by simp)
 rw[Int.natCast_zero,List.drop_zero] at e1 e2
 unfold Tt
 rw[uJ hN,J6.2 h,bS,cF' _ (by rfl),e1,bS,e2,bS,List.nil_append,vT,←Kb]
 rfl
theorem wE {N:Nat} (hN:1001≤N) (a b c:Int) {l:List Pt} (hl:l.length≤1000) (p q:Int):∃r,CJ N a b c l p q=some r∧Tt N a b c l p q=some r:=by
 cases h:H4 a b c p q&&vB l with
 |true=>exact⟨_,vW (by omega) (J6.1 h),vX hN (J6.1 h)⟩
 |false=>
  refine⟨([],80), ?_, ?_⟩
  ·unfold CJ
   rw[IX (by omega),h,bS,Aa (by omega)]
   rfl
  ·unfold Tt
   rw[uJ hN,h,bS,cT' _ (by rfl)]
def vQ:(Int×Int×Int×List Pt×Int×Int)×Int:=((0,0,0,[],0,0),80)
theorem vU {N:Nat} (hN:10≤N) {s:List UInt8} (hs:s.length≤1000000000):∀(k n i p:Nat) (l:List Int) (c:Nat),p≤s.length→6≤i→l.length=i→l.getD 5 0=(c:Int)→c≤8→i+k=6+2*c→k<n→TS N s n p i l=some (match rdN k (s.drop p) with|some (xs,r)=> .inl (((s.length-r.length:Nat):Int),l++xs)|none=> .inr vQ)
 |0,0,_,_,_,_,_,_,_,_,_,_,h=>by omega
 |k+1,0,_,_,_,_,_,_,_,_,_,_,h=>by omega
 |0,n+1,i,p,l,c,hp,hi,hl,hc,h8,hk,hn=>by
  rw[TS,hc,Aa (fun _=>by omega),Aa (fun _=>by omega),Aa (fun _=>by unfold I64;omega),Aa (fun _=>by unfold I64;omega),cF' _ (by simp;omega)]
  simp only[rdN,List.append_nil,List.length_drop]
  rw[show s.length-(s.length-p)=p by omega]
 |k+1,n+1,i,p,l,c,hp,hi,hl,hc,h8,hk,hn=>by
  rw[TS,hc,Aa (fun _=>by omega),Aa (fun _=>by omega),Aa (fun _=>by unfold I64;omega),Aa (fun _=>by unfold I64;omega),cT' _ (by simp;omega),vO hN hs hp,bS]
  simp only[rdN]
  cases h1:rdI (s.drop p) with
  |none=>
   simp only[Option.bind_none]
   rw[cT' _ (by simp)]
   rfl
  |some nm=>
   obtain⟨x,m⟩:=nm
   have hp1:=DD hp h1
   simp only[Option.bind_some,List.drop_drop]
   rw[cF' _ (by simp;omega),Aa (by omega),Aa (by unfold I64;omega),←ns,vU hN hs k n (i+1) (p+m) (l++[x]) c hp1 (by omega) (by simp[hl]) (by
    rw[←hc,List.getD_eq_getElem?_getD,List.getD_eq_getElem?_getD,List.getElem?_append_left (by omega)]) h8 (by omega) (by omega)]
   cases rdN k (s.drop (p+m)) with
   |none=>rfl
   |some xr=>simp
theorem vY {N:Nat} (hN:10≤N) {s:List UInt8} (hs:s.length≤1000000000) {n i p:Nat} {l:List Int} (hp:p≤s.length) (hi:i<5) (hl:l.length=i):TS N s (n+1) p i l=(match rdI (s.drop p) with|some (x,m)=>TS N s n ((p+m:Nat):Int) ((i+1:Nat):Int) (l++[x])|none=>some (.inr vQ)):=by
 rw[TS,decide_eq_true (show(i:Int)<6 by omega),Aa (by simp),Aa (by simp),Aa (by simp),Aa (by simp),cT' _ (by rfl),vO hN hs hp,bS]
 cases h1:rdI (s.drop p) with
 |none=>
  simp only
  rw[cT' _ (by simp)]
  rfl
 |some nm=>
  obtain⟨x,m⟩:=nm
  simp only
  rw[cF' _ (by simp;omega),Aa (by omega),Aa (by unfold I64;omega),ns]
theorem wA {N:Nat} (hN:10≤N) {s:List UInt8} (hs:s.length≤1000000000) {n p:Nat} {l:List Int} (hp:p≤s.length) (hl:l.length=5):TS N s (n+1) p 5 l=(match rdI (s.drop p) with|some (x,m)=>if 3≤x∧x≤8 then TS N s n ((p+m:Nat):Int) 6 (l++[x]) else some (.inr vQ)|none=>some (.inr vQ)):=by
 rw[TS,decide_eq_true (show(5:Int)<6 by omega),Aa (by simp),Aa (by simp),Aa (by simp),Aa (by simp),cT' _ (by rfl),vO hN hs hp,bS]
 cases h1:rdI (s.drop p) with
 |none=>
  simp only
  rw[cT' _ (by simp)]
  rfl
 |some nm=>
  obtain⟨x,m⟩:=nm
  simp only
  by_cases hx:3≤x∧x≤8
  ·rw[if_pos hx,cF' _ (by simp;omega),Aa (by omega),Aa (by unfold I64;omega)]
   rfl
  ·rw[if_neg hx,cT' _ (by simp;omega)]
   rfl
theorem vV (N:Nat) (l:List Int) (hl:l.length≤1000):∀(k n i:Nat) (o:List Pt),i+2*k=l.length→k<n→o.length≤i→TT N l n i o=some (o++prs (l.drop i))
 |0,0,_,_,_,h,_=>by omega
 |k+1,0,_,_,_,h,_=>by omega
 |0,n+1,i,o,hi,hn,ho=>by
  rw[TT,show i=l.length by omega,dge,cF,List.drop_length]
  simp[prs]
 |k+1,n+1,i,o,hi,hn,ho=>by
  have h1:i<l.length:=by omega
  have h2:i+1<l.length:=by omega
  rw[TT,dlt h1,cT,vP l h1,bS,Aa (by unfold I64;omega),←ns,vP l h2,bS,Aa (by omega),Aa (by unfold I64;omega),show(i:Int)+2=((i+2:Nat):Int) from rfl,vV N l hl k n (i+2) _ (by omega) (by omega) (by simp;omega),List.drop_eq_getElem_cons h1,List.drop_eq_getElem_cons h2,prs,List.append_assoc]
  rfl
theorem wF {N K:Nat} (hN:10≤N) (hK:30≤K) {s:List UInt8} (hs:s.length≤1000000000):TS N s K 0 0 []=some (match rdN 6 s with
  |some ([a,b,c,f,g,x],r)=>if 3≤x∧x≤8 then(match rdN (2*x.toNat) r with|some (xs,r')=> .inl (((s.length-r'.length:Nat):Int),[a,b,c,f,g,x]++xs)|none=> .inr vQ) else .inr vQ
  |_=> .inr vQ):=by
 obtain⟨n,rfl⟩:∃n,K=n+1+1+1+1+1+1:=⟨K-6,by omega⟩
 have e0:=vY (n:=n+1+1+1+1+1) (i:=0) (l:=[]) hN hs (Nat.zero_le s.length) (by omega) rfl
 rw[Int.natCast_zero,List.drop_zero] at e0
 rw[e0,show(6:Nat)=0+1+1+1+1+1+1 from rfl]
 simp only[rdN]
 cases h1:rdI s with
 |none=>rfl
 |some nm1=>
 obtain⟨a,m1⟩:=nm1
 have p1:=DD (Nat.zero_le s.length) (by rw[List.drop_zero];exact h1)
 simp only[Option.bind_some,List.drop_drop,List.nil_append,Nat.zero_add]
 rw[Nat.zero_add] at p1
 rw[vY (i:=1) hN hs p1 (by omega) rfl]
 cases h2:rdI (s.drop m1) with
 |none=>rfl
 |some nm2=>
 obtain⟨b,m2⟩:=nm2
 have p2:=DD p1 h2
 simp only[Option.bind_some,List.drop_drop]
 rw[vY (i:=2) hN hs p2 (by omega) rfl]
 cases h3:rdI (s.drop (m1+m2)) with
 |none=>rfl
 |some nm3=>
 obtain⟨c,m3⟩:=nm3
 have p3:=DD p2 h3
 simp only[Option.bind_some,List.drop_drop]
 rw[vY (i:=3) hN hs p3 (by omega) rfl]
 cases h4:rdI (s.drop (m1+m2+m3)) with
 |none=>rfl
 |some nm4=>
 obtain⟨f,m4⟩:=nm4
 have p4:=DD p3 h4
 simp only[Option.bind_some,List.drop_drop]
 rw[vY (i:=4) hN hs p4 (by omega) rfl]
 cases h5:rdI (s.drop (m1+m2+m3+m4)) with
 |none=>rfl
 |some nm5=>
 obtain⟨g,m5⟩:=nm5
 have p5:=DD p4 h5
 simp only[Option.bind_some,List.drop_drop]
 rw[show((4+1:Nat):Int)=5 from rfl,wA hN hs p5 rfl]
 cases h6:rdI (s.drop (m1+m2+m3+m4+m5)) with
 |none=>rfl
 |some nm6=>
 obtain⟨x,m6⟩:=nm6
 have p6:=DD p5 h6
 simp only[Option.bind_some,List.drop_drop]
 by_cases hx:3≤x∧x≤8
 ·rw[if_pos hx,if_pos hx]
  have e6:=vU (N:=N) hN hs (2*x.toNat) n 6 (m1+m2+m3+m4+m5+m6) ([a]++[b]++[c]++[f]++[g]++[x]) x.toNat p6 (by omega) rfl (by
   show x=_
   omega) (by omega) (by omega) (by omega)
  rw[show((6:Nat):Int)=6 from rfl] at e6
  rw[e6]
  rfl
 ·rw[if_neg hx,if_neg hx]
theorem wD {N:Nat} (hN:1001≤N) {s:List UInt8} (hs:s.length≤1000000000):SF N s=some (match Iu s with|some x=>(x,0)|none=>((0,0,0,[],0,0),80)):=by
 unfold SF Iu
 rw[wF (by omega) (by omega) hs,bS]
 cases h6:rdN 6 s with
 |none=>rfl
 |some hr=>
 obtain⟨h,r⟩:=hr
 obtain⟨_,hl,_⟩:=FU _ _ _ _ h6
 match h,hl with
 |[a,b,c,f,g,x],_=>
 simp only[Option.bind_some]
 by_cases hx:3≤x∧x≤8
 ·rw[if_pos hx,if_pos hx]
  cases h7:rdN (2*x.toNat) r with
  |none=>rfl
  |some xr=>
   obtain⟨xs,r'⟩:=xr
   obtain⟨b1,b2,_⟩:=FU _ _ _ _ h7
   obtain⟨c1,_,_⟩:=FU _ _ _ _ h6
   have hlr:r'.length≤s.length:=by
    have q1:=congrArg List.length b1
    have q2:=congrArg List.length c1
    rw[List.length_append] at q1 q2
    omega
   have e4:=vV N ([a,b,c,f,g,x]++xs) (by simp;omega) x.toNat N 6 [] (by simp;omega) (by omega) (by simp)
   rw[show((6:Nat):Int)=6 from rfl,List.nil_append,show([a,b,c,f,g,x]++xs).drop 6=xs from rfl] at e4
   simp only[Option.bind_some]
   rw[show nth ([a,b,c,f,g,x]++xs) 0=some a from rfl,show nth ([a,b,c,f,g,x]++xs) 1=some b from rfl,show nth ([a,b,c,f,g,x]++xs) 2=some c from rfl,show nth ([a,b,c,f,g,x]++xs) 3=some f from rfl,show nth ([a,b,c,f,g,x]++xs) 4=some g from rfl]
   simp only[Option.bind_some]
   rw[e4,bS,uJ hN,Gf (fun _=>Option.isSome_some),Option.getD_some]
   by_cases hr:r'=[]
   ·subst hr
    by_cases hu:UP a b c (prs xs) f g
    ·rw[if_pos ⟨rfl,hu⟩,J6.2 hu,cF' _ (by simp)]
    ·rw[if_neg fun h=>hu h.2,cT' _ (by
      have:(H4 a b c f g&&vB (prs xs))=false:=by rw[Bool.eq_false_iff];exact fun h=>hu (J6.1 h)
      rw[this];simp)]
   ·have:0<r'.length:=List.length_pos_iff.2 hr
    rw[cT' _ (by simp;omega),if_neg fun h=>hr h.1]
 ·rw[if_neg hx,if_neg hx]
  rfl
end Go.Proofs.YtdabfcbelkjmgaaGreatDoor.Am
