import Derived.Test.YtdabfcbelkjmgaaGreatDoorP9
import Derived.Test.YtdabfcbelkjmgaaGreatDoorW1
import Derived.Test.YtdabfcbelkjmgaaGreatDoorUG
namespace Go.Proofs.YtdabfcbelkjmgaaGreatDoor.Am
set_option linter.unusedSimpArgs false
set_option linter.unusedVariables false
def prs:List Int→List Pt
 |x::y::r=>(x,y)::prs r
 |_=>[]
def fl:List Pt→List Int
 |[]=>[]
 |p::l=>p.1::p.2::fl l
theorem MB:∀l:List Pt,(fl l).length=2*l.length
 |[]=>rfl
 |p::l=>by simp only[fl,List.length_cons,MB l];omega
theorem MC:∀(k:Nat) (xs:List Int),xs.length=2*k→fl (prs xs)=xs∧(prs xs).length=k
 |0,[],_=>⟨rfl,rfl⟩
 |0,_::_,h=>by simp at h
 |k+1,[],h=>by simp at h
 |k+1,[_],h=>by simp at h;omega
 |k+1,x::y::r,h=>by
  obtain⟨h1,h2⟩:=MC k r (by simp at h;omega)
  simp only[prs,fl,h1,List.length_cons,h2]
  exact⟨trivial,trivial⟩
theorem Kb:∀l:List Pt,ptS l=Bb (fl l)
 |[]=>rfl
 |p::l=>by
  have:=Kb l
  simp only[ptS,Bb,fl,List.map_cons,List.flatten_cons,List.map_nil,List.flatten_nil,List.append_nil,List.append_assoc] at this⊢
  rw[this]
open Classical in
noncomputable def Iu (s:List UInt8):Option (Int×Int×Int×List Pt×Int×Int):=(rdN 6 s).bind fun hr=>match hr.1 with
 |[a,b,c,f,g,n]=>if 3≤n∧n≤8 then(rdN (2*n.toNat) hr.2).bind fun xr=>if xr.2=[]∧UP a b c (prs xr.1) f g then some (a,b,c,prs xr.1,f,g) else none else none
 |_=>none
theorem EX {N:Nat} (hN:10≤N) {s:List UInt8} {p:Nat} (hs:s.length≤1000000000) (hp:p≤s.length):dN N s p=some ((rdI (s.drop p)).map fun nm=>(nm.1,((p+nm.2:Nat):Int))):=by
 unfold dN
 rw[Qc hN hs hp]
 cases rdI (s.drop p) with
 |none=>rfl
 |some nm=>rfl
theorem DD {s:List UInt8} {p:Nat} {n:Int} {m:Nat} (hp:p≤s.length) (h:rdI (s.drop p)=some (n,m)):p+m≤s.length:=by
 have:=(J9 h).2.2.1
 rw[List.length_drop] at this
 omega
theorem N4 {N:Nat} (hN:10≤N) {s:List UInt8} (hs:s.length≤1000000000):∀(k p:Nat) (l:List Pt),p≤s.length→dP N s k p l=some ((rdN (2*k) (s.drop p)).map fun xr=>(l++prs xr.1,((s.length-xr.2.length:Nat):Int)))
 |0,p,l,hp=>by
  simp only[dP,Nat.mul_zero,rdN,Option.map_some,prs,List.append_nil,List.length_drop]
  rw[show s.length-(s.length-p)=p by omega]
 |k+1,p,l,hp=>by
  simp only[dP]
  rw[EX hN hs hp,show 2*(k+1)=2*k+1+1 by omega]
  simp only[rdN]
  cases h1:rdI (s.drop p) with
  |none=>rfl
  |some nm=>
   obtain⟨n,m⟩:=nm
   have hp1:=DD hp h1
   simp only[Option.map_some,pb,Option.bind_some,List.drop_drop]
   rw[EX hN hs hp1]
   cases h2:rdI (s.drop (p+m)) with
   |none=>rfl
   |some nm2=>
    obtain⟨n2,m2⟩:=nm2
    have hp2:=DD hp1 h2
    simp only[Option.map_some,pb,Option.bind_some,List.drop_drop]
    rw[N4 hN hs k (p+m+m2) _ hp2]
    cases rdN (2*k) (s.drop (p+m+m2)) with
    |none=>rfl
    |some xr=>simp[prs]
theorem RL {N:Nat} (hN:100≤N) {s:List UInt8} (hs:s.length≤1000000000):J5 N s=some (Iu s):=by
 unfold J5 Iu
 have h10:10≤N:=by omega
 have e0:=EX h10 hs (Nat.zero_le s.length)
 rw[Int.natCast_zero,List.drop_zero] at e0
 rw[e0,show(6:Nat)=0+1+1+1+1+1+1 from rfl]
 simp only[rdN]
 cases h1:rdI s with
 |none=>rfl
 |some nm1=>
 obtain⟨a,m1⟩:=nm1
 have p1:=DD (Nat.zero_le s.length) (by rw[List.drop_zero];exact h1)
 simp only[Option.map_some,pb,Option.bind_some,List.drop_drop]
 rw[Nat.zero_add] at p1⊢
 rw[EX h10 hs p1]
 cases h2:rdI (s.drop m1) with
 |none=>rfl
 |some nm2=>
 obtain⟨b,m2⟩:=nm2
 have p2:=DD p1 h2
 simp only[Option.map_some,pb,Option.bind_some,List.drop_drop]
 rw[EX h10 hs p2]
 cases h3:rdI (s.drop (m1+m2)) with
 |none=>rfl
 |some nm3=>
 obtain⟨c,m3⟩:=nm3
 have p3:=DD p2 h3
 simp only[Option.map_some,pb,Option.bind_some,List.drop_drop]
 rw[EX h10 hs p3]
 cases h4:rdI (s.drop (m1+m2+m3)) with
 |none=>rfl
 |some nm4=>
 obtain⟨f,m4⟩:=nm4
 have p4:=DD p3 h4
 simp only[Option.map_some,pb,Option.bind_some,List.drop_drop]
 rw[EX h10 hs p4]
 cases h5:rdI (s.drop (m1+m2+m3+m4)) with
 |none=>rfl
 |some nm5=>
 obtain⟨g,m5⟩:=nm5
 have p5:=DD p4 h5
 simp only[Option.map_some,pb,Option.bind_some,List.drop_drop]
 rw[EX h10 hs p5]
 cases h6:rdI (s.drop (m1+m2+m3+m4+m5)) with
 |none=>rfl
 |some nm6=>
 obtain⟨n,m6⟩:=nm6
 have p6:=DD p5 h6
 simp only[Option.map_some,pb,Option.bind_some,List.drop_drop]
 by_cases hn:3≤n∧n≤8
 ·rw[if_pos hn,cT' _ (by simp[hn]),N4 h10 hs _ _ _ p6]
  cases h7:rdN (2*n.toNat) (s.drop (m1+m2+m3+m4+m5+m6)) with
  |none=>rfl
  |some xr=>
   obtain⟨xs,r⟩:=xr
   obtain⟨b1,_,_⟩:=FU _ _ _ _ h7
   have hl:r.length≤s.length:=by
    have:=congrArg List.length b1
    rw[List.length_drop,List.length_append] at this
    omega
   simp only[Option.map_some,pb,Option.bind_some,List.nil_append]
   by_cases hr:r=[]
   ·subst hr
    rw[cF' _ (by simp),IX hN,Option.bind_some]
    by_cases hu:UP a b c (prs xs) f g
    ·rw[if_pos ⟨rfl,hu⟩,(J6.2 hu)]
     rfl
    ·rw[if_neg fun h=>hu h.2,show(H4 a b c f g&&vB (prs xs))=false by rw[Bool.eq_false_iff];exact fun h=>hu (J6.1 h)]
     rfl
   ·have:0<r.length:=List.length_pos_iff.2 hr
    rw[cT' _ (by simp;omega),if_neg fun h=>hr h.1]
 ·rw[if_neg hn,cF' _ (by rw[Bool.and_eq_false_iff];simp;omega)]
theorem QY {s:List UInt8} {a b c:Int} {l:List Pt} {p q:Int} (h:Iu s=some (a,b,c,l,p,q)):UP a b c l p q∧s=E6 a b c l p q:=by
 unfold Iu at h
 obtain⟨⟨hs,r⟩,h1,h⟩:=yB.1 h
 simp only at h
 split at h
 ·rename_i a' b' c' f' g' n
  split at h
  ·rename_i hn
   obtain⟨⟨xs,r'⟩,h2,h⟩:=yB.1 h
   simp only at h
   split at h
   ·rename_i hu
    obtain⟨rfl,hu⟩:=hu
    simp only[yE,Prod.mk.injEq] at h
    obtain⟨rfl,rfl,rfl,rfl,rfl,rfl⟩:=h
    obtain⟨b1,b2,_⟩:=FU _ _ _ _ h1
    obtain⟨c1,c2,_⟩:=FU _ _ _ _ h2
    obtain⟨d1,d2⟩:=MC _ _ c2
    refine⟨hu, ?_⟩
    unfold E6 I7
    rw[Kb,d1,d2,b1,c1,List.append_nil,show((n.toNat:Nat):Int)=n by omega]
   ·cases h
  ·cases h
 ·cases h
end Go.Proofs.YtdabfcbelkjmgaaGreatDoor.Am
