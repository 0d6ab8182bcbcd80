import Derived.Test.YtdabfcbelkjmgaaGreatDoorMG
import Derived.Test.YtdabfcbelkjmgaaGreatDoorMB
import Derived.Test.YtdabfcbelkjmgaaGreatDoorDR
namespace Go.Proofs.YtdabfcbelkjmgaaGreatDoor.Am
set_option linter.unusedSimpArgs false
set_option linter.unusedVariables false
def rs (f:Nat→Int) (n:Nat):Int:=((List.range n).map f).sum
theorem KN (f:Nat→Int):rs f 0=0:=rfl
theorem DZ (f:Nat→Int) (n:Nat):rs f (n+1)=rs f n+f n:=by
 unfold rs;rw[List.range_succ,List.map_append,List.sum_append];simp
theorem HW (f:Nat→Int) (m:Nat):∀k,rs f (m+k)=rs f m+rs (fun t=>f (m+t)) k
 |0=>by rw[Nat.add_zero,KN,Int.add_zero]
 |k+1=>by rw[←Nat.add_assoc,DZ,DZ,HW f m k,Int.add_assoc]
theorem FQ {f g:Nat→Int} {n:Nat} (h:∀t,t<n→f t=g t):rs f n=rs g n:=by
 unfold rs
 congr 1
 exact List.map_congr_left fun t ht=>h t (by simpa using ht)
theorem Mi (h:Nat→Int):∀n,rs (fun t=>h (t+1)-h t) n=h n-h 0
 |0=>by rw[KN];omega
 |n+1=>by rw[DZ,Mi h n];omega
theorem KO (f g:Nat→Int):∀n,rs (fun t=>f t+g t) n=rs f n+rs g n
 |0=>rfl
 |n+1=>by rw[DZ,DZ,DZ,KO f g n];omega
def cs (F:Pt×Pt→Int) (l:List Pt):Int:=((AS l).map F).sum
theorem I6 (F:Pt×Pt→Int) (l:List Pt):cs F l=rs (fun t=>F (qa l t,qa l (t+1))) l.length:=by
 unfold cs rs AS
 rw[List.map_map]
 congr 1
 refine List.map_congr_left fun t ht=> ?_
 rw[List.mem_range] at ht
 show F (pa l t,pa l ((t+1)%l.length))=F (qa l t,qa l (t+1))
 rw[Cm ht];rfl
theorem Ln {F G:Pt×Pt→Int} {H:Pt→Int} (l:List Pt) (h:∀e,G e=F e+(H e.2-H e.1)):cs G l=cs F l:=by
 rw[I6,I6]
 have e:rs (fun t=>G (qa l t,qa l (t+1))) l.length=rs (fun t=>F (qa l t,qa l (t+1))+(H (qa l (t+1))-H (qa l t))) l.length:=FQ fun t _=>h _
 rw[e,KO (fun t=>F (qa l t,qa l (t+1))) (fun t=>H (qa l (t+1))-H (qa l t)),Mi (fun t=>H (qa l t))]
 have:qa l l.length=qa l 0:=by have:=BP l 0;rwa [Nat.zero_add] at this
 rw[this];omega
def crs (a b:Pt):Int:=a.1*b.2-a.2*b.1
theorem OS (l:List Pt):BS l=cs (fun e=>crs e.1 e.2) l:=Ln (H:=fun p=>crs p (pa l 0)) l fun e=>by
 unfold arE trn crs;grind
theorem OT (l:List Pt):DW l=cs (fun e=>crs e.1 e.2*(e.1.1+e.2.1)) l:=Ln (H:=fun p=>crs p (pa l 0)*(p.1+(pa l 0).1)) l fun e=>by
 unfold mxE trn crs;grind
theorem OU (l:List Pt):EG l=cs (fun e=>crs e.1 e.2*(e.1.2+e.2.2)) l:=Ln (H:=fun p=>crs p (pa l 0)*(p.2+(pa l 0).2)) l fun e=>by
 unfold myE trn crs;grind
theorem rW (f:Nat→Int) (n:Nat):rs f (n+1)=f 0+rs (fun t=>f (t+1)) n:=by
 have:=HW f 1 n
 rw[Nat.add_comm 1 n] at this
 rw[this,DZ,KN]
 have e:rs (fun t=>f (1+t)) n=rs (fun t=>f (t+1)) n:=FQ fun t _=>by rw[Nat.add_comm]
 rw[e];omega
theorem rC (N:Nat) {l:List Pt} (hl:l.length≤1000) (hs:∀p∈l,Sml p) {p:Pt} (hp:Sml p):∀(n i:Nat) (out:Int),i≤l.length→l.length<n+i→
  (∃j,i≤j∧j<l.length∧E l j p<0∧Tv N l p.1 p.2 n out i=some (.inr (-1)))∨((∀j,i≤j→j<l.length→0<E l j p)∧Tv N l p.1 p.2 n out i=some (.inl out))∨((∀j,i≤j→j<l.length→0≤E l j p)∧(∃j,i≤j∧j<l.length∧E l j p=0)∧Tv N l p.1 p.2 n out i=some (.inl 0))
 |0,i,out,h1,h2=>by omega
 |n+1,i,out,h1,h2=>by
  rw[Tv]
  by_cases he:i=l.length
  ·subst he
   rw[dge,cF]
   exact .inr (.inl ⟨fun j a b=>by omega,rfl⟩)
  have hi:i<l.length:=by omega
  have hm:(i+1)%l.length<l.length:=Nat.mod_lt _ (by omega)
  rw[dlt hi,cT,Bu hi,bS]
  simp only
  rw[OF N hl hi,show pa l ((i+1)%l.length)=((pa l ((i+1)%l.length)).1,(pa l ((i+1)%l.length)).2) from rfl,bS]
  simp only
  rw[JK (hs _ (AJ hi)) (hs _ (AJ hm)) hp,bS,show trn (pa l i) (pa l ((i+1)%l.length)) p=E l i p from rfl]
  by_cases c1:E l i p<0
  ·rw[decide_eq_true c1,cT]
   exact .inl ⟨i,Nat.le_refl _,hi,c1,rfl⟩
  rw[decide_eq_false c1,cF]
  by_cases c2:E l i p=0
  ·rw[decide_eq_true c2,cT,Aa (by unfold I64;omega),←ns]
   rcases rC N hl hs hp n (i+1) 0 (by omega) (by omega) with⟨j,a,b,c,d⟩|⟨a,b⟩|⟨a,⟨j,b,c,d⟩,e⟩
   ·exact .inl ⟨j,by omega,b,c,d⟩
   ·refine .inr (.inr ⟨fun j h1 h2=> ?_,⟨i,Nat.le_refl _,hi,c2⟩,b⟩)
    by_cases q:j=i
    ·rw[q];omega
    ·exact Int.le_of_lt (a j (by omega) h2)
   ·refine .inr (.inr ⟨fun j h1 h2=> ?_,⟨i,Nat.le_refl _,hi,c2⟩,e⟩)
    by_cases q:j=i
    ·rw[q];omega
    ·exact a j (by omega) h2
  ·rw[decide_eq_false c2,cF,Aa (by unfold I64;omega),←ns]
   rcases rC N hl hs hp n (i+1) out (by omega) (by omega) with⟨j,a,b,c,d⟩|⟨a,b⟩|⟨a,⟨j,b,c,d⟩,e⟩
   ·exact .inl ⟨j,by omega,b,c,d⟩
   ·refine .inr (.inl ⟨fun j h1 h2=> ?_,b⟩)
    by_cases q:j=i
    ·rw[q];omega
    ·exact a j (by omega) h2
   ·refine .inr (.inr ⟨fun j h1 h2=> ?_,⟨j,by omega,c,d⟩,e⟩)
    by_cases q:j=i
    ·rw[q];omega
    ·exact a j (by omega) h2
theorem tW {N:Nat} {l:List Pt} (hN:l.length<N) (hl:l.length≤1000) (hs:∀p∈l,Sml p) {p:Pt} (hp:Sml p):Tc N l p.1 p.2=some (sd l p):=by
 unfold Tc
 have:=rC N hl hs hp N 0 1 (by omega) (by omega)
 rw[Int.natCast_zero] at this
 rcases this with⟨j,a,b,c,d⟩|⟨a,b⟩|⟨a,⟨j,b,c,d⟩,e⟩
 ·rw[d,bS]
  simp only
  congr 1
  rcases Rb l p with q|q|q
  ·have:=(R5.1 q) j b;omega
  ·have:=(R6.1 q).1 j b;omega
  ·exact q.symm
 ·rw[b,bS]
  simp only
  rw[R5.2 fun i hi=>a i (by omega) hi]
 ·rw[e,bS]
  simp only
  rw[R6.2 ⟨fun i hi=>a i (by omega) hi,fun q=>by have:=q j c;omega⟩]
theorem sD (F:Pt×Pt→Int) (l:List Pt):cs F l=rs (fun j=>F (pa l j,pa l ((j+1)%l.length))) l.length:=by
 unfold cs rs AS
 rw[List.map_map]
 rfl
theorem rM {a b:Int} (ha:0≤a∧a≤40) (hb:0≤b∧b≤40):0≤a*b∧a*b≤1600:=by
 have h1:=Int.mul_nonneg ha.1 hb.1
 have h2:=Int.mul_nonneg (show 0≤40-a by omega) hb.1
 rw[Int.sub_mul] at h2
 omega
theorem rN (N:Nat) {l:List Pt} (h:VP l):∀(n i:Nat) (out:Int),i≤l.length→l.length<n+i→(-4000*i≤out∧out≤4000*i)→TY N l n out i=some (out+rs (fun t=>crs (pa l (i+t)) (pa l ((i+t+1)%l.length))) (l.length-i))
 |0,i,out,h1,h2,hb=>by omega
 |n+1,i,out,h1,h2,hb=>by
  have l8:=h.l8
  rw[TY]
  by_cases he:i=l.length
  ·subst he
   rw[dge,cF,Nat.sub_self,KN,Int.add_zero]
  have hi:i<l.length:=by omega
  have hm:(i+1)%l.length<l.length:=Nat.mod_lt _ (by omega)
  have o1:=h.on _ (AJ hi)
  have o2:=h.on _ (AJ hm)
  unfold On at o1 o2
  have b1:=rM o1.1 o2.2
  have b2:=rM o1.2 o2.1
  rw[dlt hi,cT,Bu hi,bS]
  simp only
  rw[OF N (by omega) hi,show pa l ((i+1)%l.length)=((pa l ((i+1)%l.length)).1,(pa l ((i+1)%l.length)).2) from rfl,bS]
  simp only
  rw[Aa (by unfold I64;omega),Aa (by unfold I64;omega),Aa (by unfold I64;omega),Aa (by unfold I64;omega),Aa (by unfold I64;omega),←ns,rN N h n (i+1) _ (by omega) (by omega) (by omega)]
  congr 1
  rw[show l.length-i=(l.length-(i+1))+1 by omega,rW]
  simp only[Nat.add_zero]
  have e:rs (fun t=>crs (pa l (i+(t+1))) (pa l ((i+(t+1)+1)%l.length))) (l.length-(i+1))=rs (fun t=>crs (pa l (i+1+t)) (pa l ((i+1+t+1)%l.length))) (l.length-(i+1)):=FQ fun t _=>by rw[show i+(t+1)=i+1+t by omega]
  rw[e]
  unfold crs
  omega
theorem tI {N:Nat} (hN:100≤N) {l:List Pt} (h:VP l):Ul N l=some (BS l):=by
 unfold Ul
 have l8:=h.l8
 have:=rN N h N 0 0 (by omega) (by omega) (by omega)
 simp only[Int.natCast_zero,Nat.zero_add,Nat.sub_zero,Int.zero_add] at this
 rw[Md hN,JL.2 h,bS,cF' _ (by rfl),this,bS,OS,sD]
theorem tR {N:Nat} (hN:100≤N) (l:List Pt):∃r,Ut N l=some r∧Ul N l=some r:=by
 by_cases h:VP l
 ·exact⟨_,OL hN h,tI hN h⟩
 ·unfold Ut Ul
  rw[JN hN,Md hN,Ii.2 h,bS,bS]
  exact⟨0,by rw[cT' _ (by rfl)],by rw[cT' _ (by rfl)]⟩
theorem rR (N:Nat) {l:List Pt} (h:VP l):∀(n i:Nat) (u v:Int),i≤l.length→l.length<n+i→(-400000*i≤u∧u≤400000*i)→(-400000*i≤v∧v≤400000*i)→
  TM N l n u v i=some (u+rs (fun t=>crs (pa l (i+t)) (pa l ((i+t+1)%l.length))*((pa l (i+t)).1+(pa l ((i+t+1)%l.length)).1)) (l.length-i),v+rs (fun t=>crs (pa l (i+t)) (pa l ((i+t+1)%l.length))*((pa l (i+t)).2+(pa l ((i+t+1)%l.length)).2)) (l.length-i))
 |0,i,u,v,h1,h2,hu,hv=>by omega
 |n+1,i,u,v,h1,h2,hu,hv=>by
  have l8:=h.l8
  rw[TM]
  by_cases he:i=l.length
  ·subst he
   rw[dge,cF,Nat.sub_self,KN,KN,Int.add_zero,Int.add_zero]
  have hi:i<l.length:=by omega
  have hm:(i+1)%l.length<l.length:=Nat.mod_lt _ (by omega)
  have o1:=h.on _ (AJ hi)
  have o2:=h.on _ (AJ hm)
  unfold On at o1 o2
  have b1:=rM o1.1 o2.2
  have b2:=rM o1.2 o2.1
  have pm:∀a b:Int,(0≤a∧a≤80)→(-1600≤b∧b≤1600)→-128000≤a*b∧a*b≤128000:=fun a b ha hb=>by
   have k1:=Int.mul_nonneg ha.1 (show 0≤1600-b by omega)
   have k2:=Int.mul_nonneg ha.1 (show 0≤1600+b by omega)
   rw[Int.mul_sub] at k1
   rw[Int.mul_add] at k2
   omega
  have c1:=pm ((pa l i).1+(pa l ((i+1)%l.length)).1) ((pa l i).1*(pa l ((i+1)%l.length)).2-(pa l i).2*(pa l ((i+1)%l.length)).1) (by omega) (by omega)
  have c2:=pm ((pa l i).2+(pa l ((i+1)%l.length)).2) ((pa l i).1*(pa l ((i+1)%l.length)).2-(pa l i).2*(pa l ((i+1)%l.length)).1) (by omega) (by omega)
  rw[dlt hi,cT,Bu hi,bS]
  simp only
  rw[OF N (by omega) hi,show pa l ((i+1)%l.length)=((pa l ((i+1)%l.length)).1,(pa l ((i+1)%l.length)).2) from rfl,bS]
  simp only
  rw[Aa (by unfold I64;omega),Aa (by unfold I64;omega),Aa (by unfold I64;omega),Aa (by unfold I64;omega),Aa (by unfold I64;omega),Aa (by unfold I64;omega),Aa (by unfold I64;omega),Aa (by unfold I64;omega),Aa (by unfold I64;omega),Aa (by unfold I64;omega),Aa (by unfold I64;omega),Aa (by unfold I64;omega),Aa (by unfold I64;omega),←ns,rR N h n (i+1) _ _ (by omega) (by omega) (by omega) (by omega)]
  congr 1
  have e:∀f:Pt→Pt→Int,rs (fun t=>f (pa l (i+t)) (pa l ((i+t+1)%l.length))) (l.length-i)=f (pa l i) (pa l ((i+1)%l.length))+rs (fun t=>f (pa l (i+1+t)) (pa l ((i+1+t+1)%l.length))) (l.length-(i+1)):=fun f=>by
   rw[show l.length-i=(l.length-(i+1))+1 by omega,rW]
   simp only[Nat.add_zero]
   congr 1
   exact FQ fun t _=>by rw[show i+(t+1)=i+1+t by omega]
  have e1:=e fun a b=>crs a b*(a.1+b.1)
  have e2:=e fun a b=>crs a b*(a.2+b.2)
  rw[e1,e2,Int.add_assoc,Int.add_assoc,Int.mul_comm ((pa l i).1+_),Int.mul_comm ((pa l i).2+_)]
  rfl
theorem tK {N:Nat} (hN:100≤N) {l:List Pt} (h:VP l):TF N l=some (DW l,EG l):=by
 unfold TF
 have l8:=h.l8
 have:=rR N h N 0 0 0 (by omega) (by omega) (by omega) (by omega)
 simp only[Int.natCast_zero,Nat.zero_add,Nat.sub_zero,Int.zero_add] at this
 rw[Md hN,JL.2 h,bS,cF' _ (by rfl),this,bS,OT,sD,OU,sD]
theorem tX {N:Nat} (hN:100≤N) (l:List Pt):∃r,TW N l=some r∧TF N l=some r:=by
 by_cases h:VP l
 ·exact⟨_,PN hN h,tK hN h⟩
 ·unfold TW TF
  rw[JN hN,Md hN,Ii.2 h,bS,bS]
  exact⟨(0,0),by rw[cT' _ (by rfl)],by rw[cT' _ (by rfl)]⟩
theorem uT {N:Nat} (hN:100≤N) {l:List Pt} (h:VP l) {x y:Nat} (hx:x≤40) (hy:y≤40):Tc N l x y=some (sd l ((x:Int),(y:Int))):=by
 have l8:=h.l8
 exact tW (p:=((x:Int),(y:Int))) (by omega) (by omega) h.sml (by unfold Sml;simp only;omega)
theorem rO (N:Nat) {l:List Pt} (hl:l.length≤1000) (hs:∀p∈l,Sml p) {d:Pt} (hd:Sml d):∀(n i:Nat) (out:List Pt),i≤l.length→l.length<n+i→out=(l.take i).map (mv d)→Ub N l d.1 d.2 n i out=some (l.map (mv d))
 |0,i,out,h1,h2,_=>by omega
 |n+1,i,out,h1,h2,ho=>by
  rw[Ub]
  by_cases he:i=l.length
  ·subst he
   rw[dge,cF,ho,List.take_length]
  have hi:i<l.length:=by omega
  have hp:=hs _ (AJ hi)
  have ol:out.length=i:=by rw[ho];simp;omega
  have hd':=hd
  unfold Sml at hp hd'
  rw[dlt hi,cT,Bu hi,bS]
  simp only
  rw[Aa (by unfold I64;omega),Aa (by unfold I64;omega),Aa (by omega),Aa (by unfold I64;omega),←ns]
  refine rO N hl hs hd n (i+1) _ (by omega) (by omega) ?_
  rw[List.take_succ_eq_append_getElem hi,List.map_append,List.map_singleton,←Ba hi,ho]
  rfl
open Classical in
theorem tS {N:Nat} (hN:100≤N) (l:List Pt) (dx dy:Int):∃r,Un N l dx dy=some r∧Uc N l dx dy=some r∧r.1.length≤8:=by
 by_cases h:VP l
 ·have l8:=h.l8
  by_cases hd:NE (dx,dy)
  ·refine⟨_,OQ hN h hd, ?_, ?_⟩
   ·unfold Uc
    unfold NE at hd
    simp only at hd
    have hc:=rO N (by omega) h.sml (d:=(dx,dy)) (by unfold Sml;simp only;omega) N 0 [] (by omega) (by omega) (by simp)
    rw[Int.natCast_zero] at hc
    simp only at hc
    rw[Md hN,JL.2 h,bS,cF' _ (by simp;omega),hc,bS,Md hN,bS]
    by_cases ho:∀p∈l,On (mv (dx,dy) p)
    ·rw[if_pos ho,JL.2 (R1 (dx,dy) h ho),cF' _ (by rfl)]
    ·rw[if_neg ho,Ii.2 (fun q=>ho fun p hp=>q.on _ (List.mem_map.2 ⟨p,hp,rfl⟩)),cT' _ (by rfl)]
   ·split
    ·simp only[List.length_map];exact l8
    ·simp
  ·unfold NE at hd
   simp only at hd
   refine⟨([],70), ?_, ?_,by simp⟩
   ·unfold Un
    rw[Cx hN h,bS,cT' _ (by simp;omega)]
   ·unfold Uc
    rw[Md hN,JL.2 h,bS,cT' _ (by simp;omega)]
 ·refine⟨([],70), ?_, ?_,by simp⟩
  ·unfold Un
   rw[JN hN,Ii.2 h,bS,cT' _ (by rfl)]
  ·unfold Uc
   rw[Md hN,Ii.2 h,bS,cT' _ (by rfl)]
end Go.Proofs.YtdabfcbelkjmgaaGreatDoor.Am
