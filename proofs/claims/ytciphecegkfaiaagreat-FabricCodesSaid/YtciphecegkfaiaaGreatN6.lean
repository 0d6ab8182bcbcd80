import Derived.Test.YtciphecegkfaiaaGreatN4
import Derived.Test.YtciphecegkfaiaaGreatW6
import Derived.Test.YtciphecegkfaiaaGreatF4
namespace Go.Proofs.YtciphecegkfaiaaGreat.Am
set_option linter.unusedSimpArgs false
set_option linter.unusedVariables false
set_option linter.unusedSectionVars false
def vY (u:Un):List UInt8:=Ip u.1 u.2.1 u.2.2.1 u.2.2.2.1 u.2.2.2.2.1 u.2.2.2.2.2
def tW (t:List UInt8):List UInt8:=EZ (t.length:Int)++t
def unS:List Un→List UInt8
 |[]=>[]
 |u::r=>tW (vY u)++unS r
def tV (f:List Un):List UInt8:=EZ (f.length:Int)++unS f
def rdT (l:List UInt8):Option (List UInt8×Nat):=(rdI l).bind fun nm=>if(0≤nm.1∧nm.1≤65536)∧nm.2+nm.1.toNat≤l.length then some ((l.drop nm.2).take nm.1.toNat,nm.2+nm.1.toNat) else none
noncomputable def tX:Nat→List UInt8→Option (List Un×List UInt8)
 |0,l=>some ([],l)
 |k+1,l=>(rdT l).bind fun tk=>(L7 tk.1).bind fun u=>(tX k (l.drop tk.2)).map fun x=>(u::x.1,x.2)
open Classical in
noncomputable def uD (s:List UInt8):Option (List Un):=(rdI s).bind fun nm=>if 0≤nm.1∧nm.1≤12 then(tX nm.1.toNat (s.drop nm.2)).bind fun x=>if x.2=[]∧FV x.1 then some x.1 else none else none
theorem uC (n:Int):(EZ n).length≤10:=Sm n
theorem vE {t:List UInt8} (ht:t.length≤65536) (w:List UInt8):rdT (tW t++w)=some (t,(tW t).length):=by
 have hw:Wr (t.length:Int):=by unfold Wr;omega
 unfold rdT tW
 rw[List.append_assoc,TQ hw,Option.bind_some,if_pos]
 ·rw[List.drop_append_of_le_length (by omega),List.drop_length,List.nil_append,Int.toNat_natCast,List.take_append_of_le_length (by omega),List.take_length,List.length_append]
 ·simp only[List.length_append,Int.toNat_natCast];omega
theorem uJ {l t:List UInt8} {k:Nat} (h:rdT l=some (t,k)):t.length≤65536∧l.take k=tW t∧k≤l.length:=by
 unfold rdT at h
 cases hr:rdI l with
 |none=>rw[hr] at h;cases h
 |some nm=>
  obtain⟨n,m⟩:=nm
  rw[hr,Option.bind_some] at h
  simp only at h
  split at h
  ·rename_i hc
   obtain⟨_,h2,h3,_⟩:=L6 hr
   simp only[yE,Prod.mk.injEq] at h
   obtain⟨rfl,rfl⟩:=h
   have hl:((l.drop m).take n.toNat).length=n.toNat:=by rw[List.length_take,List.length_drop];omega
   refine⟨by omega, ?_,hc.2⟩
   unfold tW
   rw[hl,Int.toNat_of_nonneg hc.1.1,←h2,List.take_add]
  ·cases h
theorem uQ:∀(f:List Un) (w:List UInt8),(∀u∈f,UV u)→tX f.length (unS f++w)=some (f,w)
 |[],w,_=>rfl
 |u::r,w,h=>by
  have hu:=h u List.mem_cons_self
  have hl:=sC hu
  have e1:=rF hu
  rw[List.length_cons,tX,unS,List.append_assoc,vE (by unfold vY;omega),Option.bind_some]
  simp only
  rw[show L7 (vY u)=some u from e1,Option.bind_some,List.drop_append_of_le_length (Nat.le_refl _),List.drop_length,List.nil_append,uQ r w fun v hv=>h v (List.mem_cons_of_mem _ hv)]
  rfl
theorem uG:∀(k:Nat) (l:List UInt8) (f:List Un) (w:List UInt8),tX k l=some (f,w)→f.length=k∧l=unS f++w∧∀u∈f,UV u
 |0,l,f,w,h=>by
  simp only[tX,yE,Prod.mk.injEq] at h
  obtain⟨rfl,rfl⟩:=h
  exact⟨rfl,rfl,by simp⟩
 |k+1,l,f,w,h=>by
  rw[tX] at h
  obtain⟨⟨t,j⟩,h1,h⟩:=yB.1 h
  obtain⟨u,h2,h⟩:=yB.1 h
  obtain⟨⟨g,w'⟩,h3,h⟩:=Option.map_eq_some_iff.1 h
  simp only[Prod.mk.injEq] at h h2 h3
  obtain⟨rfl,rfl⟩:=h
  obtain⟨e1,e2,e3⟩:=uG k _ _ _ h3
  obtain⟨t1,t2,t3⟩:=uJ h1
  obtain⟨v1,v2⟩:=nP (a:=u.1) (b:=u.2.1) (c:=u.2.2.1) (l:=u.2.2.2.1) (p:=u.2.2.2.2.1) (q:=u.2.2.2.2.2) h2
  refine⟨by simp[e1], ?_,fun v hv=> ?_⟩
  ·rw[unS,List.append_assoc,←e2,show vY u=t from v2.symm,←t2,List.take_append_drop]
  ·rcases List.mem_cons.1 hv with rfl|hv
   ·exact v1
   ·exact e3 v hv
theorem uK {f:List Un} (h:FV f):uD (tV f)=some f:=by
 have hl:=h.len
 have hw:Wr (f.length:Int):=by unfold Wr;omega
 unfold uD tV
 rw[TQ hw,Option.bind_some,if_pos (by simp only;omega)]
 simp only
 rw[List.drop_append_of_le_length (Nat.le_refl _),List.drop_length,List.nil_append,Int.toNat_natCast,show unS f=unS f++[] by simp,uQ f [] h.val,Option.bind_some,if_pos ⟨rfl,h⟩]
theorem uV {s:List UInt8} {f:List Un} (h:uD s=some f):FV f∧s=tV f:=by
 unfold uD at h
 obtain⟨⟨n,m⟩,h1,h⟩:=yB.1 h
 simp only at h
 split at h
 ·rename_i hc
  obtain⟨⟨g,w⟩,h2,h⟩:=yB.1 h
  simp only at h
  split at h
  ·rename_i hd
   obtain rfl:=yJ h
   obtain⟨e1,e2,_⟩:=uG _ _ _ _ h2
   obtain⟨_,k2,k3,_⟩:=L6 h1
   refine⟨hd.2, ?_⟩
   have hw:w=[]:=hd.1
   rw[hw,List.append_nil] at e2
   unfold tV
   rw[e1,Int.toNat_of_nonneg hc.1,←e2,←k2,List.take_append_drop]
  ·cases h
 ·cases h
theorem uR:∀(f:List Un),(∀u∈f,UV u)→(unS f).length≤1010*f.length
 |[],_=>by simp[unS]
 |u::r,h=>by
  have h1:=sC (h u List.mem_cons_self)
  have h2:=uR r fun v hv=>h v (List.mem_cons_of_mem _ hv)
  have h3:=uC ((vY u).length:Int)
  have h4:(vY u).length≤1000:=h1.2
  rw[unS,List.length_append,List.length_cons]
  unfold tW
  rw[List.length_append]
  omega
theorem uZ {f:List Un} (h:FV f):0<(tV f).length∧(tV f).length≤20000:=by
 have h1:=uR f h.val
 have h2:=uC (f.length:Int)
 have h3:=h.len
 have hw:Wr (f.length:Int):=by unfold Wr;omega
 obtain⟨_,_,h5,h6⟩:=L6 (TQ hw [])
 unfold tV
 rw[List.length_append]
 omega
section
variable {N:Nat} (hN:1001≤N)
include hN
theorem uS {f:List Un} (h:FV f):∀n i (o:List UInt8),i≤f.length→f.length<n+i→o.length≤10+1010*i→Gd N f n o i=some (o++unS (f.drop i))
 |0,i,o,h1,h2,_=>by omega
 |n+1,i,o,h1,h2,h3=>by
  have hl:=h.len
  rw[Gd]
  by_cases e:i=f.length
  ·subst e;rw[dge,cF,List.drop_length];simp[unS]
  ·have hi:i<f.length:=by omega
   have u:=h.val _ (FO hi)
   have el:=sC u
   have pl:=uC ((vY (uat f i)).length:Int)
   have e4:(vY (uat f i)).length≤1000:=el.2
   have sl:(tW (vY (uat f i))).length≤1010:=by unfold tW;rw[List.length_append];omega
   rw[dlt hi,cT,GC hi,bS]
   simp only
   rw[kL (by omega) u,bS]
   simp only
   rw[show Ip (uat f i).1 (uat f i).2.1 (uat f i).2.2.1 (uat f i).2.2.2.1 (uat f i).2.2.2.2.1 (uat f i).2.2.2.2.2=vY (uat f i) from rfl]
   unfold Ik
   rw[cF' _ (by rw[decide_eq_false_iff_not];omega),Ab (by rw[List.length_append];omega),bS]
   simp only
   rw[show EZ ((vY (uat f i)).length:Int)++vY (uat f i)=tW (vY (uat f i)) from rfl,Ab (by rw[List.length_append];omega),Ab (by unfold I64;omega),←ns,uS h n (i+1) _ (by omega) (by omega) (by rw[List.length_append];omega),List.drop_eq_getElem_cons hi,unS,←Fr hi,List.append_assoc]
theorem vH (f:List Un):Ge N f=some (if FV f then(tV f,0) else([],120)):=by
 unfold Ge
 rw[UZ hN,bS]
 by_cases h:FV f
 ·have hl:=h.len
  have e:=uS hN h N 0 (EZ (f.length:Int)) (by omega) (by omega) (by have:=uC (f.length:Int);omega)
  rw[Int.natCast_zero,List.drop_zero] at e
  rw[decide_eq_true h,cF' _ (by rfl),e,bS,if_pos h]
  rfl
 ·rw[decide_eq_false h,cT' _ (by rfl),if_neg h]
theorem vF {s:List UInt8} {p:Nat} (hs:s.length≤1000000000) (hp:p≤s.length):(∃t k,rdT (s.drop p)=some (t,k)∧p+k≤s.length∧JD N s p=some (t,((p+k:Nat):Int),0))∨(rdT (s.drop p)=none∧∃e,e≠0∧JD N s p=some ([],0,e)):=by
 unfold JD rdT
 rw[kJ (by omega) hs hp,bS]
 cases hr:rdI (s.drop p) with
 |none=>
  right
  simp only
  refine⟨rfl,_, ?_,by rw[cT' _ (by rfl)]⟩
  omega
 |some nm=>
  obtain⟨n,m⟩:=nm
  obtain⟨wn,_,h3,_⟩:=L6 hr
  rw[List.length_drop] at h3
  unfold Wr at wn
  simp only
  rw[cF' _ (by rfl),EO (fun _=>by unfold I64;omega),Option.bind_some]
  simp only
  rw[List.length_drop]
  by_cases c:(0≤n∧n≤65536)∧m+n.toNat≤s.length-p
  ·left
   rw[if_pos c]
   refine⟨_,_,rfl,by omega, ?_⟩
   rw[cF' _ (by rw[Bool.or_eq_false_iff,Bool.or_eq_false_iff,decide_eq_false_iff_not,decide_eq_false_iff_not,decide_eq_false_iff_not];omega),Ab (by unfold I64;omega),Ab (by omega),Ab (by unfold I64;omega)]
   have e1:(((p+m:Nat):Int)+n).toNat-((p+m:Nat):Int).toNat=n.toNat:=by omega
   have e2:((p+m:Nat):Int)+n=((p+(m+n.toNat):Nat):Int):=by omega
   rw[e1,e2,Int.toNat_natCast,List.drop_drop]
  ·right
   rw[if_neg c]
   refine⟨rfl,10,by omega, ?_⟩
   rw[cT' _ (by rw[Bool.or_eq_true,Bool.or_eq_true,decide_eq_true_eq,decide_eq_true_eq,decide_eq_true_eq];omega)]
theorem uT {s:List UInt8} (hs:s.length≤1000000000) {n:Nat} (hn:n≤12):∀(k fu p i:Nat) (l:List Un),i+k=n→k<fu→p≤s.length→l.length=i→
  (∃us w,tX k (s.drop p)=some (us,w)∧w.length≤s.length∧Gf N 0 n s fu p i l=some (((s.length-w.length:Nat):Int),false,l++us))∨(tX k (s.drop p)=none∧∃a l',Gf N 0 n s fu p i l=some (a,true,l'))
 |_,0,p,i,l,_,h2,_,_=>by omega
 |0,fu+1,p,i,l,h1,h2,h3,h4=>by
  left
  refine⟨[],s.drop p,rfl,by rw[List.length_drop];omega, ?_⟩
  rw[Gf,cF' _ (by rw[Bool.and_eq_false_iff];right;rw[decide_eq_false_iff_not];omega),List.append_nil,List.length_drop,show s.length-(s.length-p)=p by omega]
  rw[decide_eq_false (p:=(n:Int)<0) (by omega),decide_eq_false (p:=(12:Int)<(n:Int)) (by omega)]
  rfl
 |k+1,fu+1,p,i,l,h1,h2,h3,h4=>by
  rw[Gf,cT' _ (by rw[decide_eq_false (p:=(n:Int)<0) (by omega),decide_eq_false (p:=(12:Int)<(n:Int)) (by omega),decide_eq_true (p:=(i:Int)<(n:Int)) (by omega)];rfl),tX]
  rcases vF hN hs h3 with⟨t,j,e1,e2,e3⟩|⟨e1,e,he,e3⟩
  ·have ht:t.length≤65536:=(uJ e1).1
   rw[e1,e3,bS,Option.bind_some]
   simp only
   rw[rZ (by omega) (by omega),bS]
   cases hd:L7 t with
   |none=>
    right
    refine⟨rfl,(p:Int),l, ?_⟩
    simp only
    rw[cT' _ (by rfl)]
   |some u=>
    obtain⟨u1,u2,u3,u4,u5,u6⟩:=u
    simp only
    rw[cF' _ (by rfl),Ab (by omega),Ab (by unfold I64;omega),←ns,Option.bind_some,List.drop_drop]
    rcases uT hs hn k fu (p+j) (i+1) (l++[(u1,u2,u3,u4,u5,u6)]) (by omega) (by omega) (by omega) (by simp[h4]) with⟨us,w,g1,g2,g3⟩|⟨g1,a,l',g3⟩
    ·left
     rw[g1,g3]
     exact⟨_,w,rfl,g2,by rw[List.append_assoc];rfl⟩
    ·right
     rw[g1,g3]
     exact⟨rfl,_,_,rfl⟩
  ·right
   rw[e1,e3,bS]
   refine⟨rfl, ?_⟩
   simp only
   obtain⟨x,hx⟩:∃x,CK N []=some x:=⟨_,rZ (by omega) (by simp)⟩
   obtain⟨⟨x1,x2,x3,x4,x5,x6⟩,x7⟩:=x
   rw[hx,bS]
   simp only
   exact⟨(p:Int),l,by rw[cT' _ (by rw[decide_eq_true he];rfl)]⟩
theorem vI {s:List UInt8} (hs:s.length≤1000000000):Fp N s=some (match uD s with|some f=>(f,0)|none=>([],120)):=by
 unfold Fp uD
 have hi:=kJ (N:=N) (s:=s) (p:=0) (by omega) hs (Nat.zero_le _)
 rw[List.drop_zero,Int.natCast_zero] at hi
 rw[hi,bS]
 have bad:∀(r n:Int) (p:Int),(r≠0∨n<0∨12<n)→Gf N r n s N p 0 []=some (p,true,[]):=fun r n p h=>by
  have hb:((decide (r≠0)||decide (n<0))||decide (12<n))=true:=by
   rw[Bool.or_eq_true,Bool.or_eq_true,decide_eq_true_eq,decide_eq_true_eq,decide_eq_true_eq];omega
  obtain⟨m,rfl⟩:∃m,N=m+1:=⟨N-1,by omega⟩
  rw[Gf,hb,cF' _ (by rfl)]
 have out:∀(a:Int) (l:List Un),(gd ((!(true||decide (a≠(s.length:Int))))=true→((AT N l).isSome=true))<|bif (true||decide (a≠(s.length:Int)))||(!((AT N l).getD false)) then some (([]:List Un),(120:Int)) else some (l,0))=some ([],120):=fun a l=>by
  rw[EO (fun h=>by cases h),cT' _ (by rfl)]
 cases hr:rdI s with
 |none=>
  simp only
  rw[bad _ _ _ (.inl (by omega)),bS]
  exact out _ _
 |some nm=>
  obtain⟨n,m⟩:=nm
  obtain⟨_,_,h3,_⟩:=L6 hr
  simp only
  rw[Option.bind_some]
  simp only
  by_cases c:0≤n∧n≤12
  ·rw[if_pos c]
   rcases uT hN hs (n:=n.toNat) (by omega) n.toNat N (0+m) 0 [] (by omega) (by omega) (by omega) rfl with⟨us,w,g1,g2,g3⟩|⟨g1,a,l',g3⟩
   ·rw[Int.toNat_of_nonneg c.1,Int.natCast_zero] at g3
    rw[g3,bS,Nat.zero_add] at*
    rw[g1,Option.bind_some]
    simp only
    rw[UZ hN,EO (fun _=>Option.isSome_some),Option.getD_some,List.nil_append]
    by_cases k:w=[]∧FV us
    ·rw[if_pos k,decide_eq_true k.2,k.1,cF' _ (by rw[decide_eq_false (by simp)];rfl)]
    ·rw[if_neg k,cT']
     by_cases k1:w=[]
     ·rw[decide_eq_false fun h=>k ⟨k1,h⟩,Bool.not_false,Bool.or_true]
     ·have:0<w.length:=List.length_pos_iff.2 k1
      rw[decide_eq_true (by omega)]
      rfl
   ·rw[Int.toNat_of_nonneg c.1,Int.natCast_zero] at g3
    rw[g3,bS]
    rw[Nat.zero_add] at g1
    rw[g1]
    exact out _ _
  ·rw[if_neg c,bad _ _ _ (.inr (by omega)),bS]
   exact out _ _
end
end Go.Proofs.YtciphecegkfaiaaGreat.Am
