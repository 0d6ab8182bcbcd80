import Derived.Test.YtdabfcbelkjmgaaGreatDoorM7
import Derived.Test.YtdabfcbelkjmgaaGreatDoorD8
import Derived.Test.YtdabfcbelkjmgaaGreatDoorM9
namespace Go.Proofs.YtdabfcbelkjmgaaGreatDoor.Am
set_option linter.unusedSimpArgs false
set_option linter.unusedVariables false
def E5 (x y:Int):Int:=if x<y then-1 else if y<x then 1 else 0
def A7 (p q:Pt):Int:=if E5 p.1 q.1≠0 then E5 p.1 q.1 else E5 p.2 q.2
theorem DX {N:Nat} (hN:100≤N) (p q:Pt):SY N p.1 p.2 q.1 q.2=some (A7 p q):=by
 unfold SY
 rw[FP,bS,FP,bS]
 unfold UE
 obtain⟨n,rfl⟩:∃n,N=n+1+1+1:=⟨N-3,by omega⟩
 have c1:(if p.1<q.1 then-1 else if q.1<p.1 then 1 else 0:Int)=E5 p.1 q.1:=rfl
 have c2:(if p.2<q.2 then-1 else if q.2<p.2 then 1 else 0:Int)=E5 p.2 q.2:=rfl
 rw[c1,c2]
 unfold A7
 generalize E5 p.1 q.1=a
 generalize E5 p.2 q.2=b
 rw[TV,cT' _ (by rfl),show nth [a,b] 0=some a from rfl,bS]
 by_cases h:a=0
 ·subst h
  rw[cF' _ (by decide),Aa (by decide),if_neg (by simp),TV,cT' _ (by rfl),show nth [(0:Int),b] (0+1)=some b from rfl,bS]
  by_cases h2:b=0
  ·subst h2
   rw[cF' _ (by decide),Aa (by decide),TV,cF' _ (by decide),bS]
   simp only
   rw[bS]
  ·rw[cT' _ (decide_eq_true h2),bS]
   simp only
   rw[bS]
 ·rw[cT' _ (decide_eq_true h),if_pos h,bS]
  simp only
  rw[bS]
theorem Cd {p q:Pt}:A7 p q<0↔p.1<q.1∨(p.1=q.1∧p.2<q.2):=by
 unfold A7 E5
 repeat' split
 all_goals omega
theorem Dn {p q:Pt}:0<A7 p q↔q.1<p.1∨(q.1=p.1∧q.2<p.2):=by
 unfold A7 E5
 repeat' split
 all_goals omega
def CX (u v:Pt):Pt:=if 0<A7 v u then v else u
def CY (u v:Pt):Pt:=if A7 v u<0 then v else u
theorem PP {N:Nat} (hN:100≤N) (u v:Pt) (n:Nat):Sn N [(u.1,u.2),(v.1,v.2)] (n+1+1) 1 u.1 u.2=some ((CX u v).1,(CX u v).2):=by
 rw[Sn,cT' _ (by rfl),show nth [(u.1,u.2),(v.1,v.2)] 1=some (v.1,v.2) from rfl,bS]
 simp only
 rw[DX hN,bS]
 unfold CX
 by_cases h:0<A7 v u
 ·rw[cT' _ (decide_eq_true h),Aa (by decide),if_pos h,Sn,cF' _ (by rfl)]
 ·rw[cF' _ (decide_eq_false h),Aa (by decide),if_neg h,Sn,cF' _ (by rfl)]
theorem HT {N:Nat} (hN:100≤N) (u v:Pt):Sc N [(u.1,u.2),(v.1,v.2)]=some ((CX u v).1,(CX u v).2):=by
 unfold Sc
 have h:=fun n=>PP hN u v n
 obtain⟨n,e⟩:∃n,N=n+1+1:=⟨N-2,by omega⟩
 have h':=h n
 rw[←e] at h'
 rw[Aa (by rfl),show nth [(u.1,u.2),(v.1,v.2)] 0=some (u.1,u.2) from rfl,bS]
 simp only
 rw[h',bS]
theorem PQ {N:Nat} (hN:100≤N) (u v:Pt) (n:Nat):So N [(u.1,u.2),(v.1,v.2)] (n+1+1) 1 u.1 u.2=some ((CY u v).1,(CY u v).2):=by
 rw[So,cT' _ (by rfl),show nth [(u.1,u.2),(v.1,v.2)] 1=some (v.1,v.2) from rfl,bS]
 simp only
 rw[DX hN,bS]
 unfold CY
 by_cases h:A7 v u<0
 ·rw[cT' _ (decide_eq_true h),Aa (by decide),if_pos h,So,cF' _ (by rfl)]
 ·rw[cF' _ (decide_eq_false h),Aa (by decide),if_neg h,So,cF' _ (by rfl)]
theorem HU {N:Nat} (hN:100≤N) (u v:Pt):Sd N [(u.1,u.2),(v.1,v.2)]=some ((CY u v).1,(CY u v).2):=by
 unfold Sd
 have h:=fun n=>PQ hN u v n
 obtain⟨n,e⟩:∃n,N=n+1+1:=⟨N-2,by omega⟩
 have h':=h n
 rw[←e] at h'
 rw[Aa (by rfl),show nth [(u.1,u.2),(v.1,v.2)] 0=some (u.1,u.2) from rfl,bS]
 simp only
 rw[h',bS]
def lo (p q:Pt):Pt:=if A7 q p<0 then q else p
def hi (p q:Pt):Pt:=if A7 q p<0 then p else q
def AT (p q r s:Pt):Pt×Pt:=(CX (lo p q) (lo r s),CY (hi p q) (hi r s))
theorem Mf {N:Nat} (hN:100≤N) (p q r s:Pt):Tu N p.1 p.2 q.1 q.2 r.1 r.2 s.1 s.2=some (AT p q r s):=by
 unfold Tu AT lo hi
 rw[bS,DX hN,bS,DX hN]
 by_cases h1:A7 q p<0
 ·rw[cT' _ (decide_eq_true h1),if_pos h1,if_pos h1,bS]
  by_cases h2:A7 s r<0
  ·rw[cT' _ (decide_eq_true h2),if_pos h2,if_pos h2,HT hN,bS]
   simp only
   rw[HU hN,bS,Aa (by decide),Aa (by decide),Aa (by decide),Aa (by decide)]
  ·rw[cF' _ (decide_eq_false h2),if_neg h2,if_neg h2,HT hN,bS]
   simp only
   rw[HU hN,bS,Aa (by decide),Aa (by decide),Aa (by decide),Aa (by decide)]
 ·rw[cF' _ (decide_eq_false h1),if_neg h1,if_neg h1,bS]
  by_cases h2:A7 s r<0
  ·rw[cT' _ (decide_eq_true h2),if_pos h2,if_pos h2,HT hN,bS]
   simp only
   rw[HU hN,bS,Aa (by decide),Aa (by decide),Aa (by decide),Aa (by decide)]
  ·rw[cF' _ (decide_eq_false h2),if_neg h2,if_neg h2,HT hN,bS]
   simp only
   rw[HU hN,bS,Aa (by decide),Aa (by decide),Aa (by decide),Aa (by decide)]
def BB (e f:Pt×Pt):Option (Pt×Pt):=
 if trn e.1 e.2 f.1≠0∨trn e.1 e.2 f.2≠0 then none
 else if(AT e.1 e.2 f.1 f.2).1=(AT e.1 e.2 f.1 f.2).2∨0<A7 (AT e.1 e.2 f.1 f.2).1 (AT e.1 e.2 f.1 f.2).2 then none
 else if 0<A7 e.1 e.2 then some ((AT e.1 e.2 f.1 f.2).2,(AT e.1 e.2 f.1 f.2).1) else some (AT e.1 e.2 f.1 f.2)
theorem KL {N:Nat} (hN:100≤N) {e:Pt×Pt} (he:Sml e.1∧Sml e.2):∀(es:List (Pt×Pt)),(∀f∈es,Sml f.1∧Sml f.2)→TD N e.1.1 e.1.2 e.2.1 e.2.2 es=some (match es.findSome? (BB e) with|some s=> .inr (s,true)|none=> .inl ())
 |[],_=>by simp[TD]
 |f::es,h=>by
  have hf:=h f (by simp)
  have ih:=KL hN he es fun x hx=>h x (by simp[hx])
  rw[show f=((f.1.1,f.1.2),(f.2.1,f.2.2)) from rfl,TD,DV he.1 he.2 hf.1,bS,DV he.1 he.2 hf.2,Aa (fun _=>Option.isSome_some),Option.getD_some,List.findSome?_cons]
  rw[show((f.1.1,f.1.2),(f.2.1,f.2.2))=f from rfl,ih]
  by_cases h1:trn e.1 e.2 f.1≠0∨trn e.1 e.2 f.2≠0
  ·rw[cT' _ (by simpa using h1),show BB e f=none from if_pos h1]
  ·rw[cF' _ (by rw[Bool.eq_false_iff];simpa using h1),Mf hN,show AT e.1 e.2 f.1 f.2=(((AT e.1 e.2 f.1 f.2).1.1,(AT e.1 e.2 f.1 f.2).1.2),((AT e.1 e.2 f.1 f.2).2.1,(AT e.1 e.2 f.1 f.2).2.2)) from rfl,bS]
   simp only
   rw[DX hN,Aa (fun _=>Option.isSome_some),Option.getD_some,ptE]
   by_cases h2:(AT e.1 e.2 f.1 f.2).1=(AT e.1 e.2 f.1 f.2).2∨0<A7 (AT e.1 e.2 f.1 f.2).1 (AT e.1 e.2 f.1 f.2).2
   ·rw[cT' _ (by simpa using h2),show BB e f=none by unfold BB;rw[if_neg h1,if_pos h2]]
   ·rw[cF' _ (by rw[Bool.eq_false_iff];simpa using h2),DX hN,bS]
    by_cases h3:0<A7 e.1 e.2
    ·rw[cT' _ (decide_eq_true h3),show BB e f=some ((AT e.1 e.2 f.1 f.2).2,(AT e.1 e.2 f.1 f.2).1) by unfold BB;rw[if_neg h1,if_neg h2,if_pos h3]]
    ·rw[cF' _ (decide_eq_false h3),show BB e f=some (AT e.1 e.2 f.1 f.2) by unfold BB;rw[if_neg h1,if_neg h2,if_neg h3]]
def D4 (a b:List Pt):Option (Pt×Pt):=(AS a).findSome? fun e=>(AS b).findSome? (BB e)
theorem KM {N:Nat} (hN:100≤N) {b:List Pt} (hb:VP b):∀(es:List (Pt×Pt)),(∀f∈es,Sml f.1∧Sml f.2)→TX N b es=some (match es.findSome? (fun e=>(AS b).findSome? (BB e)) with|some s=> .inr (s,true)|none=> .inl ())
 |[],_=>by simp[TX]
 |e::es,h=>by
  have he:=h e (by simp)
  have b8:=hb.l8
  rw[show e=((e.1.1,e.1.2),(e.2.1,e.2.2)) from rfl,TX,Aa (by omega),KL hN he _ (B9 hb.sml),bS,List.findSome?_cons]
  rw[show((e.1.1,e.1.2),(e.2.1,e.2.2))=e from rfl]
  cases(AS b).findSome? (BB e) with
  |some s=>rfl
  |none=>exact KM hN hb es fun x hx=>h x (by simp[hx])
open Classical in
noncomputable def DP (a b:List Pt):(Pt×Pt)×Bool:=if apart a b then(match D4 a b with|some s=>(s,true)|none=>(((0,0),(0,0)),false)) else(((0,0),(0,0)),false)
theorem OM {N:Nat} (hN:1001≤N) {a b:List Pt} (ha:VP a) (hb:VP b):TL N a b=some (DP a b):=by
 unfold TL DP
 have a8:=ha.l8
 rw[Cx (by omega) ha,Cx (by omega) hb,bS,Aa (fun _=>Option.isSome_some),HR hN ha hb,Aa (fun _=>Option.isSome_some),Option.getD_some,Option.getD_some]
 by_cases h:apart a b
 ·rw[GK.2 h,cF' _ (by rfl),Aa (by omega),if_pos h,KM (by omega) hb _ (B9 ha.sml),bS,show(AS a).findSome? (fun e=>(AS b).findSome? (BB e))=D4 a b from rfl]
  cases D4 a b<;>rfl
 ·have e:(Cc a b).2.2=false:=by rw[Bool.eq_false_iff];intro q;exact h (GK.1 q)
  rw[e,cT' _ (by rfl),if_neg h]
theorem Lr {l:List Pt} (hl:0<l.length) {i:Nat} (hi:i<l.length) (p:Pt):E l i p=trn (qa l i) (qa l (i+1)) p:=by
 rw[CW hl,Nat.mod_eq_of_lt hi]
theorem Io {l:List Pt} (h:VP l) (s t:Nat):0≤trn (qa l s) (qa l (s+1)) (qa l t):=by
 have l3:=h.l3
 have hn:0<l.length:=by omega
 have hs:=Fg (n:=l.length) (i:=s%l.length) (k:=t%l.length) hn
 have ha:=Gg (Nat.mod_lt s hn) (Nat.mod_lt t hn)
 rw[Nat.mod_add_mod] at ha
 have e:qa l t=qa l (s+stp l.length (s%l.length) (t%l.length)):=by
  show pa l (t%l.length)=pa l ((s+stp l.length (s%l.length) (t%l.length))%l.length)
  rw[ha]
 rw[e]
 generalize stp l.length (s%l.length) (t%l.length)=a at*
 by_cases h0:a=0
 ·subst h0;show 0≤trn (qa l s) (qa l (s+1)) (qa l s);rw[Bk];omega
 by_cases h1:a=1
 ·subst h1;rw[Bn];omega
 exact Int.le_of_lt (BF h.cv (by omega) hs)
theorem uC {u w p:Pt} {x:Pt} (h1:trn u w p=0) (h2:trn u x p=0) (h3:trn u w x≠0):p=u:=by
 have e1:(p.1-u.1)*trn u w x=(w.1-u.1)*trn u p x+(x.1-u.1)*trn u w p:=by unfold trn;grind
 have e2:(p.2-u.2)*trn u w x=(w.2-u.2)*trn u p x+(x.2-u.2)*trn u w p:=by unfold trn;grind
 have e3:trn u p x= -trn u x p:=by unfold trn;grind
 rw[h1,e3,h2] at e1 e2
 simp only[Int.neg_zero,Int.mul_zero,Int.add_zero,Int.mul_eq_zero] at e1 e2
 exact Prod.ext (by rcases e1 with h|h;omega;exact absurd h h3) (by rcases e2 with h|h;omega;exact absurd h h3)
end Go.Proofs.YtdabfcbelkjmgaaGreatDoor.Am
