import Derived.Test.YtdabfcbelkjmgaaGreatDoorMW
namespace Go.Proofs.YtdabfcbelkjmgaaGreatDoor.Am
set_option linter.unusedSimpArgs false
set_option linter.unusedVariables false
def lxl (p q:Pt):Prop:=p.1<q.1∨(p.1=q.1∧p.2<q.2)
def uG (a b:List Pt) (p:Pt):Prop:=sd a p=0∧sd b p=0
structure InvQ (a b:List Pt) (i k:Nat) (l:List Pt):Prop where
 len:l.length≤41*i+k
 pw:l.Pairwise lxl
 mem:∀p,p∈l↔∃x y:Nat,(x<i∨(x=i∧y<k))∧y≤40∧p=((x:Int),(y:Int))∧uG a b p
section
variable {a b:List Pt}
theorem sF {N:Nat} (hN:100≤N) (ha:VP a) (hb:VP b) {i:Nat} (hi:i≤40):∀(n k:Nat) (out:List Pt),k≤41→41<n+k→InvQ a b i k out→∃r,TE N a i b n k out=some r∧InvQ a b i 41 r
 |0,k,out,h1,h2,_=>by omega
 |n+1,k,out,h1,h2,hI=>by
  rw[TE]
  by_cases he:k=41
  ·subst he
   exact⟨out,by rw[decide_eq_false (by omega),cF],hI⟩
  have hk:k≤40:=by omega
  have len:=hI.len
  rw[decide_eq_true (show(k:Int)≤40 by omega),cT,uT hN ha hi hk,bS,uT hN hb hi hk,Aa (fun _=>Option.isSome_some),Option.getD_some]
  by_cases hz:uG a b ((i:Int),(k:Int))
  ·rw[cT' _ (by rw[decide_eq_true hz.1,decide_eq_true hz.2];rfl),Aa (by omega),Aa (by unfold I64;omega),←ns]
   refine sF hN ha hb hi n (k+1) _ (by omega) (by omega) ⟨by simp;omega, ?_,fun p=> ?_⟩
   ·rw[List.pairwise_append]
    refine⟨hI.pw,by simp,fun p hp q hq=> ?_⟩
    rw[List.mem_singleton] at hq
    obtain⟨x,y,h,_,e,_⟩:=(hI.mem p).1 hp
    rw[e,hq]
    unfold lxl
    simp only
    omega
   ·rw[List.mem_append,List.mem_singleton,hI.mem p]
    constructor
    ·rintro(⟨x,y,h,hy,e,z⟩|e)
     ·exact⟨x,y,by omega,hy,e,z⟩
     ·exact⟨i,k,by omega,hk,e,by rw[e];exact hz⟩
    ·rintro⟨x,y,h,hy,e,z⟩
     by_cases q:x=i∧y=k
     ·right;rw[e,q.1,q.2]
     ·exact .inl ⟨x,y,by omega,hy,e,z⟩
  ·rw[cF' _ (by rw[Bool.eq_false_iff];intro q;rw[Bool.and_eq_true,decide_eq_true_eq,decide_eq_true_eq] at q;exact hz q),Aa (by unfold I64;omega),←ns]
   refine sF hN ha hb hi n (k+1) _ (by omega) (by omega) ⟨by omega,hI.pw,fun p=> ?_⟩
   rw[hI.mem p]
   constructor
   ·rintro⟨x,y,h,hy,e,z⟩
    exact⟨x,y,by omega,hy,e,z⟩
   ·rintro⟨x,y,h,hy,e,z⟩
    by_cases q:x=i∧y=k
    ·rw[e,q.1,q.2] at z;exact absurd z hz
    ·exact⟨x,y,by omega,hy,e,z⟩
theorem tC {N:Nat} (hN:100≤N) (ha:VP a) (hb:VP b):∀(n i:Nat) (out:List Pt),i≤41→41<n+i→InvQ a b i 0 out→∃r,T1 N a b n i out=some r∧InvQ a b 41 0 r
 |0,i,out,h1,h2,_=>by omega
 |n+1,i,out,h1,h2,hI=>by
  rw[T1]
  by_cases he:i=41
  ·subst he
   exact⟨out,by rw[decide_eq_false (by omega),cF],hI⟩
  have hi:i≤40:=by omega
  obtain⟨r,er,hr⟩:=sF hN ha hb hi N 0 out (by omega) (by omega) hI
  rw[Int.natCast_zero] at er
  rw[decide_eq_true (show(i:Int)≤40 by omega),cT,er,bS,Aa (by unfold I64;omega),←ns]
  refine tC hN ha hb n (i+1) r (by omega) (by omega) ⟨by have:=hr.len;omega,hr.pw,fun p=> ?_⟩
  rw[hr.mem p]
  constructor
  ·rintro⟨x,y,h,hy,e,z⟩
   exact⟨x,y,by omega,hy,e,z⟩
  ·rintro⟨x,y,h,hy,e,z⟩
   exact⟨x,y,by omega,hy,e,z⟩
open Classical in
theorem tQ {N:Nat} {u w:Pt} (ha:VP a) (hN:100≤N) (hu:Sml u) (hw:Sml w):Ua N a u.1 u.2 w.1 w.2 N 0=some (if∃x∈a,trn u w x<0 then .inr (((w.1,w.2),(u.1,u.2)),true) else .inl ()):=by
 have a8:=ha.l8
 have step:∀n (k:Nat),k<a.length→Ua N a u.1 u.2 w.1 w.2 (n+1) k=if trn u w (pa a k)<0 then some (.inr (((w.1,w.2),(u.1,u.2)),true)) else Ua N a u.1 u.2 w.1 w.2 n ((k+1:Nat):Int):=fun n k hk=>by
  rw[Ua,dlt hk,cT,Bu hk,bS]
  simp only
  rw[JK hu hw (ha.sml _ (AJ hk)),bS]
  by_cases h:trn u w (pa a k)<0
  ·rw[decide_eq_true h,cT,if_pos h]
  ·rw[decide_eq_false h,cF,if_neg h,Aa (by unfold I64;omega),ns]
 have key:=FN (L:=Ua N a u.1 u.2 w.1 w.2) (len:=a.length) (fun k=>if trn u w (pa a k)<0 then some (((w.1,w.2),(u.1,u.2)),true) else none)
  (fun n k hk hf=>by
   rw[step n k hk,if_neg]
   intro h;rw[if_pos h] at hf;cases hf) (fun n k r hk hf=>by
   by_cases h:trn u w (pa a k)<0
   ·rw[if_pos h] at hf;rw[step n k hk,if_pos h,←yJ hf]
   ·rw[if_neg h] at hf;cases hf) (fun n=>by
   rw[Ua,dge,cF]) N (by omega)
 rcases key with⟨e,h⟩|⟨j,r,a2,a3,a4,e⟩
 ·rw[e,if_neg]
  rintro⟨x,hx,q⟩
  obtain⟨k,hk,rfl⟩:=EV hx
  have:=h k hk
  rw[if_pos q] at this
  cases this
 ·by_cases h:trn u w (pa a j)<0
  ·rw[if_pos h] at a3
   rw[e,←yJ a3,if_pos ⟨_,AJ a2,h⟩]
  ·rw[if_neg h] at a3;cases a3
theorem tJ (ha:VP a) (hb:VP b) {j t:Nat} (hj:j<a.length) (ht:t<b.length) {s:Pt×Pt} (hc:BB (pa a j,pa a ((j+1)%a.length)) (pa b t,pa b ((t+1)%b.length))=some s):On s.1∧On s.2:=by
 have h1:∀u v:Pt,On u→On v→On (lo u v)∧On (Am.hi u v)∧On (CX u v)∧On (CY u v):=fun u v a b=>by
  unfold lo Am.hi CX CY
  refine⟨?_, ?_, ?_, ?_⟩<;>split<;>assumption
 obtain⟨_,_,_,_,es⟩:=IV hc
 have q0:=ha.on _ (AJ hj)
 have q1:=ha.on _ (AJ (Nat.mod_lt (j+1) (show 0<a.length by omega)))
 have q2:=hb.on _ (AJ ht)
 have q3:=hb.on _ (AJ (Nat.mod_lt (t+1) (show 0<b.length by omega)))
 have r1:=(h1 _ _ (h1 _ _ q0 q1).1 (h1 _ _ q2 q3).1).2.2.1
 have r2:=(h1 _ _ (h1 _ _ q0 q1).2.1 (h1 _ _ q2 q3).2.1).2.2.2
 rw[es]
 split
 ·exact⟨r2,r1⟩
 ·exact⟨r1,r2⟩
theorem sU (ha:VP a) {u w:Pt} (hne:u≠w) (hl:∀x∈a,0≤trn u w x):∃x∈a,0<trn u w x:=by
 have l3:=ha.l3
 by_cases h:∃x∈a,0<trn u w x
 ·exact h
 exfalso
 have z:∀x∈a,trn u w x=0:=fun x hx=>by
  have:=hl x hx
  by_cases q:0<trn u w x
  ·exact absurd ⟨x,hx,q⟩ h
  ·omega
 obtain⟨x,hx,px⟩:=Iq ha (j:=0) (by omega)
 have m0:=AJ (l:=a) (i:=0) (by omega)
 have m1:=AJ (l:=a) (i:=(0+1)%a.length) (Nat.mod_lt _ (by omega))
 have:=PL (g:=(w.2-u.2,u.1-w.1)) (p:=x) (a:=pa a 0) (b:=pa a ((0+1)%a.length)) (by rw[Il,z _ hx,z _ m0];omega) (by rw[Il,z _ hx,z _ m1];omega) (fun e=>hne (by
  have e1:=congrArg Prod.fst e
  have e2:=congrArg Prod.snd e
  simp only at e1 e2
  exact Prod.ext (by omega) (by omega)))
 rw[←BX] at this
 unfold E at px
 omega
open Classical in
theorem sG {N:Nat} (hN:1001≤N) (ha:VP a) (hb:VP b):S5 N a b=some (DP a b):=by
 unfold S5
 have a8:=ha.l8
 rw[Md (by omega),Md (by omega),JL.2 ha,JL.2 hb,bS,Aa (fun _=>Option.isSome_some),rZ hN ha hb,Aa (fun _=>Option.isSome_some),Option.getD_some,Option.getD_some]
 by_cases hap:apart a b
 case neg=>
  rw[decide_eq_true hap,cT' _ (by rfl)]
  unfold DP
  rw[if_neg hap]
 rw[decide_eq_false (fun q=>q hap),cF' _ (by rfl)]
 obtain⟨r,er,hr⟩:=tC (N:=N) (by omega) ha hb N 0 [] (by omega) (by omega) ⟨by simp,by simp,fun p=>⟨by simp,by rintro⟨x,y,h,_⟩;omega⟩⟩
 rw[Int.natCast_zero] at er
 rw[er,bS]
 have mem:∀p,p∈r↔On p∧uG a b p:=fun p=>by
  rw[hr.mem p]
  constructor
  ·rintro⟨x,y,h,hy,e,z⟩
   refine⟨?_,z⟩
   rw[e]
   exact onN (by omega) hy
  ·rintro⟨ho,z⟩
   unfold On at ho
   exact⟨p.1.toNat,p.2.toNat,by omega,by omega,Prod.ext (by simp only;omega) (by simp only;omega),z⟩
 have two:∀p q,p∈r→q∈r→p≠q→∃e∈AS a,∃f∈AS b,∃s,BB e f=some s:=fun p q hp hq hne=>by
  obtain⟨op,zp⟩:=(mem p).1 hp
  obtain⟨oq,zq⟩:=(mem q).1 hq
  exact Ri ha hb hap hne ⟨(R6.1 zp.1).1,(R6.1 zp.2).1⟩ ⟨(R6.1 zq.1).1,(R6.1 zq.2).1⟩ op.sml oq.sml
 cases h:D4 a b with
 |none=>
  have e1:DP a b=((((0,0),(0,0)),false)):=by unfold DP;rw[if_pos hap,h]
  rw[e1]
  have:r.length<2:=by
   have pw:=hr.pw
   match r,pw,two with
   |[],_,_=>simp
   |[_],_,_=>simp
   |p::q::r,pw,two=>
    exfalso
    rw[List.pairwise_cons] at pw
    have hx:=pw.1 q (by simp)
    obtain⟨e,he,f,hf,s,hc⟩:=two p q (by simp) (by simp) (fun w=>by rw[w] at hx;unfold lxl at hx;omega)
    rw[QD h he hf] at hc
    cases hc
  rw[cT' _ (by simp;omega)]
 |some s=>
  have e1:DP a b=(s,true):=by unfold DP;rw[if_pos hap,h]
  rw[e1]
  obtain⟨j,t,hj,ht,hc⟩:=QC h
  obtain⟨ok,_,_,_,_⟩:=RF ha hb hap hj ht hc
  obtain⟨o1,o2⟩:=tJ ha hb hj ht hc
  have mem2:∀p,p∈r↔On p∧(trn s.1 s.2 p=0∧btw s.1 s.2 p):=fun p=>by
   rw[mem p,←ok.on p]
   unfold uG
   rw[R6,R6]
  have bt:btw s.1 s.2 s.1∧btw s.1 s.2 s.2:=by
   rcases IU s.1 s.2 with q|q
   ·exact⟨.inl ⟨HZ _,q⟩,.inl ⟨q,HZ _⟩⟩
   ·exact⟨.inr ⟨q,HZ _⟩,.inr ⟨HZ _,q⟩⟩
  have m1:=(mem2 s.1).2 ⟨o1,Bk _ _,bt.1⟩
  have m2:=(mem2 s.2).2 ⟨o2,Bn _ _,bt.2⟩
  have l2:2≤r.length:=by
   match r,m1,m2 with
   |[],m1,_=>simp at m1
   |[x],m1,m2=>
    rw[List.mem_singleton] at m1 m2
    exact absurd (m1.trans m2.symm) ok.ne
   |_::_::_,_,_=>simp
  have first:∀p∈r,AQ (pa r 0) p:=fun p hp=>by
   obtain⟨k,hk,rfl⟩:=EV hp
   by_cases q:k=0
   ·subst q;exact HZ _
   ·have:=List.pairwise_iff_getElem.1 hr.pw 0 k (by omega) hk (by omega)
    rw[←Ba,←Ba] at this
    unfold lxl at this
    unfold AQ
    omega
  have last:∀p∈r,AQ p (pa r (r.length-1)):=fun p hp=>by
   obtain⟨k,hk,rfl⟩:=EV hp
   by_cases q:k=r.length-1
   ·rw[q];exact HZ _
   ·have:=List.pairwise_iff_getElem.1 hr.pw k (r.length-1) (by omega) (by omega) (by omega)
    rw[←Ba,←Ba] at this
    unfold lxl at this
    unfold AQ
    omega
  have len:=hr.len
  have mf:=AJ (l:=r) (i:=0) (by omega)
  have ml:=AJ (l:=r) (i:=r.length-1) (by omega)
  have n0:=Bu (l:=r) (i:=0) (by omega)
  rw[Int.natCast_zero] at n0
  have nl:=Bu (l:=r) (i:=r.length-1) (by omega)
  rw[show((r.length-1:Nat):Int)=(r.length:Int)-1 by omega] at nl
  have bf:=((mem2 _).1 mf).2.2
  have bl:=((mem2 _).1 ml).2.2
  have f1:=first _ m1
  have f2:=first _ m2
  have g1:=last _ m1
  have g2:=last _ m2
  rw[cF' _ (by simp;omega),n0,bS]
  simp only
  rw[Aa (by unfold I64;omega),nl,bS]
  simp only
  rw[tQ ha (by omega) ((mem2 _).1 mf).1.sml ((mem2 _).1 ml).1.sml,bS]
  rcases IU s.1 s.2 with q|q
  ·have x1:pa r 0=s.1:=by
    rcases bf with⟨a,b⟩|⟨a,b⟩
    ·exact Ce f1 a
    ·exact Ce f1 (Do q a)
   have x2:pa r (r.length-1)=s.2:=by
    rcases bl with⟨a,b⟩|⟨a,b⟩
    ·exact Ce b g2
    ·exact Ce (Do b q) g2
   rw[x1,x2,if_neg (by rintro⟨x,hx,h⟩;have:=ok.left x hx;omega)]
  ·have x1:pa r 0=s.2:=by
    rcases bf with⟨a,b⟩|⟨a,b⟩
    ·exact Ce f2 (Do q a)
    ·exact Ce f2 a
   have x2:pa r (r.length-1)=s.1:=by
    rcases bl with⟨a,b⟩|⟨a,b⟩
    ·exact Ce (Do b q) g1
    ·exact Ce b g1
   obtain⟨x,hx,px⟩:=sU ha ok.ne ok.left
   rw[x1,x2,if_pos ⟨x,hx,by rw[Dy];omega⟩]
end
theorem tU {N:Nat} (hN:1001≤N) (a b:List Pt):∃r,TL N a b=some r∧S5 N a b=some r:=by
 by_cases ha:VP a
 ·by_cases hb:VP b
  ·exact⟨_,OM hN ha hb,sG hN ha hb⟩
  ·refine⟨(((0,0),(0,0)),false), ?_, ?_⟩
   ·unfold TL
    rw[JN (by omega),JN (by omega),JL.2 ha,Ii.2 hb,bS,Aa (fun _=>Option.isSome_some),Aa (fun q=>by cases q),cT' _ (by rfl)]
   ·unfold S5
    rw[Md (by omega),Md (by omega),JL.2 ha,Ii.2 hb,bS,Aa (fun _=>Option.isSome_some),Aa (fun q=>by cases q),cT' _ (by rfl)]
 ·refine⟨(((0,0),(0,0)),false), ?_, ?_⟩
  ·unfold TL
   rw[JN (by omega),Ii.2 ha,bS,Aa (fun q=>by cases q),Aa (fun q=>by cases q),cT' _ (by rfl)]
  ·unfold S5
   rw[Md (by omega),Ii.2 ha,bS,Aa (fun q=>by cases q),Aa (fun q=>by cases q),cT' _ (by rfl)]
theorem uA {N:Nat} {l:List Pt} (l1:0<l.length) (l8:l.length≤8) {how n at_:Int} (h1:I64 how) (h2:I64 at_):∃r,Uo N l how n at_=some r∧r.length≤9:=by
 unfold Uo
 rw[Aa (by omega),decide_eq_false (by omega),cF,CE h2 (by omega),bS,CE h1 (by omega),bS]
 have b:= @Db at_ (l.length:Int) (by omega)
 obtain⟨u,hu⟩:∃u:Nat,pk at_ (l.length:Int)=u:=⟨(pk at_ (l.length:Int)).toNat,by omega⟩
 rw[hu] at b⊢
 have hul:u<l.length:=by omega
 generalize pk how 5=k
 by_cases k0:k=0
 ·rw[decide_eq_true k0,cT,Bu hul,bS]
  simp only
  exact⟨_,rfl,by rw[List.length_set];omega⟩
 rw[decide_eq_false k0,cF]
 by_cases k1:k=1
 ·rw[decide_eq_true k1,cT,Bu hul,bS]
  simp only
  exact⟨_,rfl,by rw[List.length_set];omega⟩
 rw[decide_eq_false k1,cF]
 by_cases k2:k=2
 ·rw[decide_eq_true k2,cT,Aa (by unfold I64;omega),Aa (by omega),FO,Bu (Nat.mod_lt _ l1),bS]
  simp only
  rw[Bu hul,bS]
  exact⟨_,rfl,by rw[List.length_set];omega⟩
 rw[decide_eq_false k2,cF]
 by_cases k3:k=3
 ·rw[decide_eq_true k3,cT,Aa (by omega),Aa (by unfold I64;omega),Aa (by omega),Aa (by simp only[List.length_take,List.length_drop];omega)]
  exact⟨_,rfl,by simp only[List.length_append,List.length_take,List.length_drop];omega⟩
 have p:= @Db at_ 50 (by omega)
 rw[decide_eq_false k3,cF,Aa (by omega),CE h2 (by omega),bS,Aa (by unfold I64;omega),Aa (by omega),Aa (by simp only[List.length_drop];omega),Aa (by simp only[List.length_append,List.length_take,List.length_drop,List.length_singleton];omega)]
 exact⟨_,rfl,by simp only[List.length_append,List.length_take,List.length_drop,List.length_singleton];omega⟩
end Go.Proofs.YtdabfcbelkjmgaaGreatDoor.Am
