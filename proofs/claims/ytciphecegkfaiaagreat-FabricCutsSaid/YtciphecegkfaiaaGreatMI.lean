import Derived.Test.YtciphecegkfaiaaGreatMQ
namespace Go.Proofs.YtciphecegkfaiaaGreat.Am
set_option linter.unusedSimpArgs false
set_option linter.unusedVariables false
theorem uP {a b:List Pt} (ha:VP a) {s r:Pt×Pt} (h1:SeamOK a b s) (h2:SeamOK a b r):s=r:=by
 have hb:∀u w:Pt,btw u w u∧btw u w w:=fun u w=>by
  rcases KI u w with q|q
  ·exact⟨.inl ⟨Gk _,q⟩,.inl ⟨q,Gk _⟩⟩
  ·exact⟨.inr ⟨q,Gk _⟩,.inr ⟨Gk _,q⟩⟩
 have a1:=(h2.on s.1).1 ((h1.on s.1).2 ⟨FI _ _,(hb _ _).1⟩)
 have a2:=(h2.on s.2).1 ((h1.on s.2).2 ⟨Et _ _,(hb _ _).2⟩)
 have b1:=(h1.on r.1).1 ((h2.on r.1).2 ⟨FI _ _,(hb _ _).1⟩)
 have b2:=(h1.on r.2).1 ((h2.on r.2).2 ⟨Et _ _,(hb _ _).2⟩)
 have n1:=h1.ne
 have n2:=h2.ne
 have cases2:(s.1=r.1∧s.2=r.2)∨(s.1=r.2∧s.2=r.1):=by
  rcases KI s.1 s.2 with q|q<;>rcases KI r.1 r.2 with w|w
  ·left
   constructor
   ·apply CV
    ·rcases b1.2 with x|x
     ·exact x.1
     ·exact E7 q x.1
    ·rcases a1.2 with x|x
     ·exact x.1
     ·exact E7 w x.1
   ·apply CV
    ·rcases a2.2 with x|x
     ·exact x.2
     ·exact E7 x.2 w
    ·rcases b2.2 with x|x
     ·exact x.2
     ·exact E7 x.2 q
  ·right
   constructor
   ·apply CV
    ·rcases b2.2 with x|x
     ·exact x.1
     ·exact E7 q x.1
    ·rcases a1.2 with x|x
     ·exact E7 w x.1
     ·exact x.1
   ·apply CV
    ·rcases a2.2 with x|x
     ·exact E7 x.2 w
     ·exact x.2
    ·rcases b1.2 with x|x
     ·exact x.2
     ·exact E7 x.2 q
  ·right
   constructor
   ·apply CV
    ·rcases a1.2 with x|x
     ·exact x.2
     ·exact E7 x.2 w
    ·rcases b2.2 with x|x
     ·exact E7 x.2 q
     ·exact x.2
   ·apply CV
    ·rcases b1.2 with x|x
     ·exact E7 q x.1
     ·exact x.1
    ·rcases a2.2 with x|x
     ·exact x.1
     ·exact E7 w x.1
  ·left
   constructor
   ·apply CV
    ·rcases a1.2 with x|x
     ·exact E7 x.2 w
     ·exact x.2
    ·rcases b1.2 with x|x
     ·exact E7 x.2 q
     ·exact x.2
   ·apply CV
    ·rcases b2.2 with x|x
     ·exact E7 q x.1
     ·exact x.1
    ·rcases a2.2 with x|x
     ·exact E7 w x.1
     ·exact x.1
 rcases cases2 with⟨e1,e2⟩|⟨e1,e2⟩
 ·exact Prod.ext e1 e2
 ·exfalso
  have l3:=ha.l3
  have z:∀x∈a,trn s.1 s.2 x=0:=fun x hx=>by
   have k1:=h1.left x hx
   have k2:=h2.left x hx
   rw[←e1,←e2,I9] at k2
   omega
  have c:=Hh ha.cv (s:=0) (a:=2) (by omega) (by omega)
  simp only[Nat.zero_add] at c
  have m0:=z _ (IW (show 0<a.length by omega) 0)
  have m1:=z _ (IW (show 0<a.length by omega) 1)
  have m2:=z _ (IW (show 0<a.length by omega) 2)
  have ne:qa a 0≠qa a 1:=fun e=>by rw[e,Wa] at c;omega
  have:=(GW h1.ne ne m0 m1).2 m2
  omega
theorem uF {a b:List Pt} (ha:VP a) (hb:VP b) (hap:apart a b) {j t:Nat} (hj:j<a.length) (ht:t<b.length) {s:Pt×Pt} (hc:FA (pa a j,pa a ((j+1)%a.length)) (pa b t,pa b ((t+1)%b.length))=some s):
  FA (pa b t,pa b ((t+1)%b.length)) (pa a j,pa a ((j+1)%a.length))=some (s.2,s.1):=by
 obtain⟨_,kn,_,_,_⟩:=bG ha hb hap hj ht hc
 obtain⟨zR,zS,ne,le,hs⟩:=Qo hc
 simp only at zR zS ne le hs
 have nPQ:=ha.ne hj
 have nRS:=hb.ne ht
 have L:=fun x=>GW (x:=x) nPQ nRS zR zS
 have mc:∀u v:Pt,Im u v=Im v u:=fun u v=>by
  apply CV
  ·exact iP.2 ⟨(iP.1 (Gk (Im v u))).2,(iP.1 (Gk (Im v u))).1⟩
  ·exact iP.2 ⟨(iP.1 (Gk (Im u v))).2,(iP.1 (Gk (Im u v))).1⟩
 have nc:∀u v:Pt,In u v=In v u:=fun u v=>by
  apply CV
  ·exact iQ.2 ⟨(iQ.1 (Gk (In u v))).2,(iQ.1 (Gk (In u v))).1⟩
  ·exact iQ.2 ⟨(iQ.1 (Gk (In v u))).2,(iQ.1 (Gk (In v u))).1⟩
 have cc:Ci (pa b t) (pa b ((t+1)%b.length)) (pa a j) (pa a ((j+1)%a.length))=Ci (pa a j) (pa a ((j+1)%a.length)) (pa b t) (pa b ((t+1)%b.length)):=by
  unfold Ci
  rw[mc (lo _ _) (lo (pa a j) _),nc (Am.hi _ _) (Am.hi (pa a j) _)]
 have h:=bF (e:=(pa b t,pa b ((t+1)%b.length))) (f:=(pa a j,pa a ((j+1)%a.length))) ((L _).2 (FI _ _)) ((L _).2 (Et _ _)) (by simp only;rw[cc];exact ne) (by simp only;rw[cc];exact le)
 simp only at h
 rw[h,cc,hs]
 by_cases hg:0<D6 (pa a j) (pa a ((j+1)%a.length))
 ·have hQP:BN (pa a ((j+1)%a.length)) (pa a j):=by rw[Lb] at hg;unfold BN;omega
  have s1:trn (pa a ((j+1)%a.length)) (pa a j) (pa b t)=0:=by rw[I9];omega
  have s2:trn (pa a ((j+1)%a.length)) (pa a j) (pa b ((t+1)%b.length))=0:=by rw[I9];omega
  have ee:∀x,dd (pa a ((j+1)%a.length)) (pa a j) x=dd (pa a j) (pa a ((j+1)%a.length)) (pa a ((j+1)%a.length))-dd (pa a j) (pa a ((j+1)%a.length)) x:=fun x=>by unfold dd;grind
  have o:=(H8 (Ne.symm nPQ) hQP s1 s2).1 (by rw[ee,ee];omega)
  rw[if_pos hg,if_neg (MD.1 o)]
 ·have hPQ:BN (pa a j) (pa a ((j+1)%a.length)):=MD.2 hg
  have o:=(H8 nPQ hPQ zS zR).1 (by omega)
  have o2:0<D6 (pa b t) (pa b ((t+1)%b.length)):=by
   rw[Lb]
   have:pa b ((t+1)%b.length)≠pa b t:=Ne.symm nRS
   unfold BN at o
   by_cases x1:(pa b ((t+1)%b.length)).1<(pa b t).1
   ·exact .inl x1
   ·refine .inr ⟨by omega, ?_⟩
    have:(pa b ((t+1)%b.length)).2≠(pa b t).2:=fun q=>this (Prod.ext (by omega) q)
    omega
  rw[if_neg hg,if_pos o2]
theorem vM {a b:List Pt} (ha:VP a) (hb:VP b) (hap:apart a b):IX b a=(IX a b).map fun s=>(s.2,s.1):=by
 cases h:IX a b with
 |none=>
  cases h2:IX b a with
  |none=>rfl
  |some r=>
   obtain⟨t,j,ht,hj,hc⟩:=UO h2
   have:=uF hb ha hap.symm ht hj hc
   rw[UQ h (Gg.2 ⟨j,hj,rfl⟩) (Gg.2 ⟨t,ht,rfl⟩)] at this
   cases this
 |some s=>
  obtain⟨j,t,hj,ht,hc⟩:=UO h
  have hs:=uF ha hb hap hj ht hc
  cases h2:IX b a with
  |none=>
   rw[UQ h2 (Gg.2 ⟨t,ht,rfl⟩) (Gg.2 ⟨j,hj,rfl⟩)] at hs
   cases hs
  |some r=>
   obtain⟨t',j',ht',hj',hc'⟩:=UO h2
   have o1:=(bG hb ha hap.symm ht hj hs).1
   have o2:=(bG hb ha hap.symm ht' hj' hc').1
   rw[Option.map_some,uP hb o1 o2]
end Go.Proofs.YtciphecegkfaiaaGreat.Am
