import Derived.Test.YtjdchfljifacoaaGreatL5
set_option linter.all false
set_option maxRecDepth 100000
set_option maxHeartbeats 8000000
namespace Go.Proofs.YtjdchfljifacoaaGreat.Am
section
theorem AiR{n:Int}(h: -1000<=n/\n<=1000)(l:List Int):E0 (n::l)≠[]:=by rw[AiQ];grind[List.append_eq_nil_iff,uC]
theorem Ahi{N:Nat}{n:Int}(h: -1000<=n/\n<=1000){l:List Int}(hl:l.length<=1000):EN N (n::l)=some (E0 (n::l)):=by unfold EN;rw[Ae (by grind),Ae (AiR h l)]
theorem Af9(l:List Int)(h:l.length<=10):(E0 l).length<=100:=by have:=NC l;omega
section
variable{N:Nat}(hN:1001<=N)
include hN
theorem Ajk{t:List UInt8}(h:t.length<=1000):KI N t=some (Ahm t,0):=by unfold KI Ahm;have:=kX (t.length);rw[A1 _ (by rw[cY];omega),Ae (by rw[jT];omega)]
variable(a b c p q id i k m1 m2 m3 m4:Int)(l:List Pt)(o:Bool)
open Classical in
theorem AiS(n:Int):ND N n a b c l p q id i k m1 m2 m3 m4 o=some (if FA (n,(a,b,c,l,p,q),id,i,k,(m1,m2,m3,m4,o))then(Agq (n,(a,b,c,l,p,q),id,i,k,(m1,m2,m3,m4,o)),0)else([],170)):=by
 unfold ND;split
 ·subst n;unfold Lr;rw[Z3 hN,bS];by_cases fa:FA (1,(a,b,c,l,p,q),id,i,k,(m1,m2,m3,m4,o))
  ·rw[aB fa,A1 _ (by rfl),dW fa,Ahi (by omega) (by simp),bS];unfold MC;have hu:=(fa1.1 fa).1;have el:=AhK hu;rw[AiO (by omega) hu,bS];simp only;rw[show kW a b c l p q=Aki (a,b,c,l,p,q)from rfl,Ajk hN el,bS];simp only;rw[bS,Ae (by have h1:=Af9 [1] (by simp);have h2:=kX ((Aki (a,b,c,l,p,q)).length:Int);grind[Ahm])];simp[Agq,E0]
  grind
 split
 ·subst n;unfold Lt;rw[Z4 hN,bS];by_cases fa:FA (2,(a,b,c,l,p,q),id,i,k,(m1,m2,m3,m4,o))
  ·rw[aB fa,A1 _ (by rfl),dW fa,Ahi (by omega) (by simp),bS];unfold LR;have fb:=fa2.1 fa;rw[Ahi (by omega) (by simp),bS,bS,Ae (by rw[jT];have h1:=Af9 [2] (by simp);have h2:=Af9 [id] (by simp);omega)];simp[Agq,Ahh,E0]
  grind
 split
 ·subst n;unfold Lu;rw[Z5 hN,bS];by_cases fa:FA (3,(a,b,c,l,p,q),id,i,k,(m1,m2,m3,m4,o))
  ·rw[aB fa,A1 _ (by rfl),dW fa,Ahi (by omega) (by simp),bS];unfold LS;have fb:=qB.1 fa;rw[Ahi (by omega) (by simp),bS,bS,Ae (by rw[jT];have h1:=Af9 [3] (by simp);have h2:=Af9 [id,i,k,a] (by simp);omega)];simp[Agq,Ahh,E0]
  grind
 split
 ·subst n;unfold Lv;rw[Z6 hN,bS];by_cases fa:FA (4,(a,b,c,l,p,q),id,i,k,(m1,m2,m3,m4,o))
  ·rw[aB fa,A1 _ (by rfl),dW fa,Ahi (by omega) (by simp),bS];unfold LT;have fb:=qC.1 fa;rw[Ahi (by omega) (by simp),bS,bS,Ae (by rw[jT];have h1:=Af9 [4] (by simp);have h2:=Af9 [id,i,k] (by simp);omega)];simp[Agq,Ahh,E0]
  grind
 split
 ·subst n;unfold Lw;rw[Z7 hN,bS];by_cases fa:FA (5,(a,b,c,l,p,q),id,i,k,(m1,m2,m3,m4,o))
  ·rw[aB fa,A1 _ (by rfl),dW fa,Ahi (by omega) (by simp),bS];unfold MD;have fb:=fa5.1 fa;have ho:=S3.1 fb.1;simp only at ho;cases o with
   |true=>rw[cT,Ahi (by omega) (by simp),bS,bS,Ae (by rw[jT];have h1:=Af9 [5] (by simp);have h2:=Af9 [m1,m2,m3,m4,1] (by simp);omega)];simp[Agq,Ahh,E0]
   |false=>rw[cF,Ahi (by omega) (by simp),bS,bS,Ae (by rw[jT];have h1:=Af9 [5] (by simp);have h2:=Af9 [m1,m2,m3,m4,0] (by simp);omega)];simp[Agq,Ahh,E0]
  grind
 split
 ·subst n;unfold Lx;rw[Z8 hN,bS];by_cases fa:FA (6,(a,b,c,l,p,q),id,i,k,(m1,m2,m3,m4,o))
  ·rw[aB fa,A1 _ (by rfl),dW fa,Ahi (by omega) (by simp),bS];unfold KC;have fb:=fa6.1 fa;rw[Ahi (by omega) (by simp),bS,bS,Ae (by rw[jT];have h1:=Af9 [6] (by simp);have h2:=Af9 [id] (by simp);omega)];simp[Agq,Ahh,E0]
  grind
 split
 ·subst n;unfold Ly;rw[Z9 hN,bS];by_cases fa:FA (7,(a,b,c,l,p,q),id,i,k,(m1,m2,m3,m4,o))
  ·rw[aB fa,A1 _ (by rfl),dW fa,Ahi (by omega) (by simp),bS];unfold KC;have fb:=fa7.1 fa;rw[Ahi (by omega) (by simp),bS,bS,Ae (by rw[jT];have h1:=Af9 [7] (by simp);have h2:=Af9 [id] (by simp);omega)];simp[Agq,Ahh,E0]
  grind
 unfold Lz;have hh:¬FA (n,(a,b,c,l,p,q),id,i,k,(m1,m2,m3,m4,o)):=fM (by omega);rw[Xj hN _ _ _ _ _ _ _ _ _ _ _ _ _ _ (by omega),bS,bJ hh,Ae rfl,dQ hh]
end
section
variable{N:Nat}(hN:1001<=N){s:List UInt8}(hs:s.length<=1000000000)
include hN hs
theorem Agt{p:Nat}(hp:p<=s.length):B3 N s p=some (match zS s p with|some (n,q)=>(n,(q:Int),0)|none=>(0,0,10)):=by rw[AhH (by omega) hs hp];grind[zS]
theorem Ahl(a:Ac)(p:Nat):(gd ((decide ((p:Int)=(s.length:Int)))=true->((BF N a.1 a.2.1.1 a.2.1.2.1 a.2.1.2.2.1 a.2.1.2.2.2.1 a.2.1.2.2.2.2.1 a.2.1.2.2.2.2.2 a.2.2.1 a.2.2.2.1 a.2.2.2.2.1 a.2.2.2.2.2.1 a.2.2.2.2.2.2.1 a.2.2.2.2.2.2.2.1 a.2.2.2.2.2.2.2.2.1 a.2.2.2.2.2.2.2.2.2).isSome=true))<|bif !((decide ((p:Int)=(s.length:Int)))&&((BF N a.1 a.2.1.1 a.2.1.2.1 a.2.1.2.2.1 a.2.1.2.2.2.1 a.2.1.2.2.2.2.1 a.2.1.2.2.2.2.2 a.2.2.1 a.2.2.2.1 a.2.2.2.2.1 a.2.2.2.2.2.1 a.2.2.2.2.2.2.1 a.2.2.2.2.2.2.2.1 a.2.2.2.2.2.2.2.2.1 a.2.2.2.2.2.2.2.2.2).getD false))then some ((0,(0,0,0,[],0,0),0,0,0,(0,0,0,0,false)),170)else some (a,0))=some (AhN (Ahg s a p)):=by
 rw[Afa hN,BR (by grind),oK];unfold Ahg;by_cases c:p=s.length/\FA a
 ·rw[dW c,aB (by omega),aB (c.2),A1 _ (by rfl)];rfl
 ·rw[dQ c,AU]
  ·rfl
  grind
theorem AiT:Nh N s=some (AhN (AhA s)):=by
 unfold Nh AhA;rw[show B3 N s 0=B3 N s (0:Nat)from rfl];rw[Agt hN hs (tD _),bS];cases h1:zS s 0 with
 |none=>simp only[Option.bind_none];rw[AU _ (by simp)];rfl
 |some x1=>
 obtain⟨k,p1⟩:=x1;have l1:=(AfX (tD _) h1).2.2;simp only[pK];rw[A1 _ (by simp)];by_cases k1:k=1
 ·subst k1;rw[AU _ (by rfl),dW rfl];rcases Aij hN hs l1 with⟨t,j,e1,e2,e3⟩|⟨e1,e,e2,e3⟩
  ·have tl:=AhJ e1;rw[e3,bS,e1,pK];simp only;rw[A1 _ (by simp),Aih (by omega) (by omega),bS];cases hd:Ahs t with
   |none=>simp only[Option.bind_none];rw[AU _ (by simp)];rfl
   |some u=>obtain⟨u1,u2,u3,u4,u5,u6⟩:=u;simp only[pK];rw[A1 _ (by simp)];exact Ahl hN hs (1,(u1,u2,u3,u4,u5,u6),0,0,0,Xg) (p1+j)
  ·rw[e3,bS,e1];simp only[Option.bind_none];rw[AU _ (by simp[e2])];rfl
 rw[A1 _ (bJ k1),dQ k1];by_cases k2:k=2
 ·subst k2;rw[AU _ (by rfl),dW rfl];rw[Agt hN hs l1,bS];cases h2:zS s p1 with
  |none=>simp only[Option.bind_none];rw[AU _ (by simp)];rfl
  |some x2=>
  obtain⟨y2,p2⟩:=x2;have l2:=(AfX l1 h2).2.2;simp only[pK];rw[A1 _ (by simp)];exact Ahl hN hs (2,PE,y2,0,0,Xg) p2
 rw[A1 _ (bJ k2),dQ k2];by_cases k6:k=6
 ·subst k6;rw[AU _ (by rfl),dW rfl];rw[Agt hN hs l1,bS];cases h2:zS s p1 with
  |none=>simp only[Option.bind_none];rw[AU _ (by simp)];rfl
  |some x2=>
  obtain⟨y2,p2⟩:=x2;have l2:=(AfX l1 h2).2.2;simp only[pK];rw[A1 _ (by simp)];exact Ahl hN hs (6,PE,y2,0,0,Xg) p2
 rw[A1 _ (bJ k6),dQ k6];by_cases k7:k=7
 ·subst k7;rw[AU _ (by rfl),dW rfl];rw[Agt hN hs l1,bS];cases h2:zS s p1 with
  |none=>simp only[Option.bind_none];rw[AU _ (by simp)];rfl
  |some x2=>
  obtain⟨y2,p2⟩:=x2;have l2:=(AfX l1 h2).2.2;simp only[pK];rw[A1 _ (by simp)];exact Ahl hN hs (7,PE,y2,0,0,Xg) p2
 rw[A1 _ (bJ k7),dQ k7];by_cases k3:k=3
 ·subst k3;rw[AU _ (by rfl),dW rfl];rw[Agt hN hs l1,bS];cases h2:zS s p1 with
  |none=>simp only[Option.bind_none];rw[AU _ (by simp)];rfl
  |some x2=>
  obtain⟨y2,p2⟩:=x2;have l2:=(AfX l1 h2).2.2;simp only[pK];rw[A1 _ (by simp)];rw[Agt hN hs l2,bS];cases h3:zS s p2 with
  |none=>simp only[Option.bind_none];rw[AU _ (by simp)];rfl
  |some x3=>
  obtain⟨y3,p3⟩:=x3;have l3:=(AfX l2 h3).2.2;simp only[pK];rw[A1 _ (by simp)];rw[Agt hN hs l3,bS];cases h4:zS s p3 with
  |none=>simp only[Option.bind_none];rw[AU _ (by simp)];rfl
  |some x4=>
  obtain⟨y4,p4⟩:=x4;have l4:=(AfX l3 h4).2.2;simp only[pK];rw[A1 _ (by simp)];rw[Agt hN hs l4,bS];cases h5:zS s p4 with
  |none=>simp only[Option.bind_none];rw[AU _ (by simp)];rfl
  |some x5=>
  obtain⟨y5,p5⟩:=x5;have l5:=(AfX l4 h5).2.2;simp only[pK];rw[A1 _ (by simp)];exact Ahl hN hs (3,(y5,0,0,[],0,0),y2,y3,y4,Xg) p5
 rw[A1 _ (bJ k3),dQ k3];by_cases k4:k=4
 ·subst k4;rw[AU _ (by rfl),dW rfl];rw[Agt hN hs l1,bS];cases h2:zS s p1 with
  |none=>simp only[Option.bind_none];rw[AU _ (by simp)];rfl
  |some x2=>
  obtain⟨y2,p2⟩:=x2;have l2:=(AfX l1 h2).2.2;simp only[pK];rw[A1 _ (by simp)];rw[Agt hN hs l2,bS];cases h3:zS s p2 with
  |none=>simp only[Option.bind_none];rw[AU _ (by simp)];rfl
  |some x3=>
  obtain⟨y3,p3⟩:=x3;have l3:=(AfX l2 h3).2.2;simp only[pK];rw[A1 _ (by simp)];rw[Agt hN hs l3,bS];cases h4:zS s p3 with
  |none=>simp only[Option.bind_none];rw[AU _ (by simp)];rfl
  |some x4=>
  obtain⟨y4,p4⟩:=x4;have l4:=(AfX l3 h4).2.2;simp only[pK];rw[A1 _ (by simp)];exact Ahl hN hs (4,PE,y2,y3,y4,Xg) p4
 rw[A1 _ (bJ k4),dQ k4];by_cases k5:k=5
 ·subst k5;rw[AU _ (by rfl),dW rfl];rw[Agt hN hs l1,bS];cases h2:zS s p1 with
  |none=>simp only[Option.bind_none];rw[AU _ (by simp)];rfl
  |some x2=>
  obtain⟨y2,p2⟩:=x2;have l2:=(AfX l1 h2).2.2;simp only[pK];rw[A1 _ (by simp)];rw[Agt hN hs l2,bS];cases h3:zS s p2 with
  |none=>simp only[Option.bind_none];rw[AU _ (by simp)];rfl
  |some x3=>
  obtain⟨y3,p3⟩:=x3;have l3:=(AfX l2 h3).2.2;simp only[pK];rw[A1 _ (by simp)];rw[Agt hN hs l3,bS];cases h4:zS s p3 with
  |none=>rfl
  |some x4=>
  obtain⟨y4,p4⟩:=x4;have l4:=(AfX l3 h4).2.2;simp only[pK];rw[A1 _ (by simp)];rw[Agt hN hs l4,bS];cases h5:zS s p4 with
  |none=>rfl
  |some x5=>
  obtain⟨y5,p5⟩:=x5;have l5:=(AfX l4 h5).2.2;simp only[pK];rw[A1 _ (by simp)];rw[Agt hN hs l5,bS];cases h6:zS s p5 with
  |none=>rfl
  |some x6=>
  obtain⟨y6,p6⟩:=x6;simp only[pK];rw[A1 _ (by simp)];rw[BM,bS];by_cases c:y6=0\/y6=1
  ·rw[dW c,A1 _ (by rcases c with rfl|rfl<;>rfl)];exact Ahl hN hs (5,PE,0,0,0,(y2,y3,y4,y5,decide (y6=1))) p6
  ·rw[dQ c,AU _ (by rw[w6,z8,cY,cY];omega)];rfl
 rw[A1 _ (bJ k5),dQ k5];have fe:=Ahl hN hs (k,PE,0,0,0,Xg) p1;refine fe.trans ?_;unfold Ahg;rw[dQ];rintro⟨_,fa⟩;have:1<=k/\k<=7:=by apply Classical.byContradiction;intro hk;exact fM hk fa
 omega
end
theorem Ah2{a:Ac}(fa:FA a):0<(Agq a).length/\(Agq a).length<=2000:=by
 have pn:∀{n:Int},-1000<=n/\n<=1000->0<(Lp n).length:=by grind[uC]
 have hk: -1000<=a.1/\a.1<=1000:=by cases fa<;>simp
 have h2:=kX a.1;unfold Agq;split
 ·have hu:UV a.2.1:=by cases fa<;>grind
  have el:=AhK hu;have h3:=kX ((Aki a.2.1).length);grind[Ahm]
 grind[Ahh,Af9]
section
variable{N:Nat}(hN:1001<=N)(h9:N<=100000)
include hN h9
theorem Ail{a:Ac}(hl:a.2.1.2.2.2.1.length<N):FG N a.1 a.2.1.1 a.2.1.2.1 a.2.1.2.2.1 a.2.1.2.2.2.1 a.2.1.2.2.2.2.1 a.2.1.2.2.2.2.2 a.2.2.1 a.2.2.2.1 a.2.2.2.2.1 a.2.2.2.2.2.1 a.2.2.2.2.2.2.1 a.2.2.2.2.2.2.2.1 a.2.2.2.2.2.2.2.2.1 a.2.2.2.2.2.2.2.2.2 a.1 a.2.1.1 a.2.1.2.1 a.2.1.2.2.1 a.2.1.2.2.2.1 a.2.1.2.2.2.2.1 a.2.1.2.2.2.2.2 a.2.2.1 a.2.2.2.1 a.2.2.2.2.1 a.2.2.2.2.2.1 a.2.2.2.2.2.2.1 a.2.2.2.2.2.2.2.1 a.2.2.2.2.2.2.2.2.1 a.2.2.2.2.2.2.2.2.2=some true:=by unfold FG;rw[kT hl h9,BR (by grind),oK];simp
theorem AiU{a:Ac}(fa:FA a):a.2.1.2.2.2.1.length<=8:=by
 cases fa with
 |build hu=>exact hu.l.l8
 |_=>simp[PE]
end
theorem Adk{f:List Un}(h:FV f){t:Int}{u:Un}:f.find? (λu=>decide (u.1=t))=some u↔u∈f/\u.1=t:=by
 rcases OJ h t with⟨e,_,n⟩|⟨v,hv,e1,e,_⟩
 ·grind
 ·rw[e];constructor
  ·grind
  ·rintro⟨hu,e2⟩;obtain⟨i,hi,rfl⟩:=Lm hu;obtain⟨j,hj,rfl⟩:=Lm hv;rw[h.uniq hi hj (e2.trans e1.symm)]
section
variable{s s1 s2 p q:F8}{a b:Ac}
end
end
section
open Go
attribute [local irreducible] Ax BO BB Bj BC Bk AY BD BK Cq
end
section
open Classical in
noncomputable def Adn(s:F8)(a:Ac):List Ac×Bool:=match Ig s a with|none=>([],false)|some _=>if a.1=1 then([(2,PE,a.2.1.1,0,0,Xg)],true)else if a.1=2 then(match s.1.find? (λu=>decide (u.1=a.2.2.1))with|some u=>if∃m∈s.2,m.2.1=a.2.2.1 then([],false)else([(1,u,0,0,0,Xg)],true)|none=>([],false))else if a.1=4 then([(4,PE,a.2.2.1,-a.2.2.2.1,-a.2.2.2.2.1,Xg)],true)else if a.1=6 then([(7,PE,a.2.2.1,0,0,Xg)],true)else if a.1=7 then([(6,PE,a.2.2.1,0,0,Xg)],true)else([],false)
section
variable{N:Nat}(hN:1001<=N)(h9:N<=100000)
include hN h9
variable(a b c p q id i k m1 m2 m3 m4:Int)(l:List Pt)(o:Bool)
omit hN in
open Classical in
theorem Agv(hN:1001<=N){ms:List Mk}(hl:ms.length<=1000)(n:Int):CC N ms n a b c l p q id i k m1 m2 m3 m4 o=some (decide (∃m∈ms,m.2.1=id)):=by
 unfold CC DU;have F:=YZ (N:=N) (L:=CB N ms n a b c l p q id i k m1 m2 m3 m4 o) (ms:=ms) (λm=>decide (m.2.1=id)) (by omega) (λn k hk e=>by rw[CB,Dq hk,cT,E7 hk,bS];simp only;rw[Lf,bS,e,cF,Ae (by omega),ns]) (by simp_all[CB,E7,Lf]) (by simp_all[CB]);rcases F with⟨e,h⟩|⟨k,hk,h1,h2,e⟩
 ·rw[e,bS];rw[bS,bJ (p:=∃m∈ms,m.2.1=id) (by grind)];rfl
 ·rw[e,bS];rw[bS,aB (p:=∃m∈ms,m.2.1=id) ⟨_,J5 hk,by grind⟩,aB (by omega)]
theorem Ahd{f:List Un}{ms:List Mk}(h:SV f ms)(n:Int):MX N f ms n a b c l p q id i k m1 m2 m3 m4 o=some (Adn (f,ms) (n,(a,b,c,l,p,q),id,i,k,(m1,m2,m3,m4,o))):=by
 have ml:ms.length<=20:=h.2.len;have S:=AgW hN h9 (f:=f) (ms:=ms);unfold MX;split
 ·subst n;unfold Mu Adn;rw[S _ _ _ _ _ _ _ _ _ _ _ _ _ _ (by omega),bS];cases e:Ig (f,ms) (1,(a,b,c,l,p,q),id,i,k,(m1,m2,m3,m4,o))with
  |none=>simp only[IM];rw[AU _ (by simp)]
  |some t=>have fa:=(Vj e).2.1;simp only[IM];rw[A1 _ (by simp),Z3 hN,bS];rw[XP hN h.1 (by omega),bS];rfl
 split
 ·subst n;unfold Mv Adn;rw[S _ _ _ _ _ _ _ _ _ _ _ _ _ _ (by omega),bS];cases e:Ig (f,ms) (2,(a,b,c,l,p,q),id,i,k,(m1,m2,m3,m4,o))with
  |none=>simp only[IM];rw[AU _ (by simp)]
  |some t=>
   have fa:=(Vj e).2.1;simp only[IM];rw[A1 _ (by simp),Z4 hN,bS];rw[XP hN h.1 (by omega),bS];simp only;unfold N2;rw[Agv h9 _ _ _ _ _ _ _ _ _ _ _ _ _ _ hN (by omega),bS];have e2:=(Vj e).2.2.1;rw[Abr]at e2;split at e2
   ·rename_i g;rcases OJ h.1 id with⟨_,_,t⟩|⟨u,hu,t,q1,q2⟩
    ·exact(t g).elim
    ·rw[q1];by_cases hm:∃m∈ms,m.2.1=id;all_goals simp_all[AcH,Xg]
   ·cases e2
 split
 ·subst n;unfold Mw Adn;rw[S _ _ _ _ _ _ _ _ _ _ _ _ _ _ (by omega),bS];cases e:Ig (f,ms) (3,(a,b,c,l,p,q),id,i,k,(m1,m2,m3,m4,o))with
  |none=>simp only[IM];rw[AU _ (by simp)]
  |some t=>
   have fa:=(Vj e).2.1
   simp_all[Z5]
 split
 ·subst n;unfold Mx Adn;rw[S _ _ _ _ _ _ _ _ _ _ _ _ _ _ (by omega),bS];cases e:Ig (f,ms) (4,(a,b,c,l,p,q),id,i,k,(m1,m2,m3,m4,o))with
  |none=>simp only[IM];rw[AU _ (by simp)]
  |some t=>
   have fa:=(Vj e).2.1;simp only[IM];rw[A1 _ (by simp),Z6 hN,bS];have fb:=qC.1 fa;rw[XP hN h.1 (by omega),bS]
   (try simp only)
   rw[Ae (by unfold Af;omega),Ae (by unfold Af;omega)];rfl
 split
 ·subst n;unfold My Adn;rw[S _ _ _ _ _ _ _ _ _ _ _ _ _ _ (by omega),bS];cases e:Ig (f,ms) (5,(a,b,c,l,p,q),id,i,k,(m1,m2,m3,m4,o))with
  |none=>simp only[IM];rw[AU _ (by simp)]
  |some t=>
   have fa:=(Vj e).2.1
   simp_all[Z7]
 split
 ·subst n;unfold Mz Adn;rw[S _ _ _ _ _ _ _ _ _ _ _ _ _ _ (by omega),bS];cases e:Ig (f,ms) (6,(a,b,c,l,p,q),id,i,k,(m1,m2,m3,m4,o))with
  |none=>simp only[IM];rw[AU _ (by simp)]
  |some t=>have fa:=(Vj e).2.1;simp only[IM];rw[A1 _ (by simp),Z8 hN,bS];rw[XP hN h.1 (by omega),bS];rfl
 split
 ·subst n;unfold MA Adn;rw[S _ _ _ _ _ _ _ _ _ _ _ _ _ _ (by omega),bS];cases e:Ig (f,ms) (7,(a,b,c,l,p,q),id,i,k,(m1,m2,m3,m4,o))with
  |none=>simp only[IM];rw[AU _ (by simp)]
  |some t=>simp only[IM];rw[A1 _ (by simp),Z9 hN,bS];rw[XP hN h.1 (by omega),bS];rfl
 unfold MB Adn;have hh:¬FA (n,(a,b,c,l,p,q),id,i,k,(m1,m2,m3,m4,o)):=fM (by omega);rw[S _ _ _ _ _ _ _ _ _ _ _ _ _ _ (by omega),bS,Mm hh];simp only[IM];rw[AU _ (by simp)]
end
theorem Af5{s:F8}{a:Ac}(e:Ig s a=none):Adn s a=([],false):=by unfold Adn;rw[e]
section
variable{N:Nat}(hN:1001<=N)(h9:N<=100000)
include hN h9
end
section
variable{N:Nat}(hN:1001<=N)
include hN
theorem Ai7{l:List Int}(hl:l.length<=100):∀n k (out:List UInt8),k<=l.length->l.length<n+k->out.length<=100*(k+1)->GI N l n out (k:Nat)=some (out++E0 (l.drop k))
 |0,k,out,h1,h2,_=>by omega
 |n+1,k,out,h1,h2,h3=>by
  rw[GI];by_cases e:k<l.length
  ·have h4:=kX l[k];rw[Dq e,cT,Ain l e,bS,Air (by omega),bS];simp only;rw[Ae (by rw[jT];omega),Ae (by omega),<-ns,Ai7 hl n (k+1) _ (by omega) (by omega) (by rw[jT];omega),oH e,AiQ,qZ]
  ·have e3:k=l.length:=by omega
   simp_all[E0]
theorem AjD{l:List Int}(hl:l.length<=100):D2 N l=some (E0 l):=by unfold D2;have:=Ai7 hN hl N 0 [] (by omega) (by omega) (by simp);rw[nL,tJ,pA]at this;rw[this,bS]
theorem Aj5{t:List UInt8}(h:t.length<=1000):HG N t=some (Ahm t,0):=by unfold HG Ahm;have:=kX (t.length);rw[A1 _ (by rw[cY];omega),Air (by omega),bS];simp only;rw[Ae (by rw[jT];omega)]
variable(a b c p q id i k m1 m2 m3 m4:Int)(l:List Pt)(o:Bool)
open Classical in
theorem Akp(n:Int):Lg N n a b c l p q id i k m1 m2 m3 m4 o=some (if FA (n,(a,b,c,l,p,q),id,i,k,(m1,m2,m3,m4,o))then(Agq (n,(a,b,c,l,p,q),id,i,k,(m1,m2,m3,m4,o)),0)else([],170)):=by
 unfold Lg;rw[YX hN,bS];by_cases fa:FA (n,(a,b,c,l,p,q),id,i,k,(m1,m2,m3,m4,o))
 ·rw[aB fa,A1 _ (by rfl),dW fa,AjD hN (by simp),bS];have h0:=Af9 [n] (by simp);have tail:∀(d:List Int),d.length<=10->Ahh (n,(a,b,c,l,p,q),id,i,k,(m1,m2,m3,m4,o))=d->n≠1->((D2 N d).bind λr=>gd ((E0 [n]++r).length<=140737488355328)<|some (E0 [n]++r,(0:Int)))=some (Agq (n,(a,b,c,l,p,q),id,i,k,(m1,m2,m3,m4,o)),0):=λd hd e hn=>by have h1:=Af9 d hd;rw[AjD hN (by omega),bS,Ae (by rw[jT];omega)];unfold Agq;rw[dQ hn,e];simp[E0]
  by_cases e1:n=1
  ·subst e1;have hu:=(fa1.1 fa).1;have el:=AhK hu;rw[AU _ (by rfl),AjS hN hu,bS];simp only;rw[show kW a b c l p q=Aki (a,b,c,l,p,q)from rfl,Aj5 hN el,bS];simp only;rw[Ae (by have h2:=kX ((Aki (a,b,c,l,p,q)).length:Int);unfold Ahm;rw[jT,jT];omega)];simp[Agq,E0]
  rw[A1 _ (bJ e1)];by_cases e3:n=3
  ·subst e3;rw[AU _ (by rfl)];exact tail _ (by simp) (by unfold Ahh;rfl) e1
  rw[A1 _ (bJ e3)];by_cases e4:n=4
  ·subst e4;rw[AU _ (by rfl)];exact tail _ (by simp) (by unfold Ahh;rfl) e1
  rw[A1 _ (bJ e4)];by_cases e5:n=5
  ·subst e5;rw[AU _ (by rfl)];cases o with
   |true=>exact tail _ (by simp) (by unfold Ahh;rfl) e1
   |false=>exact tail _ (by simp) (by unfold Ahh;rfl) e1
  rw[A1 _ (bJ e5)];exact tail _ (by simp) (by unfold Ahh;rw[dQ e3,dQ e4,dQ e5]) e1
 ·rw[bJ fa,AU _ (by rfl),dQ fa]
end
section
variable{N:Nat}(hN:1001<=N)
include hN
theorem Ajm{t:List UInt8}(ht:t.length<=1000000000):∀n p (l:List Int),p<=t.length->6<n+l.length->l.length<=6->∃o,GJ N t n (p:Nat) l=some o/\(o=.inr ([],false)\/∃(q:Nat)(m:List Int),o=.inl ((q:Int),l++m)/\q<=t.length/\t.drop p=E0 m++t.drop q/\(∀x∈m,Akh x))
 |0,p,l,h1,h2,h3=>by omega
 |n+1,p,l,h1,h2,h3=>by
  rw[GJ];by_cases c:p<t.length/\l.length<6
  ·rw[Dq c.1,Ld,aB (p:=(l.length:Int)<6) (by omega),cT,Ahu (by omega) ht h1,bS];cases hr:xP (t.drop p)with
   |none=>simp only;rw[AU _ (by simp)];exact⟨_,rfl,.inl rfl⟩
   |some nm=>
    obtain⟨x,m⟩:=nm;obtain⟨w,g1,g2,_⟩:=Ahp hr;rw[sG]at g2;simp only;rw[A1 _ (by simp),Ae (by omega)];obtain⟨o,e,h⟩:=Ajm ht n (p+m) (l++[x]) (by omega) (by simp;omega) (by simp;omega);refine⟨o,e,?_⟩;rcases h with h|⟨q,ms,h,hq,e2,hw⟩
    ·exact .inl h
    ·refine .inr ⟨q,x::ms,by rw[h,qZ];rfl,hq,?_,λy hy=>?_⟩
     ·rw[AiQ,qZ,<-e2,<-w7,<-g1,y9]
     ·rcases kC.1 hy with rfl|hy
      ·exact w
      ·exact hw y hy
  ·rw[A1 _ (by rw[z8,cY,cY];omega)];exact⟨_,rfl,.inr ⟨p,[],by rw[qO],h1,by simp[E0],by simp⟩⟩
theorem Ai8{t:List UInt8}(ht:t.length<=1000000000):∀(ms:List Int) n p (l:List Int),p<=t.length->t.drop p=E0 ms->(∀x∈ms,Akh x)->l.length+ms.length<=5->6<n+l.length->GJ N t n (p:Nat) l=some (.inl ((t.length:Int),l++ms))
 |[],n,p,l,h1,h2,_,h3,h4=>by
  obtain⟨n,rfl⟩:∃m,n=m+1:=⟨n-1,by simp only[yH]at h3;omega⟩
  have:p=t.length:=Ah0 h1 (by rw[h2];simp[E0]);subst this;rw[GJ,A1 _ (by rw[z8,cY];omega),qO]
 |x::ms,n,p,l,h1,h2,hw,h3,h4=>by
  obtain⟨n,rfl⟩:∃m,n=m+1:=⟨n-1,by simp only[pV]at h3;omega⟩
  have wx:=hw x List.mem_cons_self;have e:=h2;rw[AiQ]at e;have hp:0<(Lp x).length:=List.length_pos_iff.2 (uC (by unfold Akh at wx;omega) (by unfold Akh at wx;omega));have hle:=congrArg List.length e;rw[sG,jT]at hle;have lc:(x::ms).length=ms.length+1:=rfl;rw[GJ,Dq (by omega),Ld,aB (p:=(l.length:Int)<6) (by omega),cT,Ahu (by omega) ht h1,bS,e,AhC wx];simp only;rw[A1 _ (by simp),Ae (by omega),Ai8 ht ms n (p+(Lp x).length) (l++[x]) (by omega) (by rw[<-w7,e,List.drop_left]) (λy hy=>hw y (List.mem_cons_of_mem _ hy)) (by simp only[jT,pV,yH];omega) (by simp only[jT,pV,yH];omega),qZ];rfl
theorem AjH{t:List UInt8}(ht:t.length<=1000000000):∃l ok,JA N t=some (l,ok)/\(ok=true->t=E0 l/\∀x∈l,Akh x):=by
 unfold JA;obtain⟨o,e,h⟩:=Ajm hN ht N 0 [] (by omega) (by simp;omega) (by simp);rw[nL]at e;rw[e,bS];rcases h with rfl|⟨q,m,rfl,hq,e2,hw⟩
 ·exact⟨_,_,rfl,λh=>by cases h⟩
 ·refine⟨_,_,rfl,λh=>?_⟩;rw[bK]at h;rw[tJ,AhZ (by omega),qO]at e2;exact⟨by rw[pA];exact e2,by rw[pA];exact hw⟩
theorem Ajw{l:List Int}(hw:∀x∈l,Akh x)(hl:l.length<=5):JA N (E0 l)=some (l,true):=by have hs:=Af9 l (by omega);unfold JA;have:=Ai8 hN (t:=E0 l) (by omega) l N 0 [] (by omega) rfl hw (by simpa using hl) (by simp;omega);rw[nL,pA]at this;rw[this,bS];simp
end
section
variable{N:Nat}(hN:1001<=N)
include hN
theorem Ajo{s:List UInt8}(hs:s.length<=1000000000):∃o,Lh N s=some (AhN o)/\∀a,o=some a->FA a/\s=Agq a:=by
 unfold Lh;have ri:=Ahu (N:=N) (s:=s) (p:=0) (by omega) hs (tD _);rw[tJ,nL]at ri;rw[ri,bS];have no:∃o,some (((0:Int),((0,0,0,[],0,0):Un),(0:Int),(0:Int),(0:Int),((0,0,0,0,false):Mk)),(170:Int))=some (AhN o)/\∀a,o=some a->FA a/\s=Agq a:=⟨none,rfl,λa h=>by cases h⟩
 cases hr:xP s with
 |none=>simp only;rw[AU _ (by simp)];exact no
 |some nm=>
  obtain⟨k,p1⟩:=nm;obtain⟨w1,g1,g2,_⟩:=Ahp hr;have es:s=Lp k++s.drop p1:=by rw[<-g1,y9]
  simp only;rw[A1 _ (by simp),rB];by_cases k1:k=1
  ·subst k1;rw[AU _ (by rfl)];rcases Ajl hN hs g2 with⟨t,j,e1,e2,e3⟩|⟨e1,e3⟩
   ·have tl:=AhJ e1;obtain⟨q1,q2⟩:=Aik g2 e1;rw[e3,bS];simp only;rw[AiE hN (by omega),bS];cases hd:Ahs t with
    |none=>simp only;rw[AU _ (by simp)];exact no
    |some u=>
     obtain⟨u1,u2,u3,u4,u5,u6⟩:=u;obtain⟨hu,et⟩:=AhU hd;simp only;by_cases c:p1+j=s.length
     ·rw[A1 _ (by simp;omega)];refine⟨some (1,(u1,u2,u3,u4,u5,u6),0,0,0,Xg),rfl,λa ha=>?_⟩;cases ha
      refine⟨.build hu,?_⟩;unfold Agq;rw[dW rfl];rw[AhZ c,qO]at q1;rw[es,q1,et];rfl
     ·rw[AU _ (by simp;omega)];exact no
   ·rw[e3,bS];simp only;rw[AiE hN (by simp),bS];cases hd:Ahs []with
    |none=>simp only;rw[AU _ (by simp)];exact no
    |some u=>simp only;rw[AU _ (by simp)];exact no
  ·rw[A1 _ (bJ k1),Ae (by omega),tK];obtain⟨l,ok,e1,e2⟩:=AjH hN (t:=s.drop p1) (by rw[sG];omega);rw[e1,bS];simp only;rw[AH,BR (λ_=>jS),oK];by_cases c:ok=true/\(2<=k/\k<=7)
   ·obtain⟨rfl,ck⟩:=c;obtain⟨e2,hw⟩:=e2 rfl;rw[A1 _ (by simp;omega)];have fin:∀a:Ac,a.1=k->Ahh a=l->∃o,(bif !decide (FA a)then some (((0:Int),((0,0,0,[],0,0):Un),(0:Int),(0:Int),(0:Int),((0,0,0,0,false):Mk)),(170:Int))else some (a,0))=some (AhN o)/\∀b,o=some b->FA b/\s=Agq b:=λa h1 h2=>by
     by_cases fa:FA a
     ·rw[aB fa,A1 _ (by rfl)];refine⟨some a,rfl,λb hb=>?_⟩;cases hb
      refine⟨fa,?_⟩;unfold Agq;rw[dQ (by omega),h1,h2,<-e2];exact es
     ·rw[bJ fa,AU _ (by rfl)];exact no
    have hk:k=2\/k=3\/k=4\/k=5\/k=6\/k=7:=by omega
    have one:∀n:Int,(n=2\/n=6\/n=7)->k=n->∀x,l=[x]->∃o,((A7 l 0).bind λx6205=>(Ca N n 0 0 0 [] 0 0 x6205 0 0 0 0 0 0 false).bind λr6207=>bif !r6207 then some ((0,(0,0,0,[],0,0),0,0,0,(0,0,0,0,false)),170)else some ((n,(0,0,0,[],0,0),x6205,0,0,(0,0,0,0,false)),0))=some (AhN o)/\∀b,o=some b->FA b/\s=Agq b:=λn hn hk x hx=>by subst hx;rw[show A7 [x] 0=some x from rfl,bS,YX hN,bS];exact fin (n,(0,0,0,[],0,0),x,0,0,(0,0,0,0,false)) hk.symm (by unfold Ahh;rw[dQ (by simp only;omega),dQ (by simp only;omega),dQ (by simp only;omega)])
    rcases hk with rfl|rfl|rfl|rfl|rfl|rfl
    ·rw[show(A7 [0,0,1,4,3,5,1,1] (2:Int):Option Int)=some 1 from rfl,bS];by_cases cl:l.length=1
     ·obtain⟨x,rfl⟩:∃x,l=[x]:=List.length_eq_one_iff.1 cl;rw[A1 _ (by simp),A1 _ (by rfl),A1 _ (by rfl),A1 _ (by rfl)];exact one 2 (by omega) rfl x rfl
     ·rw[AU _ (by simp;omega)];exact no
    ·rw[show(A7 [0,0,1,4,3,5,1,1] (3:Int):Option Int)=some 4 from rfl,bS];by_cases cl:l.length=4
     ·obtain⟨x,y,z,w,rfl⟩:∃x y z w,l=[x,y,z,w]:=by
       match l,cl with
       |[x,y,z,w],_=>exact⟨x,y,z,w,rfl⟩
      rw[A1 _ (by simp),AU _ (by rfl),show A7 [x,y,z,w] 0=some x from rfl,bS,show A7 [x,y,z,w] 1=some y from rfl,bS,show A7 [x,y,z,w] 2=some z from rfl,bS,show A7 [x,y,z,w] 3=some w from rfl,bS,YX hN,bS];exact fin (3,(w,0,0,[],0,0),x,y,z,(0,0,0,0,false)) rfl rfl
     ·rw[AU _ (by simp;omega)];exact no
    ·rw[show(A7 [0,0,1,4,3,5,1,1] (4:Int):Option Int)=some 3 from rfl,bS];by_cases cl:l.length=3
     ·obtain⟨x,y,z,rfl⟩:∃x y z,l=[x,y,z]:=by
       match l,cl with
       |[x,y,z],_=>exact⟨x,y,z,rfl⟩
      rw[A1 _ (by simp),A1 _ (by rfl),AU _ (by rfl),show A7 [x,y,z] 0=some x from rfl,bS,show A7 [x,y,z] 1=some y from rfl,bS,show A7 [x,y,z] 2=some z from rfl,bS,YX hN,bS];exact fin (4,(0,0,0,[],0,0),x,y,z,(0,0,0,0,false)) rfl rfl
     ·rw[AU _ (by simp;omega)];exact no
    ·rw[show(A7 [0,0,1,4,3,5,1,1] (5:Int):Option Int)=some 5 from rfl,bS];by_cases cl:l.length=5
     ·obtain⟨x,y,z,w,v,rfl⟩:∃x y z w v,l=[x,y,z,w,v]:=by
       match l,cl with
       |[x,y,z,w,v],_=>exact⟨x,y,z,w,v,rfl⟩
      rw[A1 _ (by simp),A1 _ (by rfl),A1 _ (by rfl),AU _ (by rfl),show A7 [x,y,z,w,v] 0=some x from rfl,bS,show A7 [x,y,z,w,v] 1=some y from rfl,bS,show A7 [x,y,z,w,v] 2=some z from rfl,bS,show A7 [x,y,z,w,v] 3=some w from rfl,bS,show A7 [x,y,z,w,v] 4=some v from rfl,bS,AH,bS];by_cases cv:v=0\/v=1
      ·rw[A1 _ (by rcases cv with rfl|rfl<;>rfl),YX hN,bS];exact fin (5,(0,0,0,[],0,0),0,0,0,(x,y,z,w,decide (v=1))) rfl (by unfold Ahh;rcases cv with rfl|rfl<;>rfl)
      ·rw[AU _ (by rw[w6,z8,cY,cY];omega)];exact no
     ·rw[AU _ (by simp;omega)];exact no
    ·rw[show(A7 [0,0,1,4,3,5,1,1] (6:Int):Option Int)=some 1 from rfl,bS];by_cases cl:l.length=1
     ·obtain⟨x,rfl⟩:∃x,l=[x]:=List.length_eq_one_iff.1 cl;rw[A1 _ (by simp),A1 _ (by rfl),A1 _ (by rfl),A1 _ (by rfl)];exact one 6 (by omega) rfl x rfl
     ·rw[AU _ (by simp;omega)];exact no
    ·rw[show(A7 [0,0,1,4,3,5,1,1] (7:Int):Option Int)=some 1 from rfl,bS];by_cases cl:l.length=1
     ·obtain⟨x,rfl⟩:∃x,l=[x]:=List.length_eq_one_iff.1 cl;exact one 7 (by omega) rfl x rfl
     ·rw[AU _ (by simp;omega)];exact no
   ·rw[AU]
    ·exact no
    ·cases ok with
     |false=>rfl
     |true=>rw[Jh,Bool.false_or,w6,z8,cY,cY];have:¬(2<=k/\k<=7):=λw=>c ⟨rfl,w⟩;omega
theorem AjX{a:Ac}(fa:FA a)(h:a.1≠1):(∀x∈Ahh a,Akh x)/\(Ahh a).length<=5:=by
 unfold Ahh;cases fa with
 |build _=>exact absurd rfl h
 |mark hm=>have ho:=S3.1 hm;grind[Agr]
 |remove hi=>grind[Agr]
 |close hi=>grind[Agr]
 |opn hi=>grind[Agr]
 |move hi h1 h2 h3=>grind[Agr]
 |cut hi h1 h2 h3 h4 h5=>grind[Agr]
theorem Ajx{a:Ac}(fa:FA a):Lh N (Agq a)=some (a,0):=by
 have el:=Ah2 fa;have kw:Akh a.1:=by cases fa<;>exact Agr (by simp)
 unfold Lh;have ri:=Ahu (N:=N) (s:=Agq a) (p:=0) (by omega) (by omega) (tD _);rw[tJ,nL]at ri;by_cases k1:a.1=1
 ·cases fa with
  |build hu=>
   rename_i u;have e0:Agq (1,u,0,0,0,Xg)=Lp 1++Ahm (Aki u):=by unfold Agq;exact dW rfl
   have l3:=congrArg List.length e0;rw[jT]at l3;have r1:xP (Agq (1,u,0,0,0,Xg))=some (1,(Lp 1).length):=by rw[e0,AhC (Agr (by omega))]
   rw[ri,r1,bS];simp only;rw[A1 _ (by simp),AU _ (by rfl),rB];have dr:(Agq (1,u,0,0,0,Xg)).drop (Lp 1).length=Ahm (Aki u):=by rw[e0,List.drop_left]
   have t1:=Aig (t:=Aki u) (by have:=AhK hu;omega) [];rw[qO]at t1;rcases Ajl hN (s:=Agq (1,u,0,0,0,Xg)) (p:=(Lp 1).length) (by omega) (by omega)with⟨t,j,e1,e2,e3⟩|⟨e1,e3⟩
   ·rw[dr,t1]at e1;cases e1
    rw[e3,bS];simp only;rw[AiE hN (by have:=AhK hu;omega),AiP hu,bS];rw[A1 _ (by simp;omega)];rfl
   grind
  |_=>simp at k1
 ·have e0:Agq a=Lp a.1++E0 (Ahh a):=by exact dQ k1
  have l3:=congrArg List.length e0;rw[jT]at l3;obtain⟨aw,al⟩:=AjX hN fa k1;have r1:xP (Agq a)=some (a.1,(Lp a.1).length):=by rw[e0,AhC kw]
  have dr:(Agq a).drop (Lp a.1).length=E0 (Ahh a):=by rw[e0,List.drop_left]
  rw[ri,r1,bS];simp only;rw[A1 _ (by simp),A1 _ (by grind),rB,Ae (by omega),tK,dr,Ajw hN aw al,bS];rw[AH,BR (by grind),oK];have fin:∀b:Ac,b=a->(bif !decide (FA b)then some (((0:Int),((0,0,0,[],0,0):Un),(0:Int),(0:Int),(0:Int),((0,0,0,0,false):Mk)),(170:Int))else some (b,0))=some (a,0):=by grind
  cases fa with
  |build hu=>exact absurd rfl k1
  |remove hi=>rename_i id;rw[A1 _ (by rfl),show(A7 [0,0,1,4,3,5,1,1] (2:Int):Option Int)=some 1 from rfl,bS,A1 _ (by rfl),A1 _ (by rfl),A1 _ (by rfl),A1 _ (by rfl),show A7 (Ahh (2,PE,id,0,0,Xg)) 0=some id from rfl,bS,YX hN,bS];exact fin (2,(0,0,0,[],0,0),id,0,0,(0,0,0,0,false)) rfl
  |close hi=>rename_i id;rw[A1 _ (by rfl),show(A7 [0,0,1,4,3,5,1,1] (6:Int):Option Int)=some 1 from rfl,bS,A1 _ (by rfl),A1 _ (by rfl),A1 _ (by rfl),A1 _ (by rfl),show A7 (Ahh (6,PE,id,0,0,Xg)) 0=some id from rfl,bS,YX hN,bS];exact fin (6,(0,0,0,[],0,0),id,0,0,(0,0,0,0,false)) rfl
  |opn hi=>rename_i id;rw[A1 _ (by rfl),show(A7 [0,0,1,4,3,5,1,1] (7:Int):Option Int)=some 1 from rfl,bS,A1 _ (by rfl),A1 _ (by rfl),A1 _ (by rfl),A1 _ (by rfl),show A7 (Ahh (7,PE,id,0,0,Xg)) 0=some id from rfl,bS,YX hN,bS];exact fin (7,(0,0,0,[],0,0),id,0,0,(0,0,0,0,false)) rfl
  |cut hi hj hd h1 h2 h3=>rename_i id i k j;rw[A1 _ (by rfl),show(A7 [0,0,1,4,3,5,1,1] (3:Int):Option Int)=some 4 from rfl,bS,A1 _ (by rfl),AU _ (by rfl),show A7 (Ahh (3,(j,0,0,[],0,0),id,i,k,Xg)) 0=some id from rfl,bS,show A7 (Ahh (3,(j,0,0,[],0,0),id,i,k,Xg)) 1=some i from rfl,bS,show A7 (Ahh (3,(j,0,0,[],0,0),id,i,k,Xg)) 2=some k from rfl,bS,show A7 (Ahh (3,(j,0,0,[],0,0),id,i,k,Xg)) 3=some j from rfl,bS,YX hN,bS];exact fin (3,(j,0,0,[],0,0),id,i,k,(0,0,0,0,false)) rfl
  |move hi h1 h2 h3=>rename_i id x y;rw[A1 _ (by rfl),show(A7 [0,0,1,4,3,5,1,1] (4:Int):Option Int)=some 3 from rfl,bS,A1 _ (by rfl),A1 _ (by rfl),AU _ (by rfl),show A7 (Ahh (4,PE,id,x,y,Xg)) 0=some id from rfl,bS,show A7 (Ahh (4,PE,id,x,y,Xg)) 1=some x from rfl,bS,show A7 (Ahh (4,PE,id,x,y,Xg)) 2=some y from rfl,bS,YX hN,bS];exact fin (4,(0,0,0,[],0,0),id,x,y,(0,0,0,0,false)) rfl
  |mark hm=>rename_i m;obtain⟨x1,x2,x3,x4,o⟩:=m;rw[A1 _ (by rfl),show(A7 [0,0,1,4,3,5,1,1] (5:Int):Option Int)=some 5 from rfl,bS,A1 _ (by rfl),A1 _ (by rfl),A1 _ (by rfl),AU _ (by rfl),show A7 (Ahh (5,PE,0,0,0,(x1,x2,x3,x4,o))) 0=some x1 from rfl,bS,show A7 (Ahh (5,PE,0,0,0,(x1,x2,x3,x4,o))) 1=some x2 from rfl,bS,show A7 (Ahh (5,PE,0,0,0,(x1,x2,x3,x4,o))) 2=some x3 from rfl,bS,show A7 (Ahh (5,PE,0,0,0,(x1,x2,x3,x4,o))) 3=some x4 from rfl,bS,show A7 (Ahh (5,PE,0,0,0,(x1,x2,x3,x4,o))) 4=some (if o then 1 else 0)from rfl,bS,AH,bS,A1 _ (by cases o<;>rfl),YX hN,bS];exact fin (5,(0,0,0,[],0,0),0,0,0,(x1,x2,x3,x4,decide ((if o then(1:Int)else 0)=1))) (by cases o<;>rfl)
theorem Akq{s:List UInt8}(hs:s.length<=1000000000):Lh N s=some (AhN (AhA s)):=by
 cases h:AhA s with
 |some a=>obtain⟨fa,rfl⟩:=AhV h;exact Ajx hN fa
 |none=>
  obtain⟨o,e,g⟩:=Ajo hN hs;cases o with
  |none=>exact e
  |some a=>obtain⟨fa,rfl⟩:=g a rfl;rw[Ah1 fa]at h;cases h
end
end
open Go
attribute [local irreducible] Ax BO BB Bj BC Bk AY BD BK Cq
theorem PCall.resD{P:Program}{f:Nat}{args:List AV}{r r':AV}(hw:HD r r')(h:PCall P f args r):PCall P f args r':=λU vs hg hl hp hr=>(h U vs hg hl hp hr).mono λe w' ⟨v,h1,h2,h0,h3,h4⟩=>⟨v,h1,h2,h0,(NP (U:=U) _ _ v hw).1 h3,(NP _ _ _ hw).2 h4⟩
def gD(N:Nat)(f1:List (Int×Int×Int×(List (Int×Int))×Int×Int)):Nat->Int->(List (Int×Int×Int×(List (Int×Int))×Int×Int))->Option ((List (Int×Int×Int×(List (Int×Int))×Int×Int)))|0,_,_=>none|n+1,ak,l39=>bif decide (ak<(f1.length:Int))then((A7 f1 ak).bind λ(x40,x41,x42,x43,x44,x45)=>(BY N x40 x41 x42 x43 x44 x45).bind λ(de,db,da,cz,cy,cu)=>gd ((l39.length+1)*64<=140737488355328)<|gd (Af (ak+1))<|gD N f1 n (ak+1) (l39++[(de,db,da,cz,cy,cu)]))else(some l39)
def Agp(N:Nat)(f1:List (Int×Int×Int×(List (Int×Int))×Int×Int))(how2:Int)(n3:Int)(at4:Int):Option (List (Int×Int×Int×(List (Int×Int))×Int×Int)):=(gD N f1 N 0 []).bind λl58=>bif decide ((l58.length:Int)=0)then(some [(n3,0,0,[],0,0)])else((Al N at4 (l58.length:Int)).bind λr60=>(Al N how2 4).bind λfo=>bif decide (fo=0)then((A7 l58 r60).bind λ(cr,cq,co,cn,cj,ci)=>gd (Af (how2.tdiv 4))<|gd (Af (at4.tdiv 12))<|(Jy N cr cq co cn cj ci (how2.tdiv 4) n3 (at4.tdiv 12)).bind λ(ee,d9,d8,d7,dz,dw)=>some (l58.set r60.toNat (ee,d9,d8,d7,dz,dw)))else(bif decide (fo=1)then((A7 l58 r60).bind λ(ce,b9,b7,bz,bw,bv)=>(BY N ce b9 b7 bz bw bv).bind λ(du,dt,dq,dm,dl,dh)=>gd ((l58.length+1)*64<=140737488355328)<|some (l58++[(du,dt,dq,dm,dl,dh)]))else(bif decide (fo=2)then((A7 l58 r60).bind λ(bu,br,bq,bp,bo,bn)=>(Al N n3 9).bind λr400=>gd (Af (r400-4))<|gd (Af (n3.tdiv 9))<|(Al N (n3.tdiv 9) 9).bind λaq=>gd (Af (aq-4))<|(EL N bp (r400-4) (aq-4)).bind λ(dg,fp)=>some (l58.set r60.toNat (bu,br,bq,dg,bo,bn)))else((A7 l58 r60).bind λ(aj,ai,ah,af,ae,ab)=>(A7 l58 0).bind λ(bm,bl,bj,bi,bh,bg)=>(A7 (l58.set 0 (aj,ai,ah,af,ae,ab)) r60).bind λ(bf,be,bb,ba,az,ay)=>some ((l58.set 0 (aj,ai,ah,af,ae,ab)).set r60.toNat (bm,bl,bj,bi,bh,bg))))))
@[go_sem] def s55(N:Nat):Spec:=p0<|pG<|pD Ak λf1=>pE<|pI λhow2=>pI λn3=>pI λat4=>pE<|pF (Agp N f1 how2 n3 at4) [] λr=>.agg [Ap r]
theorem Aj1(N:Nat):AG Tryz.prog 55 (s55 N):=by
 refine Ar x55.ok<|Aw<|AM λf1=>Ad<|Aa λhow2=>Aa λn3=>Aa λat4=>Ad<|As λr h=>?_
 unfold Agp at h;rw[yB]at h;obtain⟨l0,gm,h⟩:=h;by_cases hz:decide ((l0.length:Int)=0)=true
 ·rw[hz,cond_true]at h;obtain rfl:=yJ h;refine PCall.resD (r:=.agg [.sl 6 false [[.i n3,.i 0,.i 0,.sl 0 true [] [],.i 0,.i 0]] [.i 0,.i 0,.i 0,.sl 0 true [] [],.i 0,.i 0]]) (by simp[HD,Ib,Hk,HS,wk,go_sem]) ?_;refine wx x55 (Ab (UY N)<|Ab (nS N)<|Ab (Ab1 N)<|Ab (AbX N)<|Aj) λ_ hS F=>?_
  dsimp only[x55,Ah,Ak];refine go hS F ?_;refine GO hS 1 x96.hf x96.hc x96.hn x96.ok rfl (ev F) (ev F) ?_ rfl (ev F) (oL rfl) λhb=>?_
  ·exact Bl hS F
  dsimp only[x96,Ah];refine go hS F ?_;refine Fc 1000001 (100,4) 0 6 [.i 0,.i 0,.i 0,.sl 0 true [] [],.i 0,.i 0] (by omega) (ev F) ?_;refine go hS F ?_;refine Bz l0 (λz:(List (Int×Int×Int×(List (Int×Int))×Int×Int))×Nat=>⟨[(2,.box (1,3) 0),(3,.box (100,4) 0)],[(.c (1,1) 0,.sl 0 true [] []),(.c (0,1) 0,Ap f1),(.c (100,4) 0,.own (1000001,6) z.1.length),(.a (1000001,6),B7 z.1),(.c (1,3) 0,.sl 0 true [] [])],z.2⟩) (λz=>(z.1:(List (Int×Int×Int×(List (Int×Int))×Int×Int)))) (.x 0) ?_ ?_
  ·refine Bp (λn (y:Int×(List (Int×Int×Int×(List (Int×Int))×Int×Int))×Nat)=>gD N f1 n y.1 y.2.1) (λy=>⟨[(1,.box (0,3) 0),(2,.box (1,3) 0),(3,.box (100,4) 0),(4,.i y.1)],[(.c (1,1) 0,.sl 0 true [] []),(.c (0,1) 0,Ap f1),(.c (100,4) 0,.own (1000001,6) y.2.1.length),(.a (1000001,6),B7 y.2.1),(.c (1,3) 0,.sl 0 true [] []),(.c (0,3) 0,Ap f1)],y.2.2⟩) (0,[],6) gm (Ch F) ?_;rintro n ⟨ak,l39,fm⟩ aa;simp only[gD]at aa;refine An hS F aa (λ_ aa=>?_) (λ_ aa=>?_)
   ·obtain⟨⟨x40,x41,x42,x43,x44,x45⟩,av,aa⟩:=un aa;obtain⟨fx,F⟩:=Cb Au av F;obtain⟨⟨de,db,da,cz,cy,cu⟩,au,aa⟩:=un aa;obtain⟨gt,gr,aa⟩:=un aa;exact Cd hS (fc au F) (n,ak+1,l39++[(de,db,da,cz,cy,cu)],fm+1+1+1) aa
   ·exact B4 hS F (l39,fm+1) aa
  ·rintro⟨l58,gv⟩ rfl;simp only at hz;refine Om hS (fc hz F) ?_;exact Ai hS F (rfl:some ()=some ())
 ·rw[(tU.2 hz),sH]at h;refine wx x55 (Ab (UY N)<|Ab (nS N)<|Ab (Ab1 N)<|Ab (AbX N)<|Aj) λ_ hS F=>?_
  dsimp only[x55,Ah,Ak];refine go hS F ?_;refine GO hS 1 x96.hf x96.hc x96.hn x96.ok rfl (ev F) (ev F) ?_ rfl (ev F) (oL rfl) λhb=>?_
  ·exact Bl hS F
  dsimp only[x96,Ah];refine go hS F ?_;refine Fc 1000001 (100,4) 0 6 [.i 0,.i 0,.i 0,.sl 0 true [] [],.i 0,.i 0] (by omega) (ev F) ?_;refine go hS F ?_;refine Bz l0 (λz:(List (Int×Int×Int×(List (Int×Int))×Int×Int))×Nat=>⟨[(2,.box (1,3) 0),(3,.box (100,4) 0)],[(.c (1,1) 0,.sl 0 true [] []),(.c (0,1) 0,Ap f1),(.c (100,4) 0,.own (1000001,6) z.1.length),(.a (1000001,6),B7 z.1),(.c (1,3) 0,.sl 0 true [] [])],z.2⟩) (λz=>(z.1:(List (Int×Int×Int×(List (Int×Int))×Int×Int)))) (.x 0) ?_ ?_
  ·refine Bp (λn (y:Int×(List (Int×Int×Int×(List (Int×Int))×Int×Int))×Nat)=>gD N f1 n y.1 y.2.1) (λy=>⟨[(1,.box (0,3) 0),(2,.box (1,3) 0),(3,.box (100,4) 0),(4,.i y.1)],[(.c (1,1) 0,.sl 0 true [] []),(.c (0,1) 0,Ap f1),(.c (100,4) 0,.own (1000001,6) y.2.1.length),(.a (1000001,6),B7 y.2.1),(.c (1,3) 0,.sl 0 true [] []),(.c (0,3) 0,Ap f1)],y.2.2⟩) (0,[],6) gm (Ch F) ?_;rintro n ⟨ak,l39,fm⟩ aa;simp only[gD]at aa;refine An hS F aa (λ_ aa=>?_) (λ_ aa=>?_)
   ·obtain⟨⟨x40,x41,x42,x43,x44,x45⟩,av,aa⟩:=un aa;obtain⟨fx,F⟩:=Cb Au av F;obtain⟨⟨de,db,da,cz,cy,cu⟩,au,aa⟩:=un aa;obtain⟨gt,gr,aa⟩:=un aa;exact Cd hS (fc au F) (n,ak+1,l39++[(de,db,da,cz,cy,cu)],fm+1+1+1) aa
   ·exact B4 hS F (l39,fm+1) aa
  ·rintro⟨l58,gv⟩ rfl;have hz':=tU.2 hz;simp only at hz';refine KR hS (fc hz' F) ?_
   ·obtain⟨r60,fr,fo,fq,h⟩:=un h;replace F:=fc fq (fc fr F);refine An hS F h (λ_ h=>?_) (λ_ h=>?_)
    ·obtain⟨⟨cr,cq,co,cn,cj,ci⟩,fj,h⟩:=un h;obtain⟨gj,F⟩:=Cb Au fj F;obtain⟨g8,gz,⟨ee,d9,d8,d7,dz,dw⟩,ez,h⟩:=un h;exact Ai hS (fc ez F) h
    ·refine An hS F h (λ_ h=>?_) (λ_ h=>?_)
     ·obtain⟨⟨ce,b9,b7,bz,bw,bv⟩,fh,h⟩:=un h;obtain⟨gi,F⟩:=Cb Au fh F;obtain⟨⟨du,dt,dq,dm,dl,dh⟩,ep,h⟩:=un h;obtain⟨gy,h⟩:=un h;exact Ai hS (fc ep F) h
     ·refine An hS F h (λ_ h=>?_) (λ_ h=>?_)
      ·obtain⟨⟨bu,br,bq,bp,bo,bn⟩,fg,h⟩:=un h;obtain⟨gh,F⟩:=Cb Au fg F;obtain⟨r400,ej,gx,gw,aq,ei,gu,⟨dg,fp⟩,eh,h⟩:=un h;exact Ai hS (fc eh (fc ei (fc ej F))) h
      ·obtain⟨⟨aj,ai,ah,af,ae,ab⟩,e9,h⟩:=un h;obtain⟨gg,F⟩:=Cb Au e9 F;obtain⟨⟨bm,bl,bj,bi,bh,bg⟩,e8,h⟩:=un h;obtain⟨ge,F⟩:=KQ 0 Au e8 F;obtain⟨⟨bf,be,bb,ba,az,ay⟩,an,h⟩:=un h;have am:∀d,A6 ((l58.set 0 (aj,ai,ah,af,ae,ab)).map Au) d r60.toNat=[.i bf,.i be,.i bb,BP ba,.i az,.i ay]:=uO an;simp only[List.map_set,Au,BP]at am;have gc:=(Ng an).1;exact Ai hS (fc am F) h
