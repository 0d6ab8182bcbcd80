import Derived.Test.YtjdchfljifacoaaGreatL5
set_option linter.all false
namespace Go.Proofs.YtjdchfljifacoaaGreat.Am
theorem AiR{n:Int}(h: -1000<=n/\n<=1000)(l:List Int):E0 (n::l)≠[]:=by rw[AiQ];intro e;have:=List.append_eq_nil_iff.1 e;exact uC (by omega) (by omega) this.1
theorem Ahi{N:Nat}{n:Int}(h: -1000<=n/\n<=1000){l:List Int}(hl:l.length<=1000):EN N (n::l)=some (E0 (n::l)):=by unfold EN;rw[Ae (by simp only[mV];omega),Ae (AiR h l)]
theorem Af9(l:List Int)(h:l.length<=10):(E0 l).length<=100:=by have:=NC l;omega
section
variable{N:Nat}(hN:1001<=N)
include hN
theorem Ajk{t:List UInt8}(h:t.length<=1000):KI N t=some (Ahm t,0):=by unfold KI Ahm;have:=kX (t.length:Int);rw[A1 _ (by rw[bK];omega),Ae (by rw[fN];omega)]
variable(a b c p q id i k m1 m2 m3 m4:Int)(l:List Pt)(o:Bool)
open Classical in
theorem AiS(n:Int):ND N n a b c l p q id i k m1 m2 m3 m4 o=some (if FA (n,(a,b,c,l,p,q),id,i,k,(m1,m2,m3,m4,o))then(Agq (n,(a,b,c,l,p,q),id,i,k,(m1,m2,m3,m4,o)),0)else([],170)):=by
 unfold ND;split
 ·subst n;unfold Lr;rw[Z3 hN,bS];by_cases fa:FA (1,(a,b,c,l,p,q),id,i,k,(m1,m2,m3,m4,o))
  ·rw[aA fa,A1 _ (by rfl),dX fa,Ahi (by omega) (by simp),bS];unfold MC;have hu:=(fa1.1 fa).1;have el:=AhK hu;rw[AiO (by omega) hu,bS];simp only;rw[show kW a b c l p q=Aki (a,b,c,l,p,q)from rfl,Ajk hN el,bS];simp only;rw[bS,Ae (by have h1:=Af9 [1] (by simp);have h2:=kX ((Aki (a,b,c,l,p,q)).length:Int);unfold Ahm;rw[fN,fN];omega)];simp[Agq,E0]
  ·rw[aB fa,AU _ (by rfl),dW fa]
 split
 ·subst n;unfold Lt;rw[Z4 hN,bS];by_cases fa:FA (2,(a,b,c,l,p,q),id,i,k,(m1,m2,m3,m4,o))
  ·rw[aA fa,A1 _ (by rfl),dX fa,Ahi (by omega) (by simp),bS];unfold LR;have fb:=fa2.1 fa;rw[Ahi (by omega) (by simp),bS,bS,Ae (by rw[fN];have h1:=Af9 [2] (by simp);have h2:=Af9 [id] (by simp);omega)];simp[Agq,Ahh,E0]
  ·rw[aB fa,AU _ (by rfl),dW fa]
 split
 ·subst n;unfold Lu;rw[Z5 hN,bS];by_cases fa:FA (3,(a,b,c,l,p,q),id,i,k,(m1,m2,m3,m4,o))
  ·rw[aA fa,A1 _ (by rfl),dX fa,Ahi (by omega) (by simp),bS];unfold LS;have fb:=qB.1 fa;rw[Ahi (by omega) (by simp),bS,bS,Ae (by rw[fN];have h1:=Af9 [3] (by simp);have h2:=Af9 [id,i,k,a] (by simp);omega)];simp[Agq,Ahh,E0]
  ·rw[aB fa,AU _ (by rfl),dW fa]
 split
 ·subst n;unfold Lv;rw[Z6 hN,bS];by_cases fa:FA (4,(a,b,c,l,p,q),id,i,k,(m1,m2,m3,m4,o))
  ·rw[aA fa,A1 _ (by rfl),dX fa,Ahi (by omega) (by simp),bS];unfold LT;have fb:=qC.1 fa;rw[Ahi (by omega) (by simp),bS,bS,Ae (by rw[fN];have h1:=Af9 [4] (by simp);have h2:=Af9 [id,i,k] (by simp);omega)];simp[Agq,Ahh,E0]
  ·rw[aB fa,AU _ (by rfl),dW fa]
 split
 ·subst n;unfold Lw;rw[Z7 hN,bS];by_cases fa:FA (5,(a,b,c,l,p,q),id,i,k,(m1,m2,m3,m4,o))
  ·rw[aA fa,A1 _ (by rfl),dX fa,Ahi (by omega) (by simp),bS];unfold MD;have fb:=fa5.1 fa;have ho:=S3.1 fb.1;simp only at ho;cases o with
   |true=>rw[cT,Ahi (by omega) (by simp),bS,bS,Ae (by rw[fN];have h1:=Af9 [5] (by simp);have h2:=Af9 [m1,m2,m3,m4,1] (by simp);omega)];simp[Agq,Ahh,E0]
   |false=>rw[cF,Ahi (by omega) (by simp),bS,bS,Ae (by rw[fN];have h1:=Af9 [5] (by simp);have h2:=Af9 [m1,m2,m3,m4,0] (by simp);omega)];simp[Agq,Ahh,E0]
  ·rw[aB fa,AU _ (by rfl),dW fa]
 split
 ·subst n;unfold Lx;rw[Z8 hN,bS];by_cases fa:FA (6,(a,b,c,l,p,q),id,i,k,(m1,m2,m3,m4,o))
  ·rw[aA fa,A1 _ (by rfl),dX fa,Ahi (by omega) (by simp),bS];unfold KC;have fb:=fa6.1 fa;rw[Ahi (by omega) (by simp),bS,bS,Ae (by rw[fN];have h1:=Af9 [6] (by simp);have h2:=Af9 [id] (by simp);omega)];simp[Agq,Ahh,E0]
  ·rw[aB fa,AU _ (by rfl),dW fa]
 split
 ·subst n;unfold Ly;rw[Z9 hN,bS];by_cases fa:FA (7,(a,b,c,l,p,q),id,i,k,(m1,m2,m3,m4,o))
  ·rw[aA fa,A1 _ (by rfl),dX fa,Ahi (by omega) (by simp),bS];unfold KC;have fb:=fa7.1 fa;rw[Ahi (by omega) (by simp),bS,bS,Ae (by rw[fN];have h1:=Af9 [7] (by simp);have h2:=Af9 [id] (by simp);omega)];simp[Agq,Ahh,E0]
  ·rw[aB fa,AU _ (by rfl),dW fa]
 unfold Lz;have hh:¬FA (n,(a,b,c,l,p,q),id,i,k,(m1,m2,m3,m4,o)):=fM (by omega);rw[Xj hN _ _ _ _ _ _ _ _ _ _ _ _ _ _ (by omega),bS,aB hh,Ae rfl,dW hh]
end
section
variable{N:Nat}(hN:1001<=N){s:List UInt8}(hs:s.length<=1000000000)
include hN hs
theorem Agt{p:Nat}(hp:p<=s.length):B3 N s p=some (match rdP s p with|some (n,q)=>(n,(q:Int),0)|none=>(0,0,10)):=by
 rw[AhH (by omega) hs hp];unfold rdP;cases rdI (s.drop p)with
 |none=>rfl
 |some nm=>rfl
theorem Ahl(a:Ac)(p:Nat):(gd ((decide ((p:Int)=(s.length:Int)))=true->((BF N a.1 a.2.1.1 a.2.1.2.1 a.2.1.2.2.1 a.2.1.2.2.2.1 a.2.1.2.2.2.2.1 a.2.1.2.2.2.2.2 a.2.2.1 a.2.2.2.1 a.2.2.2.2.1 a.2.2.2.2.2.1 a.2.2.2.2.2.2.1 a.2.2.2.2.2.2.2.1 a.2.2.2.2.2.2.2.2.1 a.2.2.2.2.2.2.2.2.2).isSome=true))<|bif !((decide ((p:Int)=(s.length:Int)))&&((BF N a.1 a.2.1.1 a.2.1.2.1 a.2.1.2.2.1 a.2.1.2.2.2.1 a.2.1.2.2.2.2.1 a.2.1.2.2.2.2.2 a.2.2.1 a.2.2.2.1 a.2.2.2.2.1 a.2.2.2.2.2.1 a.2.2.2.2.2.2.1 a.2.2.2.2.2.2.2.1 a.2.2.2.2.2.2.2.2.1 a.2.2.2.2.2.2.2.2.2).getD false))then some ((0,(0,0,0,[],0,0),0,0,0,(0,0,0,0,false)),170)else some (a,0))=some (AhN (Ahg s a p)):=by
 rw[Afa hN,BR (λ_=>fL),kK];unfold Ahg;by_cases c:p=s.length/\FA a
 ·rw[dX c,aA (by omega),aA (show FA (a.1,(a.2.1.1,a.2.1.2.1,a.2.1.2.2.1,a.2.1.2.2.2.1,a.2.1.2.2.2.2.1,a.2.1.2.2.2.2.2),a.2.2.1,a.2.2.2.1,a.2.2.2.2.1,(a.2.2.2.2.2.1,a.2.2.2.2.2.2.1,a.2.2.2.2.2.2.2.1,a.2.2.2.2.2.2.2.2.1,a.2.2.2.2.2.2.2.2.2))from c.2),A1 _ (by rfl)];rfl
 ·rw[dW c,AU]
  ·rfl
  ·by_cases c1:p=s.length
   ·rw[aB (show¬FA (a.1,(a.2.1.1,a.2.1.2.1,a.2.1.2.2.1,a.2.1.2.2.2.1,a.2.1.2.2.2.2.1,a.2.1.2.2.2.2.2),a.2.2.1,a.2.2.2.1,a.2.2.2.2.1,(a.2.2.2.2.2.1,a.2.2.2.2.2.2.1,a.2.2.2.2.2.2.2.1,a.2.2.2.2.2.2.2.2.1,a.2.2.2.2.2.2.2.2.2))from λw=>c ⟨c1,w⟩)];simp
   ·rw[aB (by omega)];simp
theorem AiT:Nh N s=some (AhN (AhA s)):=by
 unfold Nh AhA;rw[show B3 N s 0=B3 N s (0:Nat)from rfl];rw[Agt hN hs (rB _),bS];cases h1:rdP s 0 with
 |none=>simp only[Option.bind_none];rw[AU _ (by simp)];rfl
 |some x1=>
 obtain⟨k,p1⟩:=x1;have l1:=(AfX (rB _) h1).2.2;simp only[mU];rw[A1 _ (by simp)];by_cases k1:k=1
 ·subst k1;rw[AU _ (by rfl),dX rfl];rcases Aij hN hs l1 with⟨t,j,e1,e2,e3⟩|⟨e1,e,e2,e3⟩
  ·have tl:=AhJ e1;rw[e3,bS,e1,mU];simp only;rw[A1 _ (by simp),Aih (by omega) (by omega),bS];cases hd:Ahs t with
   |none=>simp only[Option.bind_none];rw[AU _ (by simp)];rfl
   |some u=>obtain⟨u1,u2,u3,u4,u5,u6⟩:=u;simp only[mU];rw[A1 _ (by simp)];exact Ahl hN hs (1,(u1,u2,u3,u4,u5,u6),0,0,0,Xg) (p1+j)
  ·rw[e3,bS,e1];simp only[Option.bind_none];rw[AU _ (by simp[e2])];rfl
 rw[A1 _ (aB k1),dW k1];by_cases k2:k=2
 ·subst k2;rw[AU _ (by rfl),dX rfl];rw[Agt hN hs l1,bS];cases h2:rdP s p1 with
  |none=>simp only[Option.bind_none];rw[AU _ (by simp)];rfl
  |some x2=>
  obtain⟨y2,p2⟩:=x2;have l2:=(AfX l1 h2).2.2;simp only[mU];rw[A1 _ (by simp)];exact Ahl hN hs (2,PE,y2,0,0,Xg) p2
 rw[A1 _ (aB k2),dW k2];by_cases k6:k=6
 ·subst k6;rw[AU _ (by rfl),dX rfl];rw[Agt hN hs l1,bS];cases h2:rdP s p1 with
  |none=>simp only[Option.bind_none];rw[AU _ (by simp)];rfl
  |some x2=>
  obtain⟨y2,p2⟩:=x2;have l2:=(AfX l1 h2).2.2;simp only[mU];rw[A1 _ (by simp)];exact Ahl hN hs (6,PE,y2,0,0,Xg) p2
 rw[A1 _ (aB k6),dW k6];by_cases k7:k=7
 ·subst k7;rw[AU _ (by rfl),dX rfl];rw[Agt hN hs l1,bS];cases h2:rdP s p1 with
  |none=>simp only[Option.bind_none];rw[AU _ (by simp)];rfl
  |some x2=>
  obtain⟨y2,p2⟩:=x2;have l2:=(AfX l1 h2).2.2;simp only[mU];rw[A1 _ (by simp)];exact Ahl hN hs (7,PE,y2,0,0,Xg) p2
 rw[A1 _ (aB k7),dW k7];by_cases k3:k=3
 ·subst k3;rw[AU _ (by rfl),dX rfl];rw[Agt hN hs l1,bS];cases h2:rdP s p1 with
  |none=>simp only[Option.bind_none];rw[AU _ (by simp)];rfl
  |some x2=>
  obtain⟨y2,p2⟩:=x2;have l2:=(AfX l1 h2).2.2;simp only[mU];rw[A1 _ (by simp)];rw[Agt hN hs l2,bS];cases h3:rdP s p2 with
  |none=>simp only[Option.bind_none];rw[AU _ (by simp)];rfl
  |some x3=>
  obtain⟨y3,p3⟩:=x3;have l3:=(AfX l2 h3).2.2;simp only[mU];rw[A1 _ (by simp)];rw[Agt hN hs l3,bS];cases h4:rdP s p3 with
  |none=>simp only[Option.bind_none];rw[AU _ (by simp)];rfl
  |some x4=>
  obtain⟨y4,p4⟩:=x4;have l4:=(AfX l3 h4).2.2;simp only[mU];rw[A1 _ (by simp)];rw[Agt hN hs l4,bS];cases h5:rdP s p4 with
  |none=>simp only[Option.bind_none];rw[AU _ (by simp)];rfl
  |some x5=>
  obtain⟨y5,p5⟩:=x5;have l5:=(AfX l4 h5).2.2;simp only[mU];rw[A1 _ (by simp)];exact Ahl hN hs (3,(y5,0,0,[],0,0),y2,y3,y4,Xg) p5
 rw[A1 _ (aB k3),dW k3];by_cases k4:k=4
 ·subst k4;rw[AU _ (by rfl),dX rfl];rw[Agt hN hs l1,bS];cases h2:rdP s p1 with
  |none=>simp only[Option.bind_none];rw[AU _ (by simp)];rfl
  |some x2=>
  obtain⟨y2,p2⟩:=x2;have l2:=(AfX l1 h2).2.2;simp only[mU];rw[A1 _ (by simp)];rw[Agt hN hs l2,bS];cases h3:rdP s p2 with
  |none=>simp only[Option.bind_none];rw[AU _ (by simp)];rfl
  |some x3=>
  obtain⟨y3,p3⟩:=x3;have l3:=(AfX l2 h3).2.2;simp only[mU];rw[A1 _ (by simp)];rw[Agt hN hs l3,bS];cases h4:rdP s p3 with
  |none=>simp only[Option.bind_none];rw[AU _ (by simp)];rfl
  |some x4=>
  obtain⟨y4,p4⟩:=x4;have l4:=(AfX l3 h4).2.2;simp only[mU];rw[A1 _ (by simp)];exact Ahl hN hs (4,PE,y2,y3,y4,Xg) p4
 rw[A1 _ (aB k4),dW k4];by_cases k5:k=5
 ·subst k5;rw[AU _ (by rfl),dX rfl];rw[Agt hN hs l1,bS];cases h2:rdP s p1 with
  |none=>simp only[Option.bind_none];rw[AU _ (by simp)];rfl
  |some x2=>
  obtain⟨y2,p2⟩:=x2;have l2:=(AfX l1 h2).2.2;simp only[mU];rw[A1 _ (by simp)];rw[Agt hN hs l2,bS];cases h3:rdP s p2 with
  |none=>simp only[Option.bind_none];rw[AU _ (by simp)];rfl
  |some x3=>
  obtain⟨y3,p3⟩:=x3;have l3:=(AfX l2 h3).2.2;simp only[mU];rw[A1 _ (by simp)];rw[Agt hN hs l3,bS];cases h4:rdP s p3 with
  |none=>simp only[Option.bind_none];rw[AU _ (by simp)];rfl
  |some x4=>
  obtain⟨y4,p4⟩:=x4;have l4:=(AfX l3 h4).2.2;simp only[mU];rw[A1 _ (by simp)];rw[Agt hN hs l4,bS];cases h5:rdP s p4 with
  |none=>simp only[Option.bind_none];rw[AU _ (by simp)];rfl
  |some x5=>
  obtain⟨y5,p5⟩:=x5;have l5:=(AfX l4 h5).2.2;simp only[mU];rw[A1 _ (by simp)];rw[Agt hN hs l5,bS];cases h6:rdP s p5 with
  |none=>simp only[Option.bind_none];rw[AU _ (by simp)];rfl
  |some x6=>
  obtain⟨y6,p6⟩:=x6;have l6:=(AfX l5 h6).2.2;simp only[mU];rw[A1 _ (by simp)];rw[BM,bS];by_cases c:y6=0\/y6=1
  ·rw[dX c,A1 _ (by rcases c with rfl|rfl<;>rfl)];exact Ahl hN hs (5,PE,0,0,0,(y2,y3,y4,y5,decide (y6=1))) p6
  ·rw[dW c,AU _ (by rw[tL,vF,bK,bK];omega)];rfl
 rw[A1 _ (aB k5),dW k5];have fe:=Ahl hN hs (k,PE,0,0,0,Xg) p1;refine fe.trans ?_;unfold Ahg;rw[dW];rintro⟨_,fa⟩;have:1<=k/\k<=7:=by apply Classical.byContradiction;intro hk;exact fM hk fa
 omega
end
theorem Ah2{a:Ac}(fa:FA a):0<(Agq a).length/\(Agq a).length<=2000:=by
 have pn:∀{n:Int},-1000<=n/\n<=1000->0<(Lp n).length:=λh=>List.length_pos_iff.2 (uC (by omega) (by omega))
 have hk: -1000<=a.1/\a.1<=1000:=by cases fa<;>simp
 have h1:=pn hk;have h2:=kX a.1;unfold Agq;split
 ·rename_i c;have hu:UV a.2.1:=by
   cases fa with
   |build hu=>exact hu
   |_=>simp at c
  have el:=AhK hu;have h3:=kX ((Aki a.2.1).length:Int);rw[c]at h1 h2;unfold Ahm;rw[fN,fN];omega
 ·have h0:(Ahh a).length<=10:=by
   unfold Ahh
   repeat' split
   all_goals simp
  have h3:=Af9 (Ahh a) h0;rw[fN];omega
section
variable{N:Nat}(hN:1001<=N)(h9:N<=100000)
include hN h9
theorem Ail{a:Ac}(hl:a.2.1.2.2.2.1.length<N):FG N a.1 a.2.1.1 a.2.1.2.1 a.2.1.2.2.1 a.2.1.2.2.2.1 a.2.1.2.2.2.2.1 a.2.1.2.2.2.2.2 a.2.2.1 a.2.2.2.1 a.2.2.2.2.1 a.2.2.2.2.2.1 a.2.2.2.2.2.2.1 a.2.2.2.2.2.2.2.1 a.2.2.2.2.2.2.2.2.1 a.2.2.2.2.2.2.2.2.2 a.1 a.2.1.1 a.2.1.2.1 a.2.1.2.2.1 a.2.1.2.2.2.1 a.2.1.2.2.2.2.1 a.2.1.2.2.2.2.2 a.2.2.1 a.2.2.2.1 a.2.2.2.2.1 a.2.2.2.2.2.1 a.2.2.2.2.2.2.1 a.2.2.2.2.2.2.2.1 a.2.2.2.2.2.2.2.2.1 a.2.2.2.2.2.2.2.2.2=some true:=by unfold FG;rw[kT hl h9,BR (λ_=>fL),kK];simp
theorem AiU{a:Ac}(fa:FA a):a.2.1.2.2.2.1.length<=8:=by
 cases fa with
 |build hu=>exact hu.l.l8
 |_=>simp[PE]
theorem Aic{l:List Ac}(fl:∀a∈l,FA a):∀n k (last:List UInt8),k<=l.length->l.length<n+k->l.length<=1000->(0<last.length/\last.length<=2000)->∃last',Af8 N l n last (k:Nat)=some (.inl last')/\(0<last'.length/\last'.length<=2000)
 |0,k,last,h1,h2,_,_=>by omega
 |n+1,k,last,h1,h2,h3,h=>by
  rw[Af8];by_cases e:k<l.length
  ·have fx:=fl _ (y7 e);rw[Dq e,cT,Ac4 e,bS];generalize l[k]=x at fx;have el:=Ah2 fx;have de:=AiT hN (s:=Agq x) (by omega);rw[Ah1 fx]at de;have sa:=Ail hN h9 (a:=x) (by have:=AiU hN h9 fx;omega);obtain⟨x1,⟨x2,x3,x4,x5,x6,x7⟩,x8,x9,x10,⟨eI,x12,x13,rI,Ud⟩⟩:=x;simp only at sa⊢;rw[AiS hN,dX fx,bS];simp only;have de2:Nh N (Agq (x1,(x2,x3,x4,x5,x6,x7),x8,x9,x10,(eI,x12,x13,rI,Ud)))=some ((x1,(x2,x3,x4,x5,x6,x7),x8,x9,x10,(eI,x12,x13,rI,Ud)),0):=de;rw[de2,bS]
   (try simp only)
   rw[sa,BR (λ_=>fL),kK,A1 _ (by simp;intro w;rw[w]at el;simp at el),Ae (by unfold Af;omega),<-ns];exact Aic fl n (k+1) _ (by omega) (by omega) h3 el
  ·have e3:k=l.length:=by omega
   subst e3;rw[F2,cF];exact⟨last,rfl,h⟩
theorem AiV(z:List UInt8)(hz:z.length<=1000000)(x:Int)(hx:0<=x/\x<=10)(R:Option (Sum Unit Bool)):((Nh N z).bind λ((r717,(r718,r719,r720,r721,r722,r723),r724,r725,r726,(r727,r728,r729,r730,r731)),r732)=>
   bif decide (r732≠0)then(
    gd (Af (x+1))<|R)
   else(
    (ND N r717 r718 r719 r720 r721 r722 r723 r724 r725 r726 r727 r728 r729 r730 r731).bind λ(r734,r735)=>
    gd ((!((decide (r735≠0))||(!decide (r734=z))))=true->((BF N r717 r718 r719 r720 r721 r722 r723 r724 r725 r726 r727 r728 r729 r730 r731).isSome=true))<|bif ((decide (r735≠0))||(!decide (r734=z)))||(!((BF N r717 r718 r719 r720 r721 r722 r723 r724 r725 r726 r727 r728 r729 r730 r731).getD false))then(
     some (.inr false))
    else(
     gd (Af (x+1))<|R)))=R:=by
 have ad:=AiT hN (s:=z) (by omega);cases e:AhA z with
 |none=>
  rw[e]at ad;rw[ad,show AhN none=((0,(0,0,0,[],0,0),0,0,0,(0,0,0,0,false)),170)from rfl,bS]
  (try simp only)
  rw[AU _ (by simp),Ae (by unfold Af;omega)]
 |some a=>
  obtain⟨fa,ez⟩:=AhV e;obtain⟨x1,⟨x2,x3,x4,x5,x6,x7⟩,x8,x9,x10,⟨eI,x12,x13,rI,Ud⟩⟩:=a;rw[e]at ad;rw[ad,show AhN (some (x1,(x2,x3,x4,x5,x6,x7),x8,x9,x10,(eI,x12,x13,rI,Ud)))=((x1,(x2,x3,x4,x5,x6,x7),x8,x9,x10,(eI,x12,x13,rI,Ud)),0)from rfl,bS]
  (try simp only)
  rw[A1 _ (by simp),AiS hN,dX fa,<-ez,bS]
  (try simp only)
  rw[Afa hN,BR (λ_=>fL),kK,aA fa,A1 _ (by simp),Ae (by unfold Af;omega)]
theorem Ai2(text last:List UInt8)(k:Nat)(c:Int)(hl:last.length<=2000):Adp N text last (k:Int) c N 0=some (.inl ()):=by
 obtain⟨n,hn⟩:∃n,N=n+1+1+1+1:=⟨N-4,by omega⟩
 have go:∀m (x:Int) (z:List UInt8),A7 [text.take (min (text.length:Int) 40).toNat,((last.take (k:Int).toNat)++[UInt8.ofNat c.toNat])++(last.drop ((k:Int)+1).toNat),last.take (k:Int).toNat] x=some z->z.length<=1000000->(0<=x/\x<3)->Adp N text last (k:Int) c (m+1) x=Adp N text last (k:Int) c m (x+1):=λm x z h1 h2 h3=>by rw[Adp,aA (p:=x<3) h3.2,cT,h1,bS];exact AiV hN h9 z h2 x (by omega) _
 have e0:=go (n+1+1+1) 0 _ rfl (by rw[tH];omega) (by omega);have e1:=go (n+1+1) 1 _ rfl (by simp only[fN,tH,oL,mV,t8];omega) (by omega);have e2:=go (n+1) 2 _ rfl (by rw[tH];omega) (by omega);have e3:Adp N text last (k:Int) c (n+1) 3=some (.inl ()):=by rw[Adp,aB (p:=(3:Int)<3) (by omega),cF]
 have e:Adp N text last (k:Int) c N 0=Adp N text last (k:Int) c (n+1+1+1+1) 0:=by rw[<-hn]
 rw[e,e0];exact e1.trans (e2.trans e3)
end
theorem AhF(x1:List (Int×Int×Int×Int×Int×Int))(x2:List (Int×Int×Int×Int))(x3:List (Int×Int×Int×Int×Int×Int))(text:List UInt8)(w c:Int)(h1:I6 x1)(h2:I4 x2)(h3:I6 x3){q:Prop}(_:q)(hw:Af w)(_:0<=c/\c<=255):Ago 2000 x1 x2 x3 text w c=some true:=by
 have hN:1001<=2000:=by omega
 have h9:2000<=100000:=by omega
 obtain⟨f,ms,em,hs⟩:=AbA (N:=2000) hN x3 h1 h2;obtain⟨l,el,l8,fl⟩:=AbC (N:=2000) hN h9 h3 em hs;obtain⟨last,e1,hl⟩:=Aic (N:=2000) hN h9 fl 2000 0 [4,6] (by omega) (by omega) (by omega) (by decide);have pb:=DI (c:=w) (n:=(last.length:Int)) (by omega);obtain⟨k,hk⟩:∃k:Nat,pk w (last.length:Int)=k:=⟨(pk w (last.length:Int)).toNat,by omega⟩
 rw[iW]at e1;unfold Ago;rw[AbD,bS,A1 _ (by rfl),el,bS];simp only;rw[e1,bS];simp only;rw[lpk hw (by omega),bS,hk];rw[hk]at pb;rw[Ae (by omega),Ae (by omega),Ae (by simp only[fN,tH,mV,t8];omega),Ae (by unfold Af;omega),Ae (by omega),Ae (by simp only[fN,tH,oL,mV,t8];omega),Ae (by omega),Ai2 (N:=2000) hN h9 text last k c (by omega),bS]
