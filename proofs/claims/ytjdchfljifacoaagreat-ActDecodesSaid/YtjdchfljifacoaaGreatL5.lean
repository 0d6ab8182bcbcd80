import Derived.Test.YtjdchfljifacoaaGreatY6
import Derived.Test.YtjdchfljifacoaaGreatDe
set_option linter.all false
set_option maxRecDepth 100000
set_option maxHeartbeats 8000000
noncomputable section
namespace Go.Proofs.YtjdchfljifacoaaGreat.Am
section
def Aki(u:Un):List UInt8:=kW u.1 u.2.1 u.2.2.1 u.2.2.2.1 u.2.2.2.2.1 u.2.2.2.2.2
def Ahm(t:List UInt8):List UInt8:=Lp (t.length:Int)++t
def rdT(l:List UInt8):Option (List UInt8×Nat):=(rdI l).bind λnm=>if(0<=nm.1/\nm.1<=65536)/\nm.2+nm.1.toNat<=l.length then some ((l.drop nm.2).take nm.1.toNat,nm.2+nm.1.toNat)else none
theorem Aig{t:List UInt8}(ht:t.length<=65536)(w:List UInt8):rdT (Ahm t++w)=some (t,(Ahm t).length):=by
 have hw:Akh (t.length:Int):=by unfold Akh;omega
 unfold rdT Ahm;rw[nK,AhC hw,mU,dX]
 ·rw[List.drop_append_of_le_length (by omega),sW,kN,sI,List.take_append_of_le_length (by omega),F4,fN]
 ·simp only[fN,sI];omega
theorem AhJ{l t:List UInt8}{k:Nat}(h:rdT l=some (t,k)):t.length<=65536/\l.take k=Ahm t/\k<=l.length:=by
 unfold rdT at h;cases hr:rdI l with
 |none=>rw[hr]at h;cases h
 |some nm=>
  obtain⟨n,m⟩:=nm;rw[hr,mU]at h;simp only at h;split at h
  ·rename_i hc;obtain⟨_,h2,h3,_⟩:=Ahp hr;simp only[yE,F9]at h;obtain⟨rfl,rfl⟩:=h;have hl:((l.drop m).take n.toNat).length=n.toNat:=by rw[tH,oL];omega
   refine⟨by omega,?_,hc.2⟩;unfold Ahm;rw[hl,w5 hc.1.1,<-h2,List.take_add]
  ·cases h
theorem AiO{N:Nat}(hN:100<=N){a b c:Int}{l:List Pt}{p q:Int}(h:UP a b c l p q):HL N a b c l p q=some (kW a b c l p q,0):=by have:=h.l.l8;unfold HL;rw[mT hN h,bS,Ae (by omega)];rfl
theorem Aih{N:Nat}(hN:100<=N){s:List UInt8}(hs:s.length<=1000000000):Ed N s=some (match Ahs s with|some x=>(x,0)|none=>((0,0,0,[],0,0),80)):=by unfold Ed;rw[Aie hN hs];rfl
theorem Aii{a b c:Int}{l:List Pt}{p q:Int}(h:UP a b c l p q):0<(kW a b c l p q).length/\(kW a b c l p q).length<=1000:=by
 have l8:=h.l.l8;have h1:=TC l;have h2:=NC [a,b,c,p,q,(l.length:Int)];have h3:=uC (n:=a) (by have:=h.a;omega) (by have:=h.a;omega);have h4:0<(Lp a).length:=List.length_pos_iff.2 h3;have h5:(Lp a).length<=(E0 [a,b,c,p,q,(l.length:Int)]).length:=by simp[E0]
 unfold kW pN;rw[fN];simp only[mV,t8]at h2;omega
theorem AiP{u:Un}(h:UV u):Ahs (Aki u)=some u:=AhY h
theorem AhK{u:Un}(h:UV u):(Aki u).length<=1000:=(Aii h).2
section
variable{N:Nat}(hN:1001<=N)
include hN
theorem Aij{s:List UInt8}{p:Nat}(hs:s.length<=1000000000)(hp:p<=s.length):(∃t k,rdT (s.drop p)=some (t,k)/\p+k<=s.length/\Mp N s p=some (t,((p+k:Nat):Int),0))\/(rdT (s.drop p)=none/\∃e,e≠0/\Mp N s p=some ([],0,e)):=by
 unfold Mp rdT;rw[AhH (by omega) hs hp,bS];cases hr:rdI (s.drop p)with
 |none=>right;simp only;refine⟨rfl,_,?_,by rw[AU _ (by rfl)]⟩;omega
 |some nm=>
  obtain⟨n,m⟩:=nm;obtain⟨wn,_,h3,_⟩:=Ahp hr;rw[oL]at h3;unfold Akh at wn;simp only;rw[A1 _ (by rfl),BR (λ_=>by unfold Af;omega),mU];simp only;rw[oL];by_cases c:(0<=n/\n<=65536)/\m+n.toNat<=s.length-p
  ·left;rw[dX c];refine⟨_,_,rfl,by omega,?_⟩;rw[A1 _ (by rw[uO,uO,bK,bK,bK];omega),Ae (by unfold Af;omega),Ae (by omega),Ae (by unfold Af;omega)];have e1:(((p+m:Nat):Int)+n).toNat-((p+m:Nat):Int).toNat=n.toNat:=by omega
   have e2:((p+m:Nat):Int)+n=((p+(m+n.toNat):Nat):Int):=by omega
   rw[e1,e2,sI,tM]
  ·right;rw[dW c];refine⟨rfl,10,by omega,?_⟩;rw[AU _ (by rw[qZ,qZ,bJ,bJ,bJ];omega)]
end
def rdP(s:List UInt8)(p:Nat):Option (Int×Nat):=(rdI (s.drop p)).map λnm=>(nm.1,p+nm.2)
theorem Agn{s w:List UInt8}{p:Nat}{n:Int}(h:Akh n)(e:s.drop p=Lp n++w):rdP s p=some (n,p+(Lp n).length)/\s.drop (p+(Lp n).length)=w:=by unfold rdP;rw[e,AhC h];refine⟨rfl,?_⟩;rw[<-tM,e,List.drop_left]
theorem AfX{s:List UInt8}{p q:Nat}{n:Int}(hp:p<=s.length)(h:rdP s p=some (n,q)):Akh n/\s.drop p=Lp n++s.drop q/\q<=s.length:=by
 unfold rdP at h;cases hr:rdI (s.drop p)with
 |none=>rw[hr]at h;cases h
 |some nm=>
  obtain⟨n',m⟩:=nm;rw[hr]at h;cases h
  obtain⟨w,h1,h2,_⟩:=Ahp hr;rw[oL]at h2;refine⟨w,?_,by omega⟩;simp only;rw[<-h1,<-tM,u9]
def Ahg(s:List UInt8)(a:Ac)(p:Nat):Option Ac:=if p=s.length/\FA a then some a else none
def AhA(s:List UInt8):Option Ac:=(rdP s 0).bind λx1=>if x1.1=1 then((rdT (s.drop x1.2)).bind λt=>(Ahs t.1).bind λu=>Ahg s (1,u,0,0,0,Xg) (x1.2+t.2))else if x1.1=2 then((rdP s x1.2).bind λy=>Ahg s (2,PE,y.1,0,0,Xg) y.2)else if x1.1=6 then((rdP s x1.2).bind λy=>Ahg s (6,PE,y.1,0,0,Xg) y.2)else if x1.1=7 then((rdP s x1.2).bind λy=>Ahg s (7,PE,y.1,0,0,Xg) y.2)else if x1.1=3 then((rdP s x1.2).bind λy1=>(rdP s y1.2).bind λy2=>(rdP s y2.2).bind λy3=>(rdP s y3.2).bind λy4=>Ahg s (3,(y4.1,0,0,[],0,0),y1.1,y2.1,y3.1,Xg) y4.2)else if x1.1=4 then((rdP s x1.2).bind λy1=>(rdP s y1.2).bind λy2=>(rdP s y2.2).bind λy3=>Ahg s (4,PE,y1.1,y2.1,y3.1,Xg) y3.2)else if x1.1=5 then((rdP s x1.2).bind λy1=>(rdP s y1.2).bind λy2=>(rdP s y2.2).bind λy3=>(rdP s y3.2).bind λy4=>(rdP s y4.2).bind λy5=>if y5.1=0\/y5.1=1 then Ahg s (5,PE,0,0,0,(y1.1,y2.1,y3.1,y4.1,decide (y5.1=1))) y5.2 else none)else none
def AhN(o:Option Ac):Ac×Int:=match o with|some a=>(a,0)|none=>((0,PE,0,0,0,Xg),170)
def Ahh(a:Ac):List Int:=if a.1=3 then[a.2.2.1,a.2.2.2.1,a.2.2.2.2.1,a.2.1.1]else if a.1=4 then[a.2.2.1,a.2.2.2.1,a.2.2.2.2.1]else if a.1=5 then[a.2.2.2.2.2.1,a.2.2.2.2.2.2.1,a.2.2.2.2.2.2.2.1,a.2.2.2.2.2.2.2.2.1,if a.2.2.2.2.2.2.2.2.2 then 1 else 0]else[a.2.2.1]
def Agq(a:Ac):List UInt8:=if a.1=1 then Lp 1++Ahm (Aki a.2.1)else Lp a.1++E0 (Ahh a)
theorem Agr{n:Int}(h: -1000<=n/\n<=1000):Akh n:=by unfold Akh;omega
theorem AiQ(n:Int)(l:List Int):E0 (n::l)=Lp n++E0 l:=rfl
theorem Aik{s t:List UInt8}{p k:Nat}(hp:p<=s.length)(h:rdT (s.drop p)=some (t,k)):s.drop p=Ahm t++s.drop (p+k)/\p+k<=s.length:=by obtain⟨_,h2,h3⟩:=AhJ h;rw[oL]at h3;refine⟨?_,by omega⟩;rw[<-h2,<-tM,u9]
theorem AhZ{s:List UInt8}{p:Nat}(h:p=s.length):s.drop p=[]:=by rw[h,sW]
theorem Ah0{s:List UInt8}{p:Nat}(hp:p<=s.length)(h:s.drop p=[]):p=s.length:=by have:=congrArg List.length h;rw[oL]at this;simp only[t8]at this;omega
theorem Ahk{s:List UInt8}{a b:Ac}{p:Nat}(h:Ahg s a p=some b):b=a/\FA a/\s.drop p=[]:=by
 unfold Ahg at h;split at h
 ·rename_i c;cases h;exact⟨rfl,c.2,AhZ c.1⟩
 ·cases h
theorem AhV{s:List UInt8}{a:Ac}(h:AhA s=some a):FA a/\s=Agq a:=by
 unfold AhA at h;obtain⟨⟨k,p1⟩,h1,h⟩:=yB.1 h;obtain⟨w1,e1,l1⟩:=AfX (rB _) h1;rw[sG]at e1;simp only at h;have one:∀{n:Int},k=n->(rdP s p1).bind (λy=>Ahg s (n,PE,y.1,0,0,Xg) y.2)=some a->(n=2\/n=6\/n=7)->FA a/\s=Agq a:=λ{n} hk h hn=>by obtain⟨⟨y,p2⟩,h2,h⟩:=yB.1 h;obtain⟨w2,e2,l2⟩:=AfX l1 h2;obtain⟨rfl,fa,e3⟩:=Ahk h;simp only at e3;refine⟨fa,?_⟩;unfold Agq Ahh;rw[e1,e2,e3,hk,dW (by simp only;omega),dW (by simp only;omega),dW (by simp only;omega),dW (by simp only;omega)];simp[E0]
 by_cases k1:k=1
 ·rw[dX k1]at h;obtain⟨⟨t,j⟩,h2,h⟩:=yB.1 h;obtain⟨u,h3,h⟩:=yB.1 h;obtain⟨e2,l2⟩:=Aik l1 h2;obtain⟨rfl,fa,e3⟩:=Ahk h;obtain⟨u1,u2,u3,u4,u5,u6⟩:=u;obtain⟨hu,et⟩:=AhU h3;refine⟨fa,?_⟩;unfold Agq;rw[dX rfl,e1,e2,e3,k1,nA];simp only at et;rw[et];rfl
 rw[dW k1]at h;by_cases k2:k=2
 ·rw[dX k2]at h;exact one k2 h (by omega)
 rw[dW k2]at h;by_cases k6:k=6
 ·rw[dX k6]at h;exact one k6 h (by omega)
 rw[dW k6]at h;by_cases k7:k=7
 ·rw[dX k7]at h;exact one k7 h (by omega)
 rw[dW k7]at h;by_cases k3:k=3
 ·rw[dX k3]at h;obtain⟨⟨y1,p2⟩,h2,h⟩:=yB.1 h;obtain⟨_,e2,l2⟩:=AfX l1 h2;obtain⟨⟨y2,p3⟩,h3,h⟩:=yB.1 h;obtain⟨_,e3,l3⟩:=AfX l2 h3;obtain⟨⟨y3,p4⟩,h4,h⟩:=yB.1 h;obtain⟨_,e4,l4⟩:=AfX l3 h4;obtain⟨⟨y4,p5⟩,h5,h⟩:=yB.1 h;obtain⟨_,e5,l5⟩:=AfX l4 h5;obtain⟨rfl,fa,e6⟩:=Ahk h;simp only at e6;refine⟨fa,?_⟩;unfold Agq Ahh;rw[e1,e2,e3,e4,e5,e6,k3];simp[E0]
 rw[dW k3]at h;by_cases k4:k=4
 ·rw[dX k4]at h;obtain⟨⟨y1,p2⟩,h2,h⟩:=yB.1 h;obtain⟨_,e2,l2⟩:=AfX l1 h2;obtain⟨⟨y2,p3⟩,h3,h⟩:=yB.1 h;obtain⟨_,e3,l3⟩:=AfX l2 h3;obtain⟨⟨y3,p4⟩,h4,h⟩:=yB.1 h;obtain⟨_,e4,l4⟩:=AfX l3 h4;obtain⟨rfl,fa,e6⟩:=Ahk h;simp only at e6;refine⟨fa,?_⟩;unfold Agq Ahh;rw[e1,e2,e3,e4,e6,k4];simp[E0]
 rw[dW k4]at h;by_cases k5:k=5
 ·rw[dX k5]at h;obtain⟨⟨y1,p2⟩,h2,h⟩:=yB.1 h;obtain⟨_,e2,l2⟩:=AfX l1 h2;obtain⟨⟨y2,p3⟩,h3,h⟩:=yB.1 h;obtain⟨_,e3,l3⟩:=AfX l2 h3;obtain⟨⟨y3,p4⟩,h4,h⟩:=yB.1 h;obtain⟨_,e4,l4⟩:=AfX l3 h4;obtain⟨⟨y4,p5⟩,h5,h⟩:=yB.1 h;obtain⟨_,e5,l5⟩:=AfX l4 h5;obtain⟨⟨y5,p6⟩,h6,h⟩:=yB.1 h;obtain⟨_,e6,l6⟩:=AfX l5 h6
  (try simp only at h)
  by_cases c:y5=0\/y5=1
  ·rw[dX c]at h;obtain⟨rfl,fa,e7⟩:=Ahk h
   (try simp only at e7)
   refine⟨fa,?_⟩;unfold Agq Ahh;rw[e1,e2,e3,e4,e5,e6,e7,k5];rcases c with rfl|rfl<;>simp[E0]
  ·rw[dW c]at h;cases h
 rw[dW k5]at h;cases h
theorem Ah1{a:Ac}(fa:FA a):AhA (Agq a)=some a:=by
 have fin:∀(s:List UInt8)(p:Nat),p<=s.length->s.drop p=[]->Ahg s a p=some a:=λs p hp e=>dX ⟨Ah0 hp e,fa⟩
 have st:∀(s w:List UInt8)(p:Nat)(n:Int),p<=s.length->s.drop p=Lp n++w->p+(Lp n).length<=s.length:=λs w p n hp e=>by have:=congrArg List.length e;rw[oL,fN]at this;omega
 obtain⟨s,hs⟩:∃s,s=Agq a:=⟨_,rfl⟩
 rw[<-hs];unfold AhA;cases fa with
 |build hu=>rename_i u;have e0:s.drop 0=Lp 1++Ahm (Aki u):=hs;obtain⟨r1,d1⟩:=Agn (Agr (by omega)) e0;have l1:=st _ _ _ _ (rB _) e0;rw[r1,mU];simp only;rw[dX trivial,d1];have t1:=Aig (t:=Aki u) (by have:=AhK hu;omega) [];rw[nA]at t1;rw[t1,mU];simp only;rw[AiP hu,mU];have ll:=congrArg List.length d1;rw[oL]at ll;exact fin _ _ (by omega) (by rw[<-tM,d1,sW])
 |remove hi=>rename_i id;have e0:s.drop 0=Lp 2++(Lp id++[]):=hs;obtain⟨r1,d1⟩:=Agn (Agr (by omega)) e0;have l1:=st _ _ _ _ (rB _) e0;obtain⟨r2,d2⟩:=Agn (Agr (by omega)) d1;have l2:=st _ _ _ _ l1 d1;rw[r1,mU];simp only;rw[dW (by decide),dX trivial,r2,mU];exact fin _ _ l2 d2
 |close hi=>rename_i id;have e0:s.drop 0=Lp 6++(Lp id++[]):=hs;obtain⟨r1,d1⟩:=Agn (Agr (by omega)) e0;have l1:=st _ _ _ _ (rB _) e0;obtain⟨r2,d2⟩:=Agn (Agr (by omega)) d1;have l2:=st _ _ _ _ l1 d1;rw[r1,mU];simp only;rw[dW (by decide),dW (by decide),dX trivial,r2,mU];exact fin _ _ l2 d2
 |opn hi=>rename_i id;have e0:s.drop 0=Lp 7++(Lp id++[]):=hs;obtain⟨r1,d1⟩:=Agn (Agr (by omega)) e0;have l1:=st _ _ _ _ (rB _) e0;obtain⟨r2,d2⟩:=Agn (Agr (by omega)) d1;have l2:=st _ _ _ _ l1 d1;rw[r1,mU];simp only;rw[dW (by decide),dW (by decide),dW (by decide),dX trivial,r2,mU];exact fin _ _ l2 d2
 |cut hi hj hd hx hy he=>rename_i id i k j;have e0:s.drop 0=Lp 3++(Lp id++(Lp i++(Lp k++(Lp j++[])))):=hs;obtain⟨r1,d1⟩:=Agn (Agr (by omega)) e0;have l1:=st _ _ _ _ (rB _) e0;obtain⟨r2,d2⟩:=Agn (Agr (by omega)) d1;have l2:=st _ _ _ _ l1 d1;obtain⟨r3,d3⟩:=Agn (Agr (by omega)) d2;have l3:=st _ _ _ _ l2 d2;obtain⟨r4,d4⟩:=Agn (Agr (by omega)) d3;have l4:=st _ _ _ _ l3 d3;obtain⟨r5,d5⟩:=Agn (Agr (by omega)) d4;have l5:=st _ _ _ _ l4 d4;rw[r1,mU];simp only;rw[dW (by decide),dW (by decide),dW (by decide),dW (by decide),dX trivial,r2,mU,r3,mU,r4,mU,r5,mU];exact fin _ _ l5 d5
 |move hi hx hy hd=>rename_i id x y;have e0:s.drop 0=Lp 4++(Lp id++(Lp x++(Lp y++[]))):=hs;obtain⟨r1,d1⟩:=Agn (Agr (by omega)) e0;have l1:=st _ _ _ _ (rB _) e0;obtain⟨r2,d2⟩:=Agn (Agr (by omega)) d1;have l2:=st _ _ _ _ l1 d1;obtain⟨r3,d3⟩:=Agn (Agr (by omega)) d2;have l3:=st _ _ _ _ l2 d2;obtain⟨r4,d4⟩:=Agn (Agr (by omega)) d3;have l4:=st _ _ _ _ l3 d3;rw[r1,mU];simp only;rw[dW (by decide),dW (by decide),dW (by decide),dW (by decide),dW (by decide),dX trivial,r2,mU,r3,mU,r4,mU];exact fin _ _ l4 d4
 |mark hm=>
  rename_i m;have ho:=S3.1 hm;obtain⟨m1,m2,m3,m4,o⟩:=m;simp only at ho;have e0:s.drop 0=Lp 5++(Lp m1++(Lp m2++(Lp m3++(Lp m4++(Lp (if o then 1 else 0)++[]))))):=hs;obtain⟨r1,d1⟩:=Agn (Agr (by omega)) e0;have l1:=st _ _ _ _ (rB _) e0;obtain⟨r2,d2⟩:=Agn (Agr (by omega)) d1;have l2:=st _ _ _ _ l1 d1;obtain⟨r3,d3⟩:=Agn (Agr (by omega)) d2;have l3:=st _ _ _ _ l2 d2;obtain⟨r4,d4⟩:=Agn (Agr (by omega)) d3;have l4:=st _ _ _ _ l3 d3;obtain⟨r5,d5⟩:=Agn (Agr (by omega)) d4;have l5:=st _ _ _ _ l4 d4;obtain⟨r6,d6⟩:=Agn (Agr (by cases o<;>simp)) d5;have l6:=st _ _ _ _ l5 d5;rw[r1,mU];simp only;rw[dW (by decide),dW (by decide),dW (by decide),dW (by decide),dW (by decide),dW (by decide),dX trivial,r2,mU,r3,mU,r4,mU,r5,mU,r6,mU];simp only;rw[dX (by cases o<;>simp)];have eo:decide ((if o=true then(1:Int)else 0)=1)=o:=by cases o<;>simp
  rw[eo];exact fin _ _ l6 d6
end
section
open Go
attribute [local irreducible] Ax BO BB Bj BC Bk AY BD BK Cq
end
section
open Go
attribute [local irreducible] Ax BO BB Bj BC Bk AY BD BK Cq
end
section
open Go
attribute [local irreducible] Ax BO BB Bj BC Bk AY BD BK Cq
def H5(N:Nat):Option Bool:=(Cu N 0).bind λ(r1,r2)=>(CZ N r1 r2 3 8 0 0 [] 0 0 3 0 2 0 0 0 0 false).bind λ((r4,r5),r6)=>(CZ N r1 r2 4 0 0 0 [] 0 0 3 5 0 0 0 0 0 false).bind λ((r8,r9),d7)=>(MX N r1 r2 4 0 0 0 [] 0 0 3 5 0 0 0 0 0 false).bind λ(dz,dw)=>(CZ N r1 r2 4 0 0 0 [] 0 0 3 (-1) 0 0 0 0 0 false).bind λ((e9,e8),du)=>(CZ N r1 r2 6 0 0 0 [] 0 0 1 0 0 0 0 0 0 false).bind λ((dt,r20),dq)=>(CZ N dt r20 6 0 0 0 [] 0 0 1 0 0 0 0 0 0 false).bind λ((eu,ej),dp)=>(CZ N r1 r2 2 0 0 0 [] 0 0 3 0 0 0 0 0 0 false).bind λ((r27,r28),dm)=>(MX N r1 r2 2 0 0 0 [] 0 0 3 0 0 0 0 0 0 false).bind λ(ei,dl)=>(CZ N r1 r2 5 0 0 0 [] 0 0 0 0 0 2 3 4 1 false).bind λ((eh,ee),dh)=>(ND N 4 0 0 0 [] 0 0 3 5 0 0 0 0 0 false).bind λ(ae,dg)=>(Nh N ae).bind λ((bh,(bg,bf,be,bb,ba,az),ay,aw,av,(au,aq,an,am,ak)),db)=>(Hb N r1 r2 [(4,(0,0,0,[],0,0),3,5,0,(0,0,0,0,false)),(6,(0,0,0,[],0,0),1,0,0,(0,0,0,0,false))]).bind λ((d9,r59),da,cz)=>(Kk N 5 0 0 0 [] 0 0 0 0 0 2 3 0 1 false).bind λ(cy,cu)=>bif ((((((((((decide (r6≠0))||(decide (d7≠0)))||(decide (du≠170)))||(decide (dq≠0)))||(decide (dp≠170)))||(decide (dm≠0)))||(decide (dh≠170)))||(decide (dg≠0)))||(decide (db≠0)))||(decide (cz≠0)))||(decide ((r4.length:Int)≠2))then(some false)else((HA N 0).bind λ(cr,aj,ai,d8,ah,af)=>(A7 r4 0).bind λ(x73,x74,x75,x76,x77,x78)=>(C2 N x73 x74 x75 x76 x77 x78 cr aj ai [(0,0),(4,0),(4,4)] ah af).bind λcq=>gd (cq=true)<|(A7 r4 1).bind λ(gM,pK,pV,x85,x86,x87)=>(C2 N gM pK pV x85 x86 x87 8 aj ai [(4,4),(0,4),(0,0)] ah af).bind λab=>gd ((ab&&(decide ((r5.length:Int)=0)))=true->((Cu N 5).isSome=true))<|gd ((ab&&(decide ((r5.length:Int)=0)))=true->((CG N r8 r9 (((Cu N 5).getD ([],[])).1) (((Cu N 5).getD ([],[])).2)).isSome=true))<|gd (((ab&&(decide ((r5.length:Int)=0)))&&((CG N r8 r9 (((Cu N 5).getD ([],[])).1) (((Cu N 5).getD ([],[])).2)).getD false))=true->(0<=0/\0<(r20.length:Int)))<|gd (dw=true)<|(Ie N dz [(4,(0,0,0,[],0,0),3,(-5),0,(0,0,0,0,false))]).bind λco=>gd ((decide (ae=[8,6,10,0]))=true->((FG N bh bg bf be bb ba az ay aw av au aq an am ak 4 0 0 0 [] 0 0 3 5 0 0 0 0 0 false).isSome=true))<|gd ((((((((((ab&&(decide ((r5.length:Int)=0)))&&((CG N r8 r9 (((Cu N 5).getD ([],[])).1) (((Cu N 5).getD ([],[])).2)).getD false))&&(!((r20.getD 0 (0,0,0,0,false)).2.2.2.2)))&&(decide ((r27.length:Int)=0)))&&(decide ((r28.length:Int)=0)))&&(co&&(!dl)))&&((decide (ae=[8,6,10,0]))&&((FG N bh bg bf be bb ba az ay aw av au aq an am ak 4 0 0 0 [] 0 0 3 5 0 0 0 0 0 false).getD false)))&&(decide (da=2)))&&(decide ((r59.length:Int)=1)))=true)<|(H0 N cy [3]).bind λcn=>gd (cn=true)<|(H0 N cu [2]).bind λaa=>gd (aa=true->((Dw N r1 r2).isSome=true))<|gd ((aa&&((Dw N r1 r2).getD false))=true->((Dw N [] r2).isSome=true))<|gd (((aa&&((Dw N r1 r2).getD false))&&(!((Dw N [] r2).getD false)))=true->((BF N 4 0 0 0 [] 0 0 3 5 0 0 0 0 0 false).isSome=true))<|gd ((((aa&&((Dw N r1 r2).getD false))&&(!((Dw N [] r2).getD false)))&&((BF N 4 0 0 0 [] 0 0 3 5 0 0 0 0 0 false).getD false))=true->((BF N 0 0 0 0 [] 0 0 0 0 0 0 0 0 0 false).isSome=true))<|some ((((aa&&((Dw N r1 r2).getD false))&&(!((Dw N [] r2).getD false)))&&((BF N 4 0 0 0 [] 0 0 3 5 0 0 0 0 0 false).getD false))&&(!((BF N 0 0 0 0 [] 0 0 0 0 0 0 0 0 0 false).getD false))))
@[go_sem] def s10(N:Nat):Spec:=p0<|pE<|pF (H5 N) false λr=>.b r
theorem Acu(N:Nat):AG Tryz.prog 10 (s10 N):=by
 refine Ar x10.ok<|Ad<|As λr h=>wx x10 (Ab (Acl N)<|Ab (MW N)<|Ab (AcO N)<|Ab (AcP N)<|Ab (AbZ N)<|Ab (pY N)<|Ab (AcN N)<|Ab (oE N)<|Ab (Zw N)<|Ab (oC N)<|Ab (Acr N)<|Ab (oG N)<|Ab (Ab9 N)<|Ab (ZG N)<|Ab (pX N)<|Aj) λ_ hS F=>?_
 dsimp only[x10,Ah,BW];unfold H5 at h;obtain⟨⟨r1,r2⟩,gc,h⟩:=un h;obtain⟨⟨⟨r4,r5⟩,r6⟩,fr,h⟩:=un h;obtain⟨⟨⟨r8,r9⟩,d7⟩,cj,h⟩:=un h;obtain⟨⟨dz,dw⟩,ci,h⟩:=un h;obtain⟨⟨⟨e9,e8⟩,du⟩,ce,h⟩:=un h;obtain⟨⟨⟨dt,r20⟩,dq⟩,b9,h⟩:=un h;obtain⟨⟨⟨eu,ej⟩,dp⟩,b7,h⟩:=un h;obtain⟨⟨⟨r27,r28⟩,dm⟩,bz,h⟩:=un h;obtain⟨⟨ei,dl⟩,bw,h⟩:=un h;obtain⟨⟨⟨eh,ee⟩,dh⟩,bv,h⟩:=un h;obtain⟨⟨ae,dg⟩,bu,h⟩:=un h;obtain⟨⟨⟨bh,⟨bg,bf,be,bb,ba,az⟩,ay,aw,av,⟨au,aq,an,am,ak⟩⟩,db⟩,br,h⟩:=un h;obtain⟨⟨⟨d9,r59⟩,da,cz⟩,bq,h⟩:=un h;obtain⟨⟨cy,cu⟩,bp,h⟩:=un h;replace F:=fc bp (fc bq (fc br (fc bu (fc bv (fc bw (fc bz (fc b7 (fc b9 (fc ce (fc ci (fc cj (fc fr (fc gc F)))))))))))));refine An hS F h (λ_ h=>?_) (λ_ h=>?_)
 ·exact Ai hS F h
 ·obtain⟨⟨cr,aj,ai,d8,ah,af⟩,bo,h⟩:=un h;obtain⟨⟨x73,x74,x75,x76,x77,x78⟩,cm,h⟩:=un h;obtain⟨gh,F⟩:=KQ 0 Au cm (fc bo F);obtain⟨cq,bn,fq,⟨gM,pK,pV,x85,x86,x87⟩,ck,h⟩:=un h;obtain⟨gg,F⟩:=KQ 1 Au ck (fc fq (fc bn F));obtain⟨ab,bm,gt,gr,gm,fj,co,bl,gj,fh,cn,bj,fg,aa,bi,gi,fp,fo,fm,h⟩:=un h;exact Ai hS (fc bi (fc fg (fc bj (fc fh (fc bl (fc fj (fc bm F))))))) h
end
theorem AbD:H5 2000=some true:=by decide+kernel
open Go
attribute [local irreducible] Ax BO BB Bj BC Bk AY BD BK Cq
def e_s(x:List UInt8):List AV:=[.v (.string (sB x))]
def d_s:List AV->List UInt8|[.v (.string a1)]=>(bL a1)|_=>[]
theorem AiC(R:List (List UInt8))(i:Nat):A6 (R.map e_s) [.v (.string (sB []))] i=e_s (R.getD i []):=by unfold A6;rw[cY,cY,nL];cases R[i]? <;>rfl
def R_s:Rw (List UInt8):=⟨1,e_s,d_s,[.v (.string (sB []))]⟩
def L_s(l:List (List UInt8)):AV:=.sl 1 false (l.map e_s) [.v (.string (sB []))]
def A_s(l:List (List UInt8)):AV:=.sl 1 true (l.map e_s) [.v (.string (sB []))]
attribute [go_sem] R_s L_s A_s e_s d_s AiC
def Af8(N:Nat)(r604:List (Int×(Int×Int×Int×(List (Int×Int))×Int×Int)×Int×Int×Int×(Int×Int×Int×Int×Bool))):Nat->(List UInt8)->Int->Option (Sum ((List UInt8)) Bool)|0,_,_=>none|n+1,af,ai=>bif decide (ai<(r604.length:Int))then((A7 r604 ai).bind λ(bg,(bf,be,bb,ba,az,ay),aw,av,au,(aq,an,am,ak,aj))=>(ND N bg bf be bb ba az ay aw av au aq an am ak aj).bind λ(r663,dw)=>(Nh N r663).bind λ((du,(dt,dq,dp,dm,dl,dh),dg,db,da,(cz,cy,cu,cr,cq)),co)=>gd ((!((decide (dw≠0))||(decide (co≠0))))=true->((FG N du dt dq dp dm dl dh dg db da cz cy cu cr cq bg bf be bb ba az ay aw av au aq an am ak aj).isSome=true))<|bif (((decide (dw≠0))||(decide (co≠0)))||(!((FG N du dt dq dp dm dl dh dg db da cz cy cu cr cq bg bf be bb ba az ay aw av au aq an am ak aj).getD false)))||(decide ((r663.length:Int)=0))then(some (.inr false))else(gd (Af (ai+1))<|Af8 N r604 n r663 (ai+1)))else(some (.inl af))
def Adp(N:Nat)(text599:List UInt8)(last687:List UInt8)(r690:Int)(c601:Int):Nat->Int->Option (Sum Unit Bool)|0,_=>none|n+1,x714=>bif decide (x714<3)then((A7 [text599.take (min (text599.length:Int) 40).toNat,((last687.take r690.toNat)++[UInt8.ofNat c601.toNat])++(last687.drop (r690+1).toNat),last687.take r690.toNat] x714).bind λah=>(Nh N ah).bind λ((ci,(ce,b9,b7,bz,bw,bv),bu,br,bq,(bp,bo,bn,bm,bl)),ee)=>bif decide (ee≠0)then(gd (Af (x714+1))<|Adp N text599 last687 r690 c601 n (x714+1))else((ND N ci ce b9 b7 bz bw bv bu br bq bp bo bn bm bl).bind λ(cn,cm)=>gd ((!((decide (cm≠0))||(!decide (cn=ah))))=true->((BF N ci ce b9 b7 bz bw bv bu br bq bp bo bn bm bl).isSome=true))<|bif ((decide (cm≠0))||(!decide (cn=ah)))||(!((BF N ci ce b9 b7 bz bw bv bu br bq bp bo bn bm bl).getD false))then(some (.inr false))else(gd (Af (x714+1))<|Adp N text599 last687 r690 c601 n (x714+1))))else(some (.inl ()))
def Ago(N:Nat)(bj:List (Int×Int×Int×Int×Int×Int))(bi:List (Int×Int×Int×Int))(bh:List (Int×Int×Int×Int×Int×Int))(text599:List UInt8)(ae:Int)(c601:Int):Option Bool:=(H5 N).bind λeh=>bif !eh then(some false)else((GA N bj bi bh).bind λ(r604,gc)=>(Af8 N r604 N [4,6] 0).bind λd7=>match d7 with|.inl last687=>((Gz N ae (last687.length:Int)).bind λr690=>gd (0<=min (text599.length:Int) 40/\min (text599.length:Int) 40<=(text599.length:Int))<|gd (0<=r690/\r690<=(last687.length:Int))<|gd (((last687.take r690.toNat)++[UInt8.ofNat c601.toNat]).length<=140737488355328)<|gd (Af (r690+1))<|gd (0<=r690+1/\r690+1<=(last687.length:Int))<|gd ((((last687.take r690.toNat)++[UInt8.ofNat c601.toNat])++(last687.drop (r690+1).toNat)).length<=140737488355328)<|gd (0<=r690/\r690<=(last687.length:Int))<|(Adp N text599 last687 r690 c601 N 0).bind λdz=>match dz with|.inl ()=>(some true)|.inr fq=>(some fq))|.inr fr=>(some fr))
theorem Ahj(N:Nat)(bj:List (Int×Int×Int×Int×Int×Int))(bi:List (Int×Int×Int×Int))(bh:List (Int×Int×Int×Int×Int×Int))(text599:List UInt8)(ae:Int)(c601:Int)(r:Bool)(h:Ago N bj bi bh text599 ae c601=some r):PCall Tryz.prog 8 [.agg [GS bj,Ov bi,GS bh],.v (.string (sB text599)),.i ae,.v (.int .u8 c601)] (.b r):=by
 refine wx x8 (Ab (Acu N)<|Ab (Aco N)<|Ab (AcP N)<|Ab (AbZ N)<|Ab (oG N)<|Ab (Acj N)<|Ab (pX N)<|Aj) λ_ hS F=>?_
 dsimp only[x8,Ah,BW];unfold Ago at h;obtain⟨eh,fh,h⟩:=un h;replace F:=fc fh F;refine An hS F h (λ_ h=>?_) (λ_ h=>?_)
 ·exact Ai hS F h
 ·obtain⟨⟨r604,gc⟩,fg,h⟩:=un h;replace F:=fc fg F;obtain⟨d7,gw,h⟩:=un h;refine go hS F ?_;refine Bz d7 (λz:(List UInt8)×Nat=>⟨[(1,.v (.string (sB text599))),(2,.i ae),(3,.v (.int .u8 c601)),(11,.v (.string (sB z.1)))],[],z.2⟩) (λz=>(.inl z.1:Sum ((List UInt8)) Bool)) (.x 0) ?_ ?_
  ·refine Bp (λn (y:(List UInt8)×Int×Nat)=>Af8 N r604 n y.1 y.2.1) (λy=>⟨[(1,.v (.string (sB text599))),(2,.i ae),(3,.v (.int .u8 c601)),(9,Ay r604),(11,.v (.string (sB y.1))),(12,.i y.2.1)],[],y.2.2⟩) ([4,6],0,5) gw (Ch F) ?_;rintro n ⟨af,ai,fp⟩ ab;simp only[Af8]at ab;refine An hS F ab (λ_ ab=>?_) (λ_ ab=>?_)
   ·obtain⟨⟨bg,⟨bf,be,bb,ba,az,ay⟩,aw,av,au,⟨aq,an,am,ak,aj⟩⟩,fm,ab⟩:=un ab;obtain⟨gi,F⟩:=Cb AB fm F;obtain⟨⟨r663,dw⟩,e9,ab⟩:=un ab;obtain⟨⟨⟨du,⟨dt,dq,dp,dm,dl,dh⟩,dg,db,da,⟨cz,cy,cu,cr,cq⟩⟩,co⟩,e8,ab⟩:=un ab;obtain⟨ic,ab⟩:=un ab;replace F:=fc e8 (fc e9 F);refine An hS F ab (λ_ ab=>?_) (λ_ ab=>?_)
    ·obtain rfl:=yJ ab;exact Ai hS F h
    ·obtain⟨ib,ab⟩:=un ab;exact Cd hS F (n,r663,ai+1,fp+1+1+1+1+1+1) ab
   ·exact B4 hS F (af,fp+1) ab
  ·rintro⟨last687,d9⟩ rfl;obtain⟨r690,eu,g9,g8,gm,gj,gz,gg,gv,h⟩:=un h;replace F:=fc eu F;obtain⟨dz,gh,h⟩:=un h;have kB:PF [AV.v (Value.int IntKind.u8 c601)]=true:=rfl;have k7:(List.take r690.toNat last687).length<=140737488355327:=by have:=gm;rw[fN]at this;simp only[mV,t8]at this;omega
   have gy:(List.take r690.toNat last687).length+1+(List.drop (r690+1).toNat last687).length<=140737488355328:=by have:=gg;simp only[fN,mV,t8]at this;omega
   obtain⟨k8,k8'⟩:=gj;have hrow:OL [AV.v (Value.int IntKind.u8 c601)]=UInt8.ofNat c601.toNat:=rfl;replace F:=fc hrow F;refine go hS F ?_;refine Bz dz (λz:Nat=>⟨[],[],z⟩) (λz=>(.inl ():Sum Unit Bool)) (.x 2) ?_ ?_
   ·refine Bp (λn (y:Int×Nat)=>Adp N text599 last687 r690 c601 n y.1) (λy=>⟨[(95,.own (1420,d9+1+1) [text599.take (min (text599.length:Int) 40).toNat,((last687.take r690.toNat)++[UInt8.ofNat c601.toNat])++(last687.drop (r690+1).toNat),last687.take r690.toNat].length),(96,.i 3),(97,.i y.1)],[(.a (1420,d9+1+1),A_s [text599.take (min (text599.length:Int) 40).toNat,((last687.take r690.toNat)++[UInt8.ofNat c601.toNat])++(last687.drop (r690+1).toNat),last687.take r690.toNat])],y.2⟩) (0,d9+1+1) gh (Ch F) ?_;rintro n ⟨x714,d8⟩ aa;simp only[Adp]at aa;refine An hS F aa (λ_ aa=>?_) (λ_ aa=>?_)
    ·obtain⟨ah,ck,⟨⟨ci,⟨ce,b9,b7,bz,bw,bv⟩,bu,br,bq,⟨bp,bo,bn,bm,bl⟩⟩,ee⟩,ej,aa⟩:=un aa;have cj:[text599.take (min (text599.length:Int) 40).toNat,((last687.take r690.toNat)++[UInt8.ofNat c601.toNat])++(last687.drop (r690+1).toNat),last687.take r690.toNat].getD x714.toNat []=ah:=ixs ck _;have fj:A6 [[.v (.string (sB (text599.take (min (text599.length:Int) 40).toNat)))],[.v (.string (sB (((last687.take r690.toNat)++[UInt8.ofNat c601.toNat])++(last687.drop (r690+1).toNat))))],[.v (.string (sB (last687.take r690.toNat)))]] [.v (.string (sB []))] x714.toNat=[.v (.string (sB ah))]:=by have hq:=AiC [text599.take (min (text599.length:Int) 40).toNat,((last687.take r690.toNat)++[UInt8.ofNat c601.toNat])++(last687.drop (r690+1).toNat),last687.take r690.toNat] x714.toNat;rw[cj]at hq;exact hq
     have fo:=(Ng ck).1;try simp only[mV,t8]at fo
     replace F:=fc ej (fc fj (fc cj F));refine An hS F aa (λ_ aa=>?_) (λ_ aa=>?_)
     ·obtain⟨gu,aa⟩:=un aa;exact Cd hS F (n,x714+1,d8+1+1+1+1+1) aa
     ·obtain⟨⟨cn,cm⟩,ei,aa⟩:=un aa;obtain⟨gt,aa⟩:=un aa;replace F:=fc ei F;refine An hS F aa (λ_ aa=>?_) (λ_ aa=>?_)
      ·obtain rfl:=yJ aa;exact Ai hS F h
      ·obtain⟨gr,aa⟩:=un aa;exact Cd hS F (n,x714+1,d8+1+1+1+1+1+1+1) aa
    ·exact B4 hS F (d8+1) aa
   ·rintro gx rfl;exact Ai hS F h
