import Derived.Test.YtjdchfljifacoaaGreatDoorMH
set_option linter.all false
namespace Go.Proofs.YtjdchfljifacoaaGreatDoor.Am
theorem Q9{P:List Pt}(hb:∀p∈P,CN p)(f:Pt):∀(n:Nat)(o:Pt)(out:List Pt),HGood P f o out->P.length<n+out.length->∃r:List Pt,0<r.length/\(∀p∈r,p∈P)/\((∃o,∀p∈P,p=o)\/∀i,i<r.length->Edge P (pa r i) (pa r ((i+1)%r.length)))
 |0,o,out,h,hn=>by have:=Sx out P h.nd h.sub;omega
 |n+1,o,out,h,hn=>by
  have hl:=h.len;have ho:o∈out:=by rw[<-h.lst];exact B4 (by omega)
  rcases dW (h.sub o ho) (h.ext o ho)with⟨h1,h2⟩|hE
  ·exact⟨out,hl,h.sub,.inl ⟨o,h2⟩⟩
  ·by_cases hf:JJ o P=f
   ·refine⟨out,hl,h.sub,.inr λi hi=>?_⟩;by_cases hc:i+1<out.length
    ·rw[A13 hc];exact h.edge i hc
    ·have e:i+1=out.length:=by omega
     have e2:i=out.length-1:=by omega
     rw[e,Nat.mod_self,h.hd,e2,h.lst,<-hf];exact hE
   ·have hno:JJ o P∉out:=λhm=>by
     obtain⟨j,hj,e⟩:=NA hm;have j0:j≠0:=by grind[h.hd]
     have hEj:=h.edge (j-1) (by omega);rw[show j-1+1=j by omega,e]at hEj;have:=Edge.pred hE hEj;rw[<-h.lst]at this;have:=vD h.nd (by omega) (by omega) this;omega
    refine Q9 hb f n (JJ o P) (out++[JJ o P]) ⟨by simp,by rw[MK hl,h.hd],?_,?_,?_,?_,?_⟩ (by simp;omega)
    ·simp[pa]
    ·grind[h.nd]
    ·intro p hp;rcases y7.1 hp with hp|hp
     ·exact h.sub p hp
     ·simp at hp;rw[hp];exact hE.mw
    ·intro p hp;rcases y7.1 hp with hp|hp
     ·exact h.ext p hp
     ·simp at hp;rw[hp];exact hE.ext hb
    ·intro i hi;rw[w9,List.length_singleton]at hi;by_cases hc:i+1<out.length
     ·rw[MK (by omega),MK hc];exact h.edge i hc
     ·have e2:i=out.length-1:=by omega
      rw[MK (by omega),Wv (by omega) (by omega),e2,h.lst];rw[show out.length-1+1-out.length=0 by omega];exact hE
theorem eN{P:List Pt}(hb:∀p∈P,CN p)(h0:P≠[]):∃r:List Pt,0<r.length/\(∀p∈r,p∈P)/\((∃o,∀p∈P,p=o)\/∀i,i<r.length->Edge P (pa r i) (pa r ((i+1)%r.length))):=by
 obtain⟨p0,P',rfl⟩:∃p0 P',P=p0::P':=by cases P<;>grind
 obtain⟨h1,h2⟩:=Uq (p0::P') p0;have hm:Oq p0 (p0::P')∈p0::P':=by grind
 have hx:=nE hb hm (by grind);exact Q9 hb _ ((p0::P').length) _ [Oq p0 (p0::P')] (dX hm hx) (by simp)
theorem eR{b:List Pt}(h:VP b){P Q:Pt}(hne:P≠Q)(hs:∀q∈b,Aw P Q q<=0){x y:Nat}(hxy:x<y)(hy:y<b.length)(ex:Aw P Q (pa b x)=0)(ey:Aw P Q (pa b y)=0):∃t,t<b.length/\Aw P Q (pa b t)=0/\Aw P Q (pa b ((t+1)%b.length))=0:=by
 have hn:0<b.length:=by omega
 by_cases adj:y=x+1
 ·grind[A13]
 by_cases adj2:x=0/\y+1=b.length
 ·grind[Nat.mod_self]
 have t1:=LM h.cv x 1 (by omega) (y-x-2) (by omega);rw[show x+(1+(y-x-2)+1)=y by omega,Il hy,Il (by omega)]at t1;obtain⟨w,hw1,hw2⟩:∃w,y-x<w/\w<b.length:=⟨y-x+1,by omega,by omega⟩
 have t2:=LM h.cv x (y-x) (by omega) (w-(y-x)-1) (by omega);rw[show x+(y-x+(w-(y-x)-1)+1)=x+w by omega,show x+(y-x)=y by omega,Il hy,Il (by omega)]at t2;have r1:=Q8 P Q (pa b x) (pa b y) (qa b (x+1)) ex ey;have r2:=Q8 P Q (pa b x) (pa b y) (qa b (x+w)) ex ey;have D:=ZK hne;have k1:=hs _ (Uy hn (x+1));have k2:=hs _ (Uy hn (x+w));have e1:Aw (pa b x) (pa b y) (qa b (x+1))= -Aw (pa b x) (qa b (x+1)) (pa b y):=by unfold Aw;grind
 rw[e1]at r1;generalize dd P Q (pa b y)-dd P Q (pa b x)=s at*;generalize Aw P Q (qa b (x+1))=f1 at*;generalize Aw P Q (qa b (x+w))=f2 at*;have m1:=A35 t1 D;have m2:=A35 t2 D;have m3:f1*s<0:=by rw[<-r1,Int.neg_mul];omega
 rcases A41 0 s with q|q
 ·have:=z8 (show 0<=-f2 by omega) (A29 q);rw[Int.neg_mul]at this;omega
 ·have:=z8 (show 0<=-f1 by omega) (show 0<=-s by omega);rw[Int.neg_mul_neg]at this;omega
theorem UH{a b:List Pt}(hb:VP b){P Q:Pt}(hne:P≠Q)(hs:∀q∈b,Aw P Q q<=0)(ha:∀q∈a,0<=Aw P Q q){u v:Pt}(hu:u∈b)(hv:v∈b)(huv:u≠v)(zu:Aw P Q u=0)(zv:Aw P Q v=0):∃t,t<b.length/\NQ b t a:=by
 obtain⟨x,hx,rfl⟩:=NA hu;obtain⟨y,hy,rfl⟩:=NA hv;have hxy:x≠y:=by grind
 obtain⟨t,ht,e1,e2⟩:∃t,t<b.length/\Aw P Q (pa b t)=0/\Aw P Q (pa b ((t+1)%b.length))=0:=by
  rcases Nat.lt_or_gt_of_ne hxy with q|q
  all_goals grind[eR]
 refine⟨t,ht,λq hq=>?_⟩;have D:=ZK hne;obtain⟨y',hy',py⟩:=RN hb ht;have r1:=Q8 P Q _ _ y' e1 e2;have r2:=Q8 P Q _ _ q e1 e2;have k1:=hs y' hy';have k2:=ha q hq;unfold α at py⊢;generalize dd P Q (pa b ((t+1)%b.length))-dd P Q (pa b t)=s at*;have m1:=A35 py D;have sneg:s<0:=by
  rcases A41 s 0 with c|c
  ·exact c
  ·have:=z8 (show 0<=-Aw P Q y' by omega) c;rw[Int.neg_mul]at this;omega
 have m2:=z8 k2 (show 0<=-s by omega);rw[Int.mul_neg]at m2;rcases A41 0 (Aw (pa b t) (pa b ((t+1)%b.length)) q)with c|c
 ·have:=A35 c D;omega
 ·exact c
def EF(p q:Pt):Pt:=(p.1-q.1,p.2-q.2)
def Ra(a b:List Pt):List Pt:=b.flatMap λq=>a.map λp=>EF q p
theorem GC{a b:List Pt}{d:Pt}:d∈Ra a b↔∃q∈b,∃p∈a,d=EF q p:=by unfold Ra;grind
def CR(a b:Pt):Int:=a.1*b.2-a.2*b.1
theorem XM{a b:List Pt}(ha:VP a)(hb:VP b){v w:Pt}(hE:Edge (Ra a b) v w)(h0:CR v w<=0):apart a b:=by
 obtain⟨q1,hq1,p1,hp1,rfl⟩:=GC.1 hE.mv;obtain⟨q2,hq2,p2,hp2,rfl⟩:=GC.1 hE.mw;have hl:=λq hq p hp=>hE.left (EF q p) (GC.2 ⟨q,hq,p,hp,rfl⟩)
 have ne:=hE.ne;obtain⟨Z,hτ⟩:∃Z:Pt,Z=EF (EF q2 p2) (EF q1 p1):=⟨_,rfl⟩
 have lin1:∀q p,Aw (EF q1 p1) (EF q2 p2) (EF q p)=(CR Z q-CR Z p)-(CR Z q1-CR Z p1):=by grind[Aw,EF,CR]
 have z2:CR Z q2-CR Z p2=CR Z q1-CR Z p1:=by rw[hτ];unfold EF CR;grind
 have z0:CR (EF q1 p1) (EF q2 p2)= -(CR Z q1-CR Z p1):=by rw[hτ];unfold EF CR;grind
 have τne:Z≠(0,0):=λe=>by grind[EF]
 have b1:∀q∈b,CR Z q1<=CR Z q:=by grind
 have a1:∀p∈a,CR Z p<=CR Z p1:=by grind
 have sh:∀x y,Aw x (x.1+Z.1,x.2+Z.2) y=CR Z y-CR Z x:=by grind[Aw,CR]
 have sh2:∀x y,Aw (x.1+Z.1,x.2+Z.2) x y=CR Z x-CR Z y:=by grind[Aw,CR]
 have shne:∀x,x≠(x.1+Z.1,x.2+Z.2):=by grind
 by_cases hq:q1=q2
 ·have hp:p1≠p2:=by grind
  left;refine UH ha (shne p1) (λp hp=>?_) (λq hq=>?_) hp1 hp2 hp ?_ ?_
  ·rw[sh];have:=a1 p hp;omega
  ·rw[sh];have:=b1 q hq;omega
  all_goals grind
 ·right;refine UH hb (Ne.symm (shne q1)) (λq hq=>?_) (λp hp=>?_) hq1 hq2 hq ?_ ?_
  ·rw[sh2];have:=b1 q hq;omega
  ·rw[sh2];have:=a1 p hp;omega
  all_goals grind
theorem AcO{n:Nat}{v:Nat->Pt}(hn:0<n)(per:∀t,v (t+n)=v t)(h:∀t,0<CR (v t) (v (t+1)))(e:Pt)(he:e≠(0,0)):∃t,0<=CR (v t) e/\0<=CR e (v (t+1)):=by
 by_cases hex:∃t,0<=CR (v t) e/\0<=CR e (v (t+1))
 ·exact hex
 exfalso;have h0:∀t,0<Aw (v t) (v (t+1)) (0,0):=by grind[Aw,CR]
 have sw:∀x,CR e x= -CR x e:=λx=>by unfold CR;grind
 by_cases hs:∃t,0<=CR (v t) e
 ·obtain⟨m,hm⟩:=hs;have all:∀k,0<CR (v (m+1+k)) e:=by intro k;induction k<;>grind
  refine RL (v:=λt=>v (m+1+t)) hn (by grind) (p:=(0,0)) (g:=(e.2,-e.1)) (by grind) (λq=>he ?_) λt=>?_
  ·grind
  grind[CR,ES]
 ·refine RL hn per (g:=(-e.2,e.1)) h0 (λq=>he ?_) λt=>?_
  ·grind
  ·grind[CR,ES]
abbrev B5:=Int×Int×Int
def Bo(L P:B5):Int:=L.1*P.1+L.2.1*P.2.1+L.2.2*P.2.2
def dv(L:B5)(d:Pt):Int:=L.1*d.1+L.2.1*d.2
def Hq(p q:Pt):B5:=(p.2-q.2,q.1-p.1,(q.2-p.2)*p.1-(q.1-p.1)*p.2)
def DE(l:List Pt)(i:Nat):B5:=Hq (pa l i) (pa l ((i+1)%l.length))
def A3(l:List Pt):List B5:=(List.range l.length).map (DE l)
theorem G7{l:List Pt}{L:B5}:L∈A3 l↔∃i,i<l.length/\L=DE l i:=by unfold A3;grind
theorem Jr(l:List Pt)(i:Nat)(p:Pt):Bo (DE l i) (p.1,p.2,1)=α l i p:=by grind[Bo,DE,Hq,α,Aw]
def OG(r:Int)(P:B5)(s:Int)(d:Pt):B5:=(r*P.1+s*d.1,r*P.2.1+s*d.2,r*P.2.2)
theorem LN(L P:B5)(r s:Int)(d:Pt):Bo L (OG r P s d)=r*Bo L P+s*dv L d:=by unfold Bo OG dv;grind
def UI(P Q:B5):B5:=(P.1+Q.1,P.2.1+Q.2.1,P.2.2+Q.2.2)
theorem ZL(L P Q:B5):Bo L (UI P Q)=Bo L P+Bo L Q:=by unfold Bo UI;grind
def Ip(Ls:List B5)(P:B5):Prop:=0<P.2.2/\∀L∈Ls,0<=Bo L P
theorem PJ(P:B5)(d:Pt):∀(Ls:List B5),(∃L∈Ls,dv L d<0)->∃L∈Ls,dv L d<0/\∀M∈Ls,dv M d<0->Bo L P*(-dv M d)<=Bo M P*(-dv L d)
 |[],h=>by grind
 |A::Ls,h=>by
  by_cases hr:∃L∈Ls,dv L d<0
  ·obtain⟨L,hL,h1,h2⟩:=PJ P d Ls hr;by_cases hA:dv A d<0
   ·by_cases hc:Bo L P*(-dv A d)<=Bo A P*(-dv L d)
    ·grind
    ·refine⟨A,by simp,hA,λM hM hd=>?_⟩;rcases y6.1 hM with rfl|hM
     ·exact Int.le_refl _
     ·have k:=h2 M hM hd;generalize Bo L P=x at*;generalize Bo A P=y at*;generalize Bo M P=z at*;generalize hl: -dv L d=l at*;generalize ha: -dv A d=a at*;generalize hm: -dv M d=m at*;have lp:0<l:=by omega
      have ap:0<a:=by omega
      have mp:0<m:=by omega
      have k1:0<=m*(x*a-y*l):=z8 (A29 mp) (by omega);have k2:0<=a*(z*l-x*m):=z8 (A29 ap) (by omega);have k3:l*(z*a-y*m)=m*(x*a-y*l)+a*(z*l-x*m):=by grind
      have:=IY lp (b:=z*a-y*m) (by omega);omega
   grind
  grind
theorem ray{Ls:List B5}{P:B5}(hP:Ip Ls P)(d:Pt)(hd:∃L∈Ls,dv L d<0):∃r s L,L∈Ls/\0<r/\0<=s/\Ip Ls (OG r P s d)/\dv L d<0/\Bo L (OG r P s d)=0/\s=Bo L P:=by
 obtain⟨L,hL,h1,h2⟩:=PJ P d Ls hd;have e0:=hP.2 L hL;refine⟨-dv L d,Bo L P,L,hL,by omega,e0,⟨A35 (by omega) hP.1,λM hM=>?_⟩,h1,?_,rfl⟩
 ·rw[LN];have eM:=hP.2 M hM;by_cases hd:dv M d<0
  ·have:=h2 M hM hd;rw[Int.mul_neg]at this;rw[Int.mul_comm (-dv L d)];omega
  ·have k1:=z8 (show 0<=-dv L d by omega) eM;have k2:=z8 e0 (show 0<=dv M d by omega);omega
 grind[LN]
theorem nY{l:List Pt}(h:VP l){d:Pt}(hd:d≠(0,0)):∃L∈A3 l,dv L d<0:=by
 have l3:=h.l3;have hn:0<l.length:=by omega
 by_cases hex:∃L∈A3 l,dv L d<0
 ·exact hex
 have nn:∀t,CR (qa l t) d<=CR (qa l (t+1)) d:=λt=>by
  have hm:=G7.2 ⟨t%l.length,A17 _ hn,rfl⟩;have:¬dv (DE l (t%l.length)) d<0:=by grind
  have e:dv (DE l (t%l.length)) d=CR (qa l (t+1)) d-CR (qa l t) d:=by
   have q:pa l ((t%l.length+1)%l.length)=qa l (t+1):=by unfold qa;rw[A51]
   unfold DE;rw[q,show pa l (t%l.length)=qa l t from rfl];unfold dv Hq CR;grind
  omega
 have up:∀k t,CR (qa l t) d<=CR (qa l (t+k)) d:=by intro k;induction k<;>grind
 have c1:CR (qa l 0) d=CR (qa l 1) d:=by have a1:=nn 0;have a2:=up (l.length-1) 1;rw[show 1+(l.length-1)=0+l.length by omega,H0]at a2;have a1:CR (qa l 0) d<=CR (qa l 1) d:=a1;omega
 have c2:CR (qa l 1) d=CR (qa l 2) d:=by have a1:CR (qa l 1) d<=CR (qa l 2) d:=nn 1;have a2:=up (l.length-2) 2;rw[show 2+(l.length-2)=0+l.length by omega,H0]at a2;omega
 have c:=Iw h.cv (s:=0) (a:=2) (by omega) (by omega);have z1:d.1*Aw (qa l 0) (qa l 1) (qa l 2)=0:=by unfold Aw;unfold CR at c1 c2;grind
 have z2:d.2*Aw (qa l 0) (qa l 1) (qa l 2)=0:=by unfold Aw;unfold CR at c1 c2;grind
 grind[A40]
theorem OH{a b:List Pt}(ha:VP a)(hb:VP b)(hap:¬apart a b){p q:Pt}(hp:p∈a)(hq:q∈b):∃P k,0<k/\Ip (A3 a++A3 b) P/\(∀i,i<a.length->k*α a i p<=Bo (DE a i) P)/\∀j,j<b.length->k*α b j q<=Bo (DE b j) P:=by
 have a3:=ha.l3;have good:∀P,0<P.2.2->(∀i,i<a.length->0<=Bo (DE a i) P)->(∀j,j<b.length->0<=Bo (DE b j) P)->Ip (A3 a++A3 b) P:=λP h1 h2 h3=>by refine⟨h1,λL hL=>?_⟩;grind[G7]
 by_cases hd:EF q p=(0,0)
 ·have e:q=p:=by unfold EF at hd;grind
  refine⟨(q.1,q.2,1),1,by omega,good _ (by simp only;omega) (λi hi=>?_) (λj hj=>?_),λi hi=>?_,λj hj=>?_⟩;all_goals simp_all[Jr,OF]
 have sm:∀d∈Ra a b,CN d:=λd hd=>by obtain⟨q,hq,p,hp,rfl⟩:=GC.1 hd;have h1:=ha.on p hp;have h2:=hb.on q hq;grind[On,CN,EF]
 have m0:=GC.2 ⟨q,hq,p,hp,rfl⟩;obtain⟨r,r0,rs,rE⟩:=eN sm (by grind);have rE:∀i,i<r.length->Edge (Ra a b) (pa r i) (pa r ((i+1)%r.length)):=by
  rcases rE with⟨o,ho⟩|h
  ·have e1:=ho _ (GC.2 ⟨q,hq,pa a 0,B4 (by omega),rfl⟩);have e2:=ho _ (GC.2 ⟨q,hq,pa a 1,B4 (by omega),rfl⟩);have e3:=e1.trans e2.symm;unfold EF at e3;have:=ha.ne (show 0<a.length by omega);rw[A13 (by omega)]at this;grind
  ·exact h
 have pos:∀t,0<CR (pa r (t%r.length)) (pa r ((t+1)%r.length)):=λt=>by have hE:=rE (t%r.length) (A17 _ r0);rw[A51]at hE;all_goals grind[XM]
 obtain⟨t,k1,k2⟩:=AcO r0 (by simp_all) pos (-(EF q p).1,-(EF q p).2) (by grind);have k0:=pos t;obtain⟨q1,hq1,p1,hp1,e1⟩:=GC.1 (rs _ (B4 (A17 t r0)));obtain⟨q2,hq2,p2,hp2,e2⟩:=GC.1 (rs _ (B4 (A17 (t+1) r0)));rw[e1]at k0 k1;rw[e2]at k0 k2;obtain⟨E,hα⟩:∃E,E=CR (EF q1 p1) (EF q2 p2):=⟨_,rfl⟩
 obtain⟨J,hβ⟩:∃J,J=CR (-(EF q p).1,-(EF q p).2) (EF q2 p2):=⟨_,rfl⟩
 obtain⟨γ,hγ⟩:∃γ,γ=CR (EF q1 p1) (-(EF q p).1,-(EF q p).2):=⟨_,rfl⟩
 rw[<-hα]at k0;rw[<-hβ]at k2;rw[<-hγ]at k1;have x1:E*(q.1-p.1)+J*(q1.1-p1.1)+γ*(q2.1-p2.1)=0:=by rw[hα,hβ,hγ];unfold CR EF;grind
 have x2:E*(q.2-p.2)+J*(q1.2-p1.2)+γ*(q2.2-p2.2)=0:=by rw[hα,hβ,hγ];unfold CR EF;grind
 have ea:∀i,Bo (DE a i) (E*p.1+J*p1.1+γ*p2.1,E*p.2+J*p1.2+γ*p2.2,E+J+γ)=E*α a i p+J*α a i p1+γ*α a i p2:=λi=>by rw[<-Jr,<-Jr,<-Jr];unfold Bo;grind
 have eb:∀j,Bo (DE b j) (E*p.1+J*p1.1+γ*p2.1,E*p.2+J*p1.2+γ*p2.2,E+J+γ)=E*α b j q+J*α b j q1+γ*α b j q2:=λj=>by
  have f1:E*p.1+J*p1.1+γ*p2.1=E*q.1+J*q1.1+γ*q2.1:=by grind
  have f2:E*p.2+J*p1.2+γ*p2.2=E*q.2+J*q1.2+γ*q2.2:=by grind
  rw[f1,f2,<-Jr,<-Jr,<-Jr];unfold Bo;grind
 have na:∀i,i<a.length->E*α a i p<=Bo (DE a i) (E*p.1+J*p1.1+γ*p2.1,E*p.2+J*p1.2+γ*p2.2,E+J+γ):=λi hi=>by rw[ea];have:=z8 k2 (OF ha hi hp1);have:=z8 k1 (OF ha hi hp2);omega
 have nb':∀j,j<b.length->E*α b j q<=Bo (DE b j) (E*p.1+J*p1.1+γ*p2.1,E*p.2+J*p1.2+γ*p2.2,E+J+γ):=λj hj=>by rw[eb];have:=z8 k2 (OF hb hj hq1);have:=z8 k1 (OF hb hj hq2);omega
 refine⟨_,E,k0,good _ (by simp;omega) (λi hi=>?_) (λj hj=>?_),na,nb'⟩
 ·have:=na i hi;have:=z8 (A29 k0) (OF ha hi hp);omega
 ·have:=nb' j hj;have:=z8 (A29 k0) (OF hb hj hq);omega
theorem nZ{Ls:List B5}{P Q:B5}(h1:Ip Ls P)(h2:Ip Ls Q):Ip Ls (UI P Q):=⟨by have:=h1.1;have:=h2.1;unfold UI;simp;omega,λL hL=>by rw[ZL];have:=h1.2 L hL;have:=h2.2 L hL;omega⟩
theorem XN{a b:List Pt}(ha:VP a)(hb:VP b)(hap:¬apart a b):∃P:B5,0<P.2.2/\∀L∈A3 a++A3 b,0<Bo L P:=by
 have a3:=ha.l3;have b3:=hb.l3;have one:∀L∈A3 a++A3 b,∃P,Ip (A3 a++A3 b) P/\0<Bo L P:=λL hL=>by
  rcases y7.1 hL with h|h
  ·obtain⟨i,hi,rfl⟩:=G7.1 h;obtain⟨x,hx,px⟩:=RN ha hi;obtain⟨P,k,kp,hP,h1,_⟩:=OH ha hb hap hx (B4 (show 0<b.length by omega));have:=h1 i hi;have:=A35 kp px;exact⟨P,hP,by omega⟩
  ·obtain⟨i,hi,rfl⟩:=G7.1 h;obtain⟨x,hx,px⟩:=RN hb hi;obtain⟨P,k,kp,hP,_,h1⟩:=OH ha hb hap (B4 (show 0<a.length by omega)) hx;have:=h1 i hi;have:=A35 kp px;exact⟨P,hP,by omega⟩
 have many:∀Ms:List B5,(∀L∈Ms,L∈A3 a++A3 b)->∃P,Ip (A3 a++A3 b) P/\∀L∈Ms,0<Bo L P:=by
  intro Ms;induction Ms with
  |nil=>intro _;obtain⟨P,_,_,hP,_,_⟩:=OH ha hb hap (B4 (show 0<a.length by omega)) (B4 (show 0<b.length by omega));exact⟨P,hP,by simp⟩
  |cons M Ms ih=>
   intro h;obtain⟨P,hP,h1⟩:=ih λL hL=>by grind
   obtain⟨Q,hQ,h2⟩:=one M (h M (by simp));refine⟨UI P Q,nZ hP hQ,λL hL=>?_⟩;rw[ZL];rcases y6.1 hL with rfl|hL
   ·have:=hP.2 L (h L (by simp));omega
   ·have:=h1 L hL;have:=hQ.2 L (by grind);omega
 obtain⟨P,hP,h⟩:=many (A3 a++A3 b) λL hL=>hL
 exact⟨P,hP.1,h⟩
structure Vtx(Ls:List B5)(L M P:B5):Prop where
 inK:Ip Ls P
 l:L∈Ls
 m:M∈Ls
 zl:Bo L P=0
 zm:Bo M P=0
 np:L.1*M.2.1-M.1*L.2.1≠0
theorem oA{a b:List Pt}(ha:VP a)(hb:VP b)(hap:¬apart a b){f:B5}(hf:f.1≠0\/f.2.1≠0):∃L M P,Vtx (A3 a++A3 b) L M P/\Bo f P≠0:=by
 obtain⟨c,cw,cp⟩:=XN ha hb hap;have bd:∀d,d≠(0,0)->∃L∈A3 a++A3 b,dv L d<0:=λd hd=>by obtain⟨L,hL,h⟩:=nY ha hd;grind
 have cK:Ip (A3 a++A3 b) c:=⟨cw,by grind⟩
 have ρ:0<f.1*f.1+f.2.1*f.2.1:=by
  have h1:=Nz f.1;have h2:=Nz f.2.1;rcases hf with h|h
  ·have:f.1*f.1≠0:=λq=>h (jF q);omega
  ·have:f.2.1*f.2.1≠0:=λq=>h (jF q);omega
 have go_:∀g,0<g.1*g.1+g.2.1*g.2.1->0<=Bo g c->∃L M P,Vtx (A3 a++A3 b) L M P/\0<Bo g P:=λg Wg g0=>by
  obtain⟨r,s,L,hL,rp,sp,hK,hd,hz,es⟩:=ray cK (g.1,g.2.1) (bd _ (by grind));have sp':0<s:=by rw[es];exact cp L hL
  have gp:0<Bo g (OG r c s (g.1,g.2.1)):=by rw[LN];have:=z8 (A29 rp) g0;have:=A35 sp' Wg;have e:dv g (g.1,g.2.1)=g.1*g.1+g.2.1*g.2.1:=rfl;rw[e];omega
  generalize OG r c s (g.1,g.2.1)=P at*;have Lne:¬(L.1=0/\L.2.1=0):=by grind[dv]
  have fin_:∀Z,Z≠(0,0)->(∀M,dv M Z≠0->L.1*M.2.1-M.1*L.2.1≠0)->dv L Z=0->0<=dv g Z->∃L M P,Vtx (A3 a++A3 b) L M P/\0<Bo g P:=λZ hτ hM hLτ hg=>by
   obtain⟨r2,s2,M,hMm,r2p,s2p,hK2,hd2,hz2,_⟩:=ray hK Z (bd _ hτ);refine⟨L,M,OG r2 P s2 Z,⟨hK2,hL,hMm,?_,hz2,hM M (by omega)⟩,?_⟩
   ·rw[LN,hz,hLτ];simp
   ·rw[LN];have:=A35 r2p gp;have:=z8 s2p hg;omega
  by_cases hg:0<=dv g (L.2.1,-L.1)
  ·refine fin_ (L.2.1,-L.1) (λe=>Lne ?_) (λM hM q=>hM ?_) ?_ hg;all_goals grind[dv]
  ·refine fin_ (-L.2.1,L.1) (λe=>Lne ?_) (λM hM q=>hM ?_) ?_ ?_;all_goals grind[dv]
 by_cases h0:0<=Bo f c
 ·grind
 ·have en:∀P,Bo (-f.1,-f.2.1,-f.2.2) P= -Bo f P:=by grind[Bo]
  grind
def Js(L M:B5):B5:=(L.2.1*M.2.2-M.2.1*L.2.2,L.2.2*M.1-M.2.2*L.1,L.1*M.2.1-M.1*L.2.1)
def SE(P:B5):B5:=(-P.1,-P.2.1,-P.2.2)
def Jt(P:B5):B5:=if P.2.2<0 then SE P else P
def Ge(P Q R:B5):Int:=P.1*(Q.2.1*R.2.2-Q.2.2*R.2.1)-P.2.1*(Q.1*R.2.2-Q.2.2*R.1)+P.2.2*(Q.1*R.2.1-Q.2.1*R.1)
def ga(Ls:List B5)(i:Nat):B5:=Ls.getD i (0,0,0)
theorem ZM{Ls:List B5}{i:Nat}(h:i<Ls.length):ga Ls i=Ls[i]:=by unfold ga;simp[h]
theorem H2{Ls:List B5}{i:Nat}(h:i<Ls.length):ga Ls i∈Ls:=by rw[ZM h];exact by grind
theorem Ta{Ls:List B5}{L:B5}(h:L∈Ls):∃i,i<Ls.length/\L=ga Ls i:=by obtain⟨i,hi,e⟩:=List.getElem_of_mem h;exact⟨i,hi,by rw[ZM hi,e]⟩
def Cmn(Ls:List B5)(P:B5):Prop:=∃i k,i<k/\k<Ls.length/\(Js (ga Ls i) (ga Ls k)).2.2≠0/\P=Jt (Js (ga Ls i) (ga Ls k))/\∀L∈Ls,0<=Bo L P
theorem ZN{C:B5}(h:C.2.2≠0):0<(Jt C).2.2:=by grind[Jt,SE]
theorem oB{C P:B5}(h1:C.2.2*P.1=P.2.2*C.1)(h2:C.2.2*P.2.1=P.2.2*C.2.1):(Jt C).2.2*P.1=P.2.2*(Jt C).1/\(Jt C).2.2*P.2.1=P.2.2*(Jt C).2.1:=by grind[Jt,SE]
theorem Cmn.inK{Ls:List B5}{P:B5}(h:Cmn Ls P):Ip Ls P:=by obtain⟨i,k,_,_,hw,rfl,h⟩:=h;exact⟨ZN hw,h⟩
theorem oC{Ls:List B5}{L M P:B5}(h:Vtx Ls L M P):∃Q,Cmn Ls Q/\∀f,Bo f P≠0->Bo f Q≠0:=by
 obtain⟨i,hi,DE⟩:=Ta h.l;obtain⟨k,hk,eM⟩:=Ta h.m;have np:=h.np;have zl:=h.zl;have zm:=h.zm;have pw:=h.inK.1;have key:∀A B,A.1*B.2.1-B.1*A.2.1≠0->Bo A P=0->Bo B P=0->(Js A B).2.2≠0/\(∀f,P.2.2*Bo f (Jt (Js A B))=(Jt (Js A B)).2.2*Bo f P):=λA B hn zA zB=>by have w:(Js A B).2.2≠0:=hn;have p:=oB (C:=Js A B) (P:=P) (by grind[Js,Bo]) (by grind[Js,Bo]);grind[Bo]
 have fin_:∀A B,A.1*B.2.1-B.1*A.2.1≠0->Bo A P=0->Bo B P=0->(Js A B).2.2≠0/\(∀L∈Ls,0<=Bo L (Jt (Js A B)))/\∀f,Bo f P≠0->Bo f (Jt (Js A B))≠0:=λA B hn zA zB=>by
  obtain⟨w,e⟩:=key A B hn zA zB;have q:=ZN w;refine⟨w,λL hL=>?_,λf hf hz=>?_⟩
  ·have e1:=e L;have:=z8 (A29 q) (h.inK.2 L hL);exact IY pw (by omega)
  ·have e1:=e f;grind[A40]
 rcases Nat.lt_trichotomy i k with c|c|c
 ·obtain⟨w,h1,h2⟩:=fin_ L M np zl zm;rw[DE,eM]at w h1 h2;exact⟨_,⟨i,k,c,hk,w,rfl,h1⟩,h2⟩
 ·grind
 ·obtain⟨w,h1,h2⟩:=fin_ M L (by omega) zm zl;rw[DE,eM]at w h1 h2;exact⟨_,⟨k,i,c,hi,w,rfl,h1⟩,h2⟩
theorem ZO{a b:List Pt}(ha:VP a)(hb:VP b)(hap:¬apart a b):∃P Q R,Cmn (A3 a++A3 b) P/\Cmn (A3 a++A3 b) Q/\Cmn (A3 a++A3 b) R/\Ge P Q R≠0:=by
 have one:∀f,f.1≠0\/f.2.1≠0->∃Q,Cmn (A3 a++A3 b) Q/\Bo f Q≠0:=λf hf=>by grind[oA,oC]
 obtain⟨P,hP,_⟩:=one (1,0,0) (.inl (by simp));have pw:=hP.inK.1;obtain⟨Q,hQ,hq⟩:=one (P.2.2,0,-P.1) (by omega);obtain⟨R,hR,hr⟩:=one (P.2.1*Q.2.2-P.2.2*Q.2.1,P.2.2*Q.1-P.1*Q.2.2,P.1*Q.2.1-P.2.1*Q.1) (by grind[Bo]);grind[Ge,Bo]
def UJ(k:Int)(P c:B5):B5:=(k*P.1+c.1,k*P.2.1+c.2.1,k*P.2.2+c.2.2)
theorem jO(L:B5)(k:Int)(P c:B5):Bo L (UJ k P c)=k*Bo L P+Bo L c:=by unfold Bo UJ;grind
theorem Rb{b:List Pt}(hb:VP b){f P:B5}(hf:f.1≠0\/f.2.1≠0)(h:∀q∈b,Bo f (q.1,q.2,1)<=0)(hP:Ip (A3 b) P):Bo f P<=0:=by
 rcases A41 0 (Bo f P)with c|c
 case inr=>exact c
 exfalso;have b3:=hb.l3;have hn:0<b.length:=by omega
 obtain⟨C,cw,cp⟩:=XN hb hb (XI hb);obtain⟨k,k0,hk⟩:∃k:Int,0<=k/\0<k*Bo f P+Bo f C:=by
  refine⟨if 0<Bo f C then 0 else 1-Bo f C,?_,?_⟩
  ·split<;>omega
  ·split
   ·omega
   ·have:=Int.mul_le_mul_of_nonneg_left (show 1<=Bo f P by omega) (show 0<=1-Bo f C by omega);omega
 have ρ:0<(UJ k P C).2.2:=by have:=z8 k0 (A29 hP.1);unfold UJ;simp;omega
 have pe:∀L∈A3 b,0<Bo L (UJ k P C):=λL hL=>by rw[jO];have:=z8 k0 (hP.2 L hL);have:=cp L (by grind);omega
 have fe:0<Bo f (UJ k P C):=by rw[jO];exact hk
 generalize UJ k P C=Q at ρ pe fe;refine RL (v:=λt=>(Q.2.2*(qa b t).1,Q.2.2*(qa b t).2)) hn (λt=>by simp only[H0]) (p:=(Q.1,Q.2.1)) (g:=(-f.1,-f.2.1)) (λt=>?_) (λe=>?_) (λt=>?_)
 ·have e:=pe _ (G7.2 ⟨t%b.length,A17 _ hn,rfl⟩);have q:pa b ((t%b.length+1)%b.length)=qa b (t+1):=by unfold qa;rw[A51]
  unfold DE at e;rw[q,show pa b (t%b.length)=qa b t from rfl]at e;have:=A35 ρ e;have e2:Aw (Q.2.2*(qa b t).1,Q.2.2*(qa b t).2) (Q.2.2*(qa b (t+1)).1,Q.2.2*(qa b (t+1)).2) (Q.1,Q.2.1)=Q.2.2*Bo (Hq (qa b t) (qa b (t+1))) Q:=by unfold Aw Bo Hq;grind
  rw[e2];exact this
 ·have e1:=congrArg Prod.fst e;have e2:=congrArg Prod.snd e;omega
 ·have e:=h (qa b t) (B4 (A17 _ hn));have:=z8 (A29 ρ) (show 0<=-Bo f ((qa b t).1,(qa b t).2,1) by omega);have e2:ES (-f.1,-f.2.1) (Q.1,Q.2.1) (Q.2.2*(qa b t).1,Q.2.2*(qa b t).2)=Q.2.2*(-Bo f ((qa b t).1,(qa b t).2,1))+Bo f Q:=by unfold ES Bo;grind
  omega
theorem eS{A B:List B5}{P:B5}(h:Ip (A++B) P):Ip A P:=⟨h.1,λL hL=>h.2 L (by grind)⟩
theorem ZP{A B:List B5}{P:B5}(h:Ip (A++B) P):Ip B P:=⟨h.1,λL hL=>h.2 L (by grind)⟩
theorem Rc{l:List Pt}(h:VP l){i:Nat}(hi:i<l.length):(DE l i).1≠0\/(DE l i).2.1≠0:=by have:=h.ne hi;unfold DE Hq;grind
theorem WE{f P Q R:B5}(hf:f.1≠0\/f.2.1≠0)(h1:Bo f P=0)(h2:Bo f Q=0)(h3:Bo f R=0):Ge P Q R=0:=by
 unfold Bo at h1 h2 h3;have z1:f.1*Ge P Q R=0:=by unfold Ge;grind
 have z2:f.2.1*Ge P Q R=0:=by unfold Ge;grind
 grind[A40]
theorem eT{a b:List Pt}(ha:VP a)(hb:VP b)(hap:apart a b){P Q R:B5}(hP:Ip (A3 a++A3 b) P)(hQ:Ip (A3 a++A3 b) Q)(hR:Ip (A3 a++A3 b) R):Ge P Q R=0:=by
 rcases hap with⟨i,hi,hs⟩|⟨i,hi,hs⟩
 ·have z:∀S,Ip (A3 a++A3 b) S->Bo (DE a i) S=0:=λS hS=>by have h1:=hS.2 (DE a i) (List.mem_append_left _ (G7.2 ⟨i,hi,rfl⟩));have h2:=Rb hb (Rc ha hi) (λq hq=>by rw[Jr];exact hs q hq) (ZP hS);omega
  grind[WE,Rc]
 ·have z:∀S,Ip (A3 a++A3 b) S->Bo (DE b i) S=0:=λS hS=>by have h1:=hS.2 (DE b i) (List.mem_append_right _ (G7.2 ⟨i,hi,rfl⟩));have h2:=Rb ha (Rc hb hi) (λq hq=>by rw[Jr];exact hs q hq) (eS hS);omega
  grind[WE,Rc]
def mv(d p:Pt):Pt:=(p.1+d.1,p.2+d.2)
theorem SB(N:Nat){l:List Pt}(hl:l.length<=1000)(hs:∀p∈l,CN p){d:Pt}(hd:CN d):∀(n i:Nat),i<=l.length->l.length<n+i->Fu N l d.1 d.2 n i ((l.take i).map (mv d)++l.drop i)=some (l.map (mv d))
 |0,i,hi,hn=>by omega
 |n+1,i,hi,hn=>by
  rw[Fu];by_cases he:i=l.length
  ·subst he;rw[K3,cF,List.drop_length,A56,A05]
  have hi':i<l.length:=by omega
  have hp:=hs _ (B4 hi');have hd':=hd;unfold CN at hp hd';have e1:Bz ((l.take i).map (mv d)++l.drop i) (i)=some ((pa l i).1,(pa l i).2):=by rw[WA hi',Ux hi']
  rw[Fe hi',cT,e1,bS];simp only;rw[Ab (by omega),A19,eH hi',Ux hi',bS];rw[Ab (by omega),Ab (by omega),Zy hi',<-ns,show((pa l i).1+d.1,(pa l i).2+d.2)=mv d (pa l i)from rfl,eI hi'];exact SB N hl hs hd n (i+1) (by omega) (by omega)
def XK(d:Pt):Prop:=(-40<=d.1/\d.1<=40)/\-40<=d.2/\d.2<=40
open Classical in
theorem nU{N:Nat}(hN:100<=N){l:List Pt}(h:VP l){d:Pt}(hd:XK d):GY N l d.1 d.2=some (if∀p∈l,On (mv d p)then(l.map (mv d),0)else([],70)):=by
 unfold GY;have l3:=h.l3;have l8:=h.l8;unfold XK at hd;have hc:=SB N (by omega) h.sml (d:=d) (by unfold CN;omega) N 0 (by omega) (by omega);rw[show((0:Nat):Int)=0 from rfl,List.drop_zero,List.take_zero,A22,A02]at hc;rw[G2 hN h,bS,BL _ (by simp;omega),Ab (by rintro rfl;simp at l3),Ab (by omega),hc,bS,Uw hN (by simp;omega),bS];by_cases ho:∀p∈l,On (mv d p)
 ·rw[t8 ho,BL _ (by grind)]
 ·rw[t7 ho,Ca _ (by grind)]
def rs(f:Nat->Int)(n:Nat):Int:=((List.range n).map f).sum
theorem WF(f:Nat->Int):rs f 0=0:=rfl
theorem JY(f:Nat->Int)(n:Nat):rs f (n+1)=rs f n+f n:=by unfold rs;rw[List.range_succ,A24,List.sum_append];simp
theorem Re(f:Nat->Int)(m:Nat):∀k,rs f (m+k)=rs f m+rs (λt=>f (m+t)) k
 |0=>by rw[A43,WF,Int.add_zero]
 |k+1=>by rw[<-A15,JY,JY,Re f m k,Int.add_assoc]
theorem ND{f g:Nat->Int}{n:Nat}(h:∀t,t<n->f t=g t):rs f n=rs g n:=by unfold rs;congr 1;exact List.map_congr_left λt ht=>h t (by simpa using ht)
theorem wO{f:Nat->Int}{n:Nat}(per:∀t,f (t+n)=f t)(i:Nat):rs (λt=>f (i+t)) n=rs f n:=by
 have h1:=Re f i n;have h2:=Re f n i;have h3:rs (λt=>f (n+t)) i=rs f i:=ND λt _=>by rw[A44];exact per t
 rw[A44]at h2;omega
theorem ZQ(h:Nat->Int):∀n,rs (λt=>h (t+1)-h t) n=h n-h 0
 |0=>by rw[WF];omega
 |n+1=>by rw[JY,ZQ h n];omega
theorem WG(f g:Nat->Int):∀n,rs (λt=>f t+g t) n=rs f n+rs g n
 |0=>rfl
 |n+1=>by rw[JY,JY,JY,WG f g n];omega
def cs(F:Pt×Pt->Int)(l:List Pt):Int:=((BA l).map F).sum
theorem Tb(F:Pt×Pt->Int)(l:List Pt):cs F l=rs (λt=>F (qa l t,qa l (t+1))) l.length:=by
 unfold cs rs BA;rw[List.map_map];congr 1;refine List.map_congr_left λt ht=>?_
 rw[List.mem_range]at ht;show F (pa l t,pa l ((t+1)%l.length))=F (qa l t,qa l (t+1));rw[Il ht];rfl
theorem XO{F G:Pt×Pt->Int}{φ:Pt->Int}(l:List Pt)(h:∀e,G e=F e+(φ e.2-φ e.1)):cs G l=cs F l:=by
 rw[Tb,Tb];have e:rs (λt=>G (qa l t,qa l (t+1))) l.length=rs (λt=>F (qa l t,qa l (t+1))+(φ (qa l (t+1))-φ (qa l t))) l.length:=ND λt _=>h _
 rw[e,WG (λt=>F (qa l t,qa l (t+1))) (λt=>φ (qa l (t+1))-φ (qa l t)),ZQ (λt=>φ (qa l t))];have:qa l l.length=qa l 0:=by have:=H0 l 0;rwa [A08]at this
 rw[this];omega
def PL(a b:Pt):Int:=a.1*b.2-a.2*b.1
theorem oD(l:List Pt):E8 l=cs (λe=>PL e.1 e.2) l:=XO (φ:=λp=>PL p (pa l 0)) l λe=>by unfold Sz Aw PL;grind
theorem oE(l:List Pt):IR l=cs (λe=>PL e.1 e.2*(e.1.1+e.2.1)) l:=XO (φ:=λp=>PL p (pa l 0)*(p.1+(pa l 0).1)) l λe=>by unfold UA Aw PL;grind
theorem oF(l:List Pt):Oz l=cs (λe=>PL e.1 e.2*(e.1.2+e.2.2)) l:=XO (φ:=λp=>PL p (pa l 0)*(p.2+(pa l 0).2)) l λe=>by unfold UB Aw PL;grind
