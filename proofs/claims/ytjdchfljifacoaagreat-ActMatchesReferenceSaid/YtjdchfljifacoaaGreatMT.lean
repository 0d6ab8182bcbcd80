import Derived.Test.YtjdchfljifacoaaGreatMH
set_option linter.all false
set_option maxRecDepth 100000
set_option maxHeartbeats 8000000
namespace Go.Proofs.YtjdchfljifacoaaGreat.Am
theorem SU{P:List Pt}(hb:∀p∈P,CD p)(f:Pt):∀(n:Nat)(o:Pt)(out:List Pt),HGood P f o out->P.length<n+out.length->∃r:List Pt,0<r.length/\(∀p∈r,p∈P)/\((∃o,∀p∈P,p=o)\/∀i,i<r.length->Edge P (pa r i) (pa r ((i+1)%r.length)))
 |0,o,out,h,hn=>by have:=Me out P h.nd h.sub;omega
 |n+1,o,out,h,hn=>by
  have hl:=h.len;have ho:o∈out:=by rw[<-h.lst];exact Bo (by omega)
  rcases Wq (h.sub o ho) (h.ext o ho)with⟨h1,h2⟩|hE
  ·exact⟨out,hl,h.sub,.inl ⟨o,h2⟩⟩
  ·by_cases hf:H1 o P=f
   ·refine⟨out,hl,h.sub,.inr λi hi=>?_⟩;by_cases hc:i+1<out.length
    ·rw[sI hc];exact h.edge i hc
    ·have e:i+1=out.length:=by omega
     have e2:i=out.length-1:=by omega
     rw[e,Nat.mod_self,h.hd,e2,h.lst,<-hf];exact hE
   ·have hno:H1 o P∉out:=λhm=>by
     obtain⟨j,hj,e⟩:=Jf hm;have j0:j≠0:=by grind[h.hd]
     have hEj:=h.edge (j-1) (by omega);rw[show j-1+1=j by omega,e]at hEj;have:=Edge.pred hE hEj;rw[<-h.lst]at this;have:=Qb h.nd (by omega) (by omega) this;omega
    refine SU hb f n (H1 o P) (out++[H1 o P]) ⟨by simp,by rw[I8 hl,h.hd],?_,?_,?_,?_,?_⟩ (by simp;omega)
    ·simp[pa]
    ·grind[h.nd]
    ·intro p hp;rcases mU.1 hp with hp|hp
     ·exact h.sub p hp
     ·simp at hp;rw[hp];exact hE.mw
    ·intro p hp;rcases mU.1 hp with hp|hp
     ·exact h.ext p hp
     ·simp at hp;rw[hp];exact hE.ext hb
    ·intro i hi;rw[jT,z7]at hi;by_cases hc:i+1<out.length
     ·rw[I8 (by omega),I8 hc];exact h.edge i hc
     ·have e2:i=out.length-1:=by omega
      rw[I8 (by omega),M5 (by omega) (by omega),e2,h.lst];rw[show out.length-1+1-out.length=0 by omega];exact hE
theorem kD{P:List Pt}(hb:∀p∈P,CD p)(h0:P≠[]):∃r:List Pt,0<r.length/\(∀p∈r,p∈P)/\((∃o,∀p∈P,p=o)\/∀i,i<r.length->Edge P (pa r i) (pa r ((i+1)%r.length))):=by
 obtain⟨p0,P',rfl⟩:∃p0 P',P=p0::P':=by cases P<;>grind
 obtain⟨h1,h2⟩:=Wr (p0::P') p0;have hm:NX p0 (p0::P')∈p0::P':=by grind
 have hx:=sO hb hm (by grind);exact SU hb _ ((p0::P').length) _ [NX p0 (p0::P')] (jL hm hx) (by simp)
theorem WO{b:List Pt}(h:VP b){P Q:Pt}(hne:P≠Q)(hs:∀q∈b,Ao P Q q<=0){x y:Nat}(hxy:x<y)(hy:y<b.length)(ex:Ao P Q (pa b x)=0)(ey:Ao P Q (pa b y)=0):∃t,t<b.length/\Ao P Q (pa b t)=0/\Ao P Q (pa b ((t+1)%b.length))=0:=by
 have hn:0<b.length:=by omega
 by_cases adj:y=x+1
 ·grind[sI]
 by_cases adj2:x=0/\y+1=b.length
 ·grind[Nat.mod_self]
 have t1:=Kg h.cv x 1 (by omega) (y-x-2) (by omega);rw[show x+(1+(y-x-2)+1)=y by omega,GL hy,GL (by omega)]at t1;obtain⟨w,hw1,hw2⟩:∃w,y-x<w/\w<b.length:=⟨y-x+1,by omega,by omega⟩
 have t2:=Kg h.cv x (y-x) (by omega) (w-(y-x)-1) (by omega);rw[show x+(y-x+(w-(y-x)-1)+1)=x+w by omega,show x+(y-x)=y by omega,GL hy,GL (by omega)]at t2;have r1:=Ll P Q (pa b x) (pa b y) (qa b (x+1)) ex ey;have r2:=Ll P Q (pa b x) (pa b y) (qa b (x+w)) ex ey;have D:=OB hne;have k1:=hs _ (Lj hn (x+1));have k2:=hs _ (Lj hn (x+w));have e1:Ao (pa b x) (pa b y) (qa b (x+1))= -Ao (pa b x) (qa b (x+1)) (pa b y):=by unfold Ao;grind
 rw[e1]at r1;generalize dd P Q (pa b y)-dd P Q (pa b x)=s at*;generalize Ao P Q (qa b (x+1))=f1 at*;generalize Ao P Q (qa b (x+w))=f2 at*;have m1:=y0 t1 D;have m2:=y0 t2 D;have m3:f1*s<0:=by rw[<-r1,Int.neg_mul];omega
 rcases Fe 0 s with q|q
 ·have:=oJ (show 0<=-f2 by omega) (w8 q);rw[Int.neg_mul]at this;omega
 ·have:=oJ (show 0<=-f1 by omega) (show 0<=-s by omega);rw[Int.neg_mul_neg]at this;omega
theorem WP{a b:List Pt}(hb:VP b){P Q:Pt}(hne:P≠Q)(hs:∀q∈b,Ao P Q q<=0)(ha:∀q∈a,0<=Ao P Q q){u v:Pt}(hu:u∈b)(hv:v∈b)(huv:u≠v)(zu:Ao P Q u=0)(zv:Ao P Q v=0):∃t,t<b.length/\Jg b t a:=by
 obtain⟨x,hx,rfl⟩:=Jf hu;obtain⟨y,hy,rfl⟩:=Jf hv;have hxy:x≠y:=by grind
 obtain⟨t,ht,e1,e2⟩:∃t,t<b.length/\Ao P Q (pa b t)=0/\Ao P Q (pa b ((t+1)%b.length))=0:=by
  rcases Nat.lt_or_gt_of_ne hxy with q|q
  all_goals grind[WO]
 refine⟨t,ht,λq hq=>?_⟩;have D:=OB hne;obtain⟨y',hy',py⟩:=LP hb ht;have r1:=Ll P Q _ _ y' e1 e2;have r2:=Ll P Q _ _ q e1 e2;have k1:=hs y' hy';have k2:=ha q hq;unfold α at py⊢;generalize dd P Q (pa b ((t+1)%b.length))-dd P Q (pa b t)=s at*;have m1:=y0 py D;have sneg:s<0:=by
  rcases Fe s 0 with c|c
  ·exact c
  ·have:=oJ (show 0<=-Ao P Q y' by omega) c;rw[Int.neg_mul]at this;omega
 have m2:=oJ k2 (show 0<=-s by omega);rw[Int.mul_neg]at m2;rcases Fe 0 (Ao (pa b t) (pa b ((t+1)%b.length)) q)with c|c
 ·have:=y0 c D;omega
 ·exact c
def EY(p q:Pt):Pt:=(p.1-q.1,p.2-q.2)
def QX(a b:List Pt):List Pt:=b.flatMap λq=>a.map λp=>EY q p
theorem H9{a b:List Pt}{d:Pt}:d∈QX a b↔∃q∈b,∃p∈a,d=EY q p:=by unfold QX;grind
def Cr(a b:Pt):Int:=a.1*b.2-a.2*b.1
theorem ZR{a b:List Pt}(ha:VP a)(hb:VP b){v w:Pt}(hE:Edge (QX a b) v w)(h0:Cr v w<=0):apart a b:=by
 obtain⟨q1,hq1,p1,hp1,rfl⟩:=H9.1 hE.mv;obtain⟨q2,hq2,p2,hp2,rfl⟩:=H9.1 hE.mw;have hl:=λq hq p hp=>hE.left (EY q p) (H9.2 ⟨q,hq,p,hp,rfl⟩)
 have ne:=hE.ne;obtain⟨Z,hτ⟩:∃Z:Pt,Z=EY (EY q2 p2) (EY q1 p1):=⟨_,rfl⟩
 have lin1:∀q p,Ao (EY q1 p1) (EY q2 p2) (EY q p)=(Cr Z q-Cr Z p)-(Cr Z q1-Cr Z p1):=by grind[Ao,EY,Cr]
 have z2:Cr Z q2-Cr Z p2=Cr Z q1-Cr Z p1:=by rw[hτ];unfold EY Cr;grind
 have z0:Cr (EY q1 p1) (EY q2 p2)= -(Cr Z q1-Cr Z p1):=by rw[hτ];unfold EY Cr;grind
 have τne:Z≠(0,0):=λe=>by grind[EY]
 have b1:∀q∈b,Cr Z q1<=Cr Z q:=by grind
 have a1:∀p∈a,Cr Z p<=Cr Z p1:=by grind
 have sh:∀x y,Ao x (x.1+Z.1,x.2+Z.2) y=Cr Z y-Cr Z x:=by grind[Ao,Cr]
 have sh2:∀x y,Ao (x.1+Z.1,x.2+Z.2) x y=Cr Z x-Cr Z y:=by grind[Ao,Cr]
 have shne:∀x,x≠(x.1+Z.1,x.2+Z.2):=by grind
 by_cases hq:q1=q2
 ·have hp:p1≠p2:=by grind
  left;refine WP ha (shne p1) (λp hp=>?_) (λq hq=>?_) hp1 hp2 hp ?_ ?_
  ·rw[sh];have:=a1 p hp;omega
  ·rw[sh];have:=b1 q hq;omega
  all_goals grind
 ·right;refine WP hb (Ne.symm (shne q1)) (λq hq=>?_) (λp hp=>?_) hq1 hq2 hq ?_ ?_
  ·rw[sh2];have:=b1 q hq;omega
  ·rw[sh2];have:=a1 p hp;omega
  all_goals grind
theorem AeE{n:Nat}{v:Nat->Pt}(hn:0<n)(per:∀t,v (t+n)=v t)(h:∀t,0<Cr (v t) (v (t+1)))(e:Pt)(he:e≠(0,0)):∃t,0<=Cr (v t) e/\0<=Cr e (v (t+1)):=by
 by_cases hex:∃t,0<=Cr (v t) e/\0<=Cr e (v (t+1))
 ·exact hex
 exfalso;have h0:∀t,0<Ao (v t) (v (t+1)) (0,0):=by grind[Ao,Cr]
 have sw:∀x,Cr e x= -Cr x e:=λx=>by unfold Cr;grind
 by_cases hs:∃t,0<=Cr (v t) e
 ·obtain⟨m,hm⟩:=hs;have all:∀k,0<Cr (v (m+1+k)) e:=by intro k;induction k<;>grind
  refine QV (v:=λt=>v (m+1+t)) hn (by grind) (p:=(0,0)) (g:=(e.2,-e.1)) (by grind) (λq=>he ?_) λt=>?_
  ·grind
  grind[Cr,DP]
 ·refine QV hn per (g:=(-e.2,e.1)) h0 (λq=>he ?_) λt=>?_
  ·grind
  ·grind[Cr,DP]
abbrev Ci:=Int×Int×Int
def BS(L P:Ci):Int:=L.1*P.1+L.2.1*P.2.1+L.2.2*P.2.2
def dv(L:Ci)(d:Pt):Int:=L.1*d.1+L.2.1*d.2
def IR(p q:Pt):Ci:=(p.2-q.2,q.1-p.1,(q.2-p.2)*p.1-(q.1-p.1)*p.2)
def Hu(l:List Pt)(i:Nat):Ci:=IR (pa l i) (pa l ((i+1)%l.length))
def Be(l:List Pt):List Ci:=(List.range l.length).map (Hu l)
theorem Ha{l:List Pt}{L:Ci}:L∈Be l↔∃i,i<l.length/\L=Hu l i:=by unfold Be;grind
theorem Ky(l:List Pt)(i:Nat)(p:Pt):BS (Hu l i) (p.1,p.2,1)=α l i p:=by grind[BS,Hu,IR,α,Ao]
def RN(r:Int)(P:Ci)(s:Int)(d:Pt):Ci:=(r*P.1+s*d.1,r*P.2.1+s*d.2,r*P.2.2)
theorem Qk(L P:Ci)(r s:Int)(d:Pt):BS L (RN r P s d)=r*BS L P+s*dv L d:=by unfold BS RN dv;grind
def WR(P Q:Ci):Ci:=(P.1+Q.1,P.2.1+Q.2.1,P.2.2+Q.2.2)
theorem dZ(L P Q:Ci):BS L (WR P Q)=BS L P+BS L Q:=by unfold BS WR;grind
def J7(Ls:List Ci)(P:Ci):Prop:=0<P.2.2/\∀L∈Ls,0<=BS L P
theorem Rm(P:Ci)(d:Pt):∀(Ls:List Ci),(∃L∈Ls,dv L d<0)->∃L∈Ls,dv L d<0/\∀M∈Ls,dv M d<0->BS L P*(-dv M d)<=BS M P*(-dv L d)
 |[],h=>by grind
 |A::Ls,h=>by
  by_cases hr:∃L∈Ls,dv L d<0
  ·obtain⟨L,hL,h1,h2⟩:=Rm P d Ls hr;by_cases hA:dv A d<0
   ·by_cases hc:BS L P*(-dv A d)<=BS A P*(-dv L d)
    ·grind
    ·refine⟨A,by simp,hA,λM hM hd=>?_⟩;rcases kC.1 hM with rfl|hM
     ·exact Int.le_refl _
     ·have k:=h2 M hM hd;generalize BS L P=x at*;generalize BS A P=y at*;generalize BS M P=z at*;generalize hl: -dv L d=l at*;generalize ha: -dv A d=a at*;generalize hm: -dv M d=m at*;have lp:0<l:=by omega
      have ap:0<a:=by omega
      have mp:0<m:=by omega
      have k1:0<=m*(x*a-y*l):=oJ (w8 mp) (by omega);have k2:0<=a*(z*l-x*m):=oJ (w8 ap) (by omega);have k3:l*(z*a-y*m)=m*(x*a-y*l)+a*(z*l-x*m):=by grind
      have:=FE lp (b:=z*a-y*m) (by omega);omega
   grind
  grind
theorem ray{Ls:List Ci}{P:Ci}(hP:J7 Ls P)(d:Pt)(hd:∃L∈Ls,dv L d<0):∃r s L,L∈Ls/\0<r/\0<=s/\J7 Ls (RN r P s d)/\dv L d<0/\BS L (RN r P s d)=0/\s=BS L P:=by
 obtain⟨L,hL,h1,h2⟩:=Rm P d Ls hd;have e0:=hP.2 L hL;refine⟨-dv L d,BS L P,L,hL,by omega,e0,⟨y0 (by omega) hP.1,λM hM=>?_⟩,h1,?_,rfl⟩
 ·rw[Qk];have eM:=hP.2 M hM;by_cases hd:dv M d<0
  ·have:=h2 M hM hd;rw[Int.mul_neg]at this;rw[Lc (-dv L d)];omega
  ·have k1:=oJ (show 0<=-dv L d by omega) eM;have k2:=oJ e0 (show 0<=dv M d by omega);omega
 grind[Qk]
theorem tN{l:List Pt}(h:VP l){d:Pt}(hd:d≠(0,0)):∃L∈Be l,dv L d<0:=by
 have l3:=h.l3;have hn:0<l.length:=by omega
 by_cases hex:∃L∈Be l,dv L d<0
 ·exact hex
 have nn:∀t,Cr (qa l t) d<=Cr (qa l (t+1)) d:=λt=>by
  have hm:=Ha.2 ⟨t%l.length,tH _ hn,rfl⟩;have:¬dv (Hu l (t%l.length)) d<0:=by grind
  have e:dv (Hu l (t%l.length)) d=Cr (qa l (t+1)) d-Cr (qa l t) d:=by
   have q:pa l ((t%l.length+1)%l.length)=qa l (t+1):=by unfold qa;rw[JV]
   unfold Hu;rw[q,show pa l (t%l.length)=qa l t from rfl];unfold dv IR Cr;grind
  omega
 have up:∀k t,Cr (qa l t) d<=Cr (qa l (t+k)) d:=by intro k;induction k<;>grind
 have c1:Cr (qa l 0) d=Cr (qa l 1) d:=by have a1:=nn 0;have a2:=up (l.length-1) 1;rw[show 1+(l.length-1)=0+l.length by omega,Gh]at a2;have a1:Cr (qa l 0) d<=Cr (qa l 1) d:=a1;omega
 have c2:Cr (qa l 1) d=Cr (qa l 2) d:=by have a1:Cr (qa l 1) d<=Cr (qa l 2) d:=nn 1;have a2:=up (l.length-2) 2;rw[show 2+(l.length-2)=0+l.length by omega,Gh]at a2;omega
 have c:=GB h.cv (s:=0) (a:=2) (by omega) (by omega);have z1:d.1*Ao (qa l 0) (qa l 1) (qa l 2)=0:=by unfold Ao;unfold Cr at c1 c2;grind
 have z2:d.2*Ao (qa l 0) (qa l 1) (qa l 2)=0:=by unfold Ao;unfold Cr at c1 c2;grind
 grind[DV]
theorem Ql{a b:List Pt}(ha:VP a)(hb:VP b)(hap:¬apart a b){p q:Pt}(hp:p∈a)(hq:q∈b):∃P k,0<k/\J7 (Be a++Be b) P/\(∀i,i<a.length->k*α a i p<=BS (Hu a i) P)/\∀j,j<b.length->k*α b j q<=BS (Hu b j) P:=by
 have a3:=ha.l3;have good:∀P,0<P.2.2->(∀i,i<a.length->0<=BS (Hu a i) P)->(∀j,j<b.length->0<=BS (Hu b j) P)->J7 (Be a++Be b) P:=λP h1 h2 h3=>by refine⟨h1,λL hL=>?_⟩;grind[Ha]
 by_cases hd:EY q p=(0,0)
 ·have e:q=p:=by unfold EY at hd;grind
  refine⟨(q.1,q.2,1),1,by omega,good _ (by simp only;omega) (λi hi=>?_) (λj hj=>?_),λi hi=>?_,λj hj=>?_⟩;all_goals simp_all[Ky,Oe]
 have sm:∀d∈QX a b,CD d:=λd hd=>by obtain⟨q,hq,p,hp,rfl⟩:=H9.1 hd;have h1:=ha.on p hp;have h2:=hb.on q hq;grind[On,CD,EY]
 have m0:=H9.2 ⟨q,hq,p,hp,rfl⟩;obtain⟨r,r0,rs,rE⟩:=kD sm (by grind);have rE:∀i,i<r.length->Edge (QX a b) (pa r i) (pa r ((i+1)%r.length)):=by
  rcases rE with⟨o,ho⟩|h
  ·have e1:=ho _ (H9.2 ⟨q,hq,pa a 0,Bo (by omega),rfl⟩);have e2:=ho _ (H9.2 ⟨q,hq,pa a 1,Bo (by omega),rfl⟩);have e3:=e1.trans e2.symm;unfold EY at e3;have:=ha.ne (show 0<a.length by omega);rw[sI (by omega)]at this;grind
  ·exact h
 have pos:∀t,0<Cr (pa r (t%r.length)) (pa r ((t+1)%r.length)):=λt=>by have hE:=rE (t%r.length) (tH _ r0);rw[JV]at hE;all_goals grind[ZR]
 obtain⟨t,k1,k2⟩:=AeE r0 (by simp_all) pos (-(EY q p).1,-(EY q p).2) (by grind);have k0:=pos t;obtain⟨q1,hq1,p1,hp1,e1⟩:=H9.1 (rs _ (Bo (tH t r0)));obtain⟨q2,hq2,p2,hp2,e2⟩:=H9.1 (rs _ (Bo (tH (t+1) r0)));rw[e1]at k0 k1;rw[e2]at k0 k2;obtain⟨E,hα⟩:∃E,E=Cr (EY q1 p1) (EY q2 p2):=⟨_,rfl⟩
 obtain⟨J,hβ⟩:∃J,J=Cr (-(EY q p).1,-(EY q p).2) (EY q2 p2):=⟨_,rfl⟩
 obtain⟨γ,hγ⟩:∃γ,γ=Cr (EY q1 p1) (-(EY q p).1,-(EY q p).2):=⟨_,rfl⟩
 rw[<-hα]at k0;rw[<-hβ]at k2;rw[<-hγ]at k1;have x1:E*(q.1-p.1)+J*(q1.1-p1.1)+γ*(q2.1-p2.1)=0:=by rw[hα,hβ,hγ];unfold Cr EY;grind
 have x2:E*(q.2-p.2)+J*(q1.2-p1.2)+γ*(q2.2-p2.2)=0:=by rw[hα,hβ,hγ];unfold Cr EY;grind
 have ea:∀i,BS (Hu a i) (E*p.1+J*p1.1+γ*p2.1,E*p.2+J*p1.2+γ*p2.2,E+J+γ)=E*α a i p+J*α a i p1+γ*α a i p2:=λi=>by rw[<-Ky,<-Ky,<-Ky];unfold BS;grind
 have eb:∀j,BS (Hu b j) (E*p.1+J*p1.1+γ*p2.1,E*p.2+J*p1.2+γ*p2.2,E+J+γ)=E*α b j q+J*α b j q1+γ*α b j q2:=λj=>by
  have f1:E*p.1+J*p1.1+γ*p2.1=E*q.1+J*q1.1+γ*q2.1:=by grind
  have f2:E*p.2+J*p1.2+γ*p2.2=E*q.2+J*q1.2+γ*q2.2:=by grind
  rw[f1,f2,<-Ky,<-Ky,<-Ky];unfold BS;grind
 have na:∀i,i<a.length->E*α a i p<=BS (Hu a i) (E*p.1+J*p1.1+γ*p2.1,E*p.2+J*p1.2+γ*p2.2,E+J+γ):=λi hi=>by rw[ea];have:=oJ k2 (Oe ha hi hp1);have:=oJ k1 (Oe ha hi hp2);omega
 have nb':∀j,j<b.length->E*α b j q<=BS (Hu b j) (E*p.1+J*p1.1+γ*p2.1,E*p.2+J*p1.2+γ*p2.2,E+J+γ):=λj hj=>by rw[eb];have:=oJ k2 (Oe hb hj hq1);have:=oJ k1 (Oe hb hj hq2);omega
 refine⟨_,E,k0,good _ (by simp;omega) (λi hi=>?_) (λj hj=>?_),na,nb'⟩
 ·have:=na i hi;have:=oJ (w8 k0) (Oe ha hi hp);omega
 ·have:=nb' j hj;have:=oJ (w8 k0) (Oe hb hj hq);omega
theorem tO{Ls:List Ci}{P Q:Ci}(h1:J7 Ls P)(h2:J7 Ls Q):J7 Ls (WR P Q):=⟨by have:=h1.1;have:=h2.1;unfold WR;simp;omega,λL hL=>by rw[dZ];have:=h1.2 L hL;have:=h2.2 L hL;omega⟩
theorem oM{a b:List Pt}(ha:VP a)(hb:VP b)(hap:¬apart a b):∃P:Ci,0<P.2.2/\∀L∈Be a++Be b,0<BS L P:=by
 have a3:=ha.l3;have b3:=hb.l3;have one:∀L∈Be a++Be b,∃P,J7 (Be a++Be b) P/\0<BS L P:=λL hL=>by
  rcases mU.1 hL with h|h
  ·obtain⟨i,hi,rfl⟩:=Ha.1 h;obtain⟨x,hx,px⟩:=LP ha hi;obtain⟨P,k,kp,hP,h1,_⟩:=Ql ha hb hap hx (Bo (show 0<b.length by omega));have:=h1 i hi;have:=y0 kp px;exact⟨P,hP,by omega⟩
  ·obtain⟨i,hi,rfl⟩:=Ha.1 h;obtain⟨x,hx,px⟩:=LP hb hi;obtain⟨P,k,kp,hP,_,h1⟩:=Ql ha hb hap (Bo (show 0<a.length by omega)) hx;have:=h1 i hi;have:=y0 kp px;exact⟨P,hP,by omega⟩
 have many:∀Ms:List Ci,(∀L∈Ms,L∈Be a++Be b)->∃P,J7 (Be a++Be b) P/\∀L∈Ms,0<BS L P:=by
  intro Ms;induction Ms with
  |nil=>intro _;obtain⟨P,_,_,hP,_,_⟩:=Ql ha hb hap (Bo (show 0<a.length by omega)) (Bo (show 0<b.length by omega));exact⟨P,hP,by simp⟩
  |cons M Ms ih=>
   intro h;obtain⟨P,hP,h1⟩:=ih λL hL=>by grind
   obtain⟨Q,hQ,h2⟩:=one M (h M (by simp));refine⟨WR P Q,tO hP hQ,λL hL=>?_⟩;rw[dZ];rcases kC.1 hL with rfl|hL
   ·have:=hP.2 L (h L (by simp));omega
   ·have:=h1 L hL;have:=hQ.2 L (by grind);omega
 obtain⟨P,hP,h⟩:=many (Be a++Be b) λL hL=>hL
 exact⟨P,hP.1,h⟩
structure Vtx(Ls:List Ci)(L M P:Ci):Prop where
 inK:J7 Ls P
 l:L∈Ls
 m:M∈Ls
 zl:BS L P=0
 zm:BS M P=0
 np:L.1*M.2.1-M.1*L.2.1≠0
theorem tP{a b:List Pt}(ha:VP a)(hb:VP b)(hap:¬apart a b){f:Ci}(hf:f.1≠0\/f.2.1≠0):∃L M P,Vtx (Be a++Be b) L M P/\BS f P≠0:=by
 obtain⟨c,cw,cp⟩:=oM ha hb hap;have bd:∀d,d≠(0,0)->∃L∈Be a++Be b,dv L d<0:=λd hd=>by obtain⟨L,hL,h⟩:=tN ha hd;grind
 have cK:J7 (Be a++Be b) c:=⟨cw,by grind⟩
 have ρ:0<f.1*f.1+f.2.1*f.2.1:=by
  have h1:=NW f.1;have h2:=NW f.2.1;rcases hf with h|h
  ·have:f.1*f.1≠0:=λq=>h (nW q);omega
  ·have:f.2.1*f.2.1≠0:=λq=>h (nW q);omega
 have go_:∀g,0<g.1*g.1+g.2.1*g.2.1->0<=BS g c->∃L M P,Vtx (Be a++Be b) L M P/\0<BS g P:=λg Wg g0=>by
  obtain⟨r,s,L,hL,rp,sp,hK,hd,hz,es⟩:=ray cK (g.1,g.2.1) (bd _ (by grind));have sp':0<s:=by rw[es];exact cp L hL
  have gp:0<BS g (RN r c s (g.1,g.2.1)):=by rw[Qk];have:=oJ (w8 rp) g0;have:=y0 sp' Wg;have e:dv g (g.1,g.2.1)=g.1*g.1+g.2.1*g.2.1:=rfl;rw[e];omega
  generalize RN r c s (g.1,g.2.1)=P at*;have Lne:¬(L.1=0/\L.2.1=0):=by grind[dv]
  have fin_:∀Z,Z≠(0,0)->(∀M,dv M Z≠0->L.1*M.2.1-M.1*L.2.1≠0)->dv L Z=0->0<=dv g Z->∃L M P,Vtx (Be a++Be b) L M P/\0<BS g P:=λZ hτ hM hLτ hg=>by
   obtain⟨r2,s2,M,hMm,r2p,s2p,hK2,hd2,hz2,_⟩:=ray hK Z (bd _ hτ);refine⟨L,M,RN r2 P s2 Z,⟨hK2,hL,hMm,?_,hz2,hM M (by omega)⟩,?_⟩
   ·rw[Qk,hz,hLτ];simp
   ·rw[Qk];have:=y0 r2p gp;have:=oJ s2p hg;omega
  by_cases hg:0<=dv g (L.2.1,-L.1)
  ·refine fin_ (L.2.1,-L.1) (λe=>Lne ?_) (λM hM q=>hM ?_) ?_ hg;all_goals grind[dv]
  ·refine fin_ (-L.2.1,L.1) (λe=>Lne ?_) (λM hM q=>hM ?_) ?_ ?_;all_goals grind[dv]
 by_cases h0:0<=BS f c
 ·grind
 ·have en:∀P,BS (-f.1,-f.2.1,-f.2.2) P= -BS f P:=by grind[BS]
  grind
def KU(L M:Ci):Ci:=(L.2.1*M.2.2-M.2.1*L.2.2,L.2.2*M.1-M.2.2*L.1,L.1*M.2.1-M.1*L.2.1)
def oN(P:Ci):Ci:=(-P.1,-P.2.1,-P.2.2)
def KV(P:Ci):Ci:=if P.2.2<0 then oN P else P
def GX(P Q R:Ci):Int:=P.1*(Q.2.1*R.2.2-Q.2.2*R.2.1)-P.2.1*(Q.1*R.2.2-Q.2.2*R.1)+P.2.2*(Q.1*R.2.1-Q.2.1*R.1)
def ga(Ls:List Ci)(i:Nat):Ci:=Ls.getD i (0,0,0)
theorem eA{Ls:List Ci}{i:Nat}(h:i<Ls.length):ga Ls i=Ls[i]:=by unfold ga;simp[h]
theorem IS{Ls:List Ci}{i:Nat}(h:i<Ls.length):ga Ls i∈Ls:=by rw[eA h];exact by grind
theorem QY{Ls:List Ci}{L:Ci}(h:L∈Ls):∃i,i<Ls.length/\L=ga Ls i:=by obtain⟨i,hi,e⟩:=List.getElem_of_mem h;exact⟨i,hi,by rw[eA hi,e]⟩
def Cmn(Ls:List Ci)(P:Ci):Prop:=∃i k,i<k/\k<Ls.length/\(KU (ga Ls i) (ga Ls k)).2.2≠0/\P=KV (KU (ga Ls i) (ga Ls k))/\∀L∈Ls,0<=BS L P
theorem eC{C:Ci}(h:C.2.2≠0):0<(KV C).2.2:=by grind[KV,oN]
theorem tQ{C P:Ci}(h1:C.2.2*P.1=P.2.2*C.1)(h2:C.2.2*P.2.1=P.2.2*C.2.1):(KV C).2.2*P.1=P.2.2*(KV C).1/\(KV C).2.2*P.2.1=P.2.2*(KV C).2.1:=by grind[KV,oN]
theorem Cmn.inK{Ls:List Ci}{P:Ci}(h:Cmn Ls P):J7 Ls P:=by obtain⟨i,k,_,_,hw,rfl,h⟩:=h;exact⟨eC hw,h⟩
theorem tT{Ls:List Ci}{L M P:Ci}(h:Vtx Ls L M P):∃Q,Cmn Ls Q/\∀f,BS f P≠0->BS f Q≠0:=by
 obtain⟨i,hi,Hu⟩:=QY h.l;obtain⟨k,hk,eM⟩:=QY h.m;have np:=h.np;have zl:=h.zl;have zm:=h.zm;have pw:=h.inK.1;have key:∀A B,A.1*B.2.1-B.1*A.2.1≠0->BS A P=0->BS B P=0->(KU A B).2.2≠0/\(∀f,P.2.2*BS f (KV (KU A B))=(KV (KU A B)).2.2*BS f P):=λA B hn zA zB=>by have w:(KU A B).2.2≠0:=hn;have p:=tQ (C:=KU A B) (P:=P) (by grind[KU,BS]) (by grind[KU,BS]);grind[BS]
 have fin_:∀A B,A.1*B.2.1-B.1*A.2.1≠0->BS A P=0->BS B P=0->(KU A B).2.2≠0/\(∀L∈Ls,0<=BS L (KV (KU A B)))/\∀f,BS f P≠0->BS f (KV (KU A B))≠0:=λA B hn zA zB=>by
  obtain⟨w,e⟩:=key A B hn zA zB;have q:=eC w;refine⟨w,λL hL=>?_,λf hf hz=>?_⟩
  ·have e1:=e L;have:=oJ (w8 q) (h.inK.2 L hL);exact FE pw (by omega)
  ·have e1:=e f;grind[DV]
 rcases Nat.lt_trichotomy i k with c|c|c
 ·obtain⟨w,h1,h2⟩:=fin_ L M np zl zm;rw[Hu,eM]at w h1 h2;exact⟨_,⟨i,k,c,hk,w,rfl,h1⟩,h2⟩
 ·grind
 ·obtain⟨w,h1,h2⟩:=fin_ M L (by omega) zm zl;rw[Hu,eM]at w h1 h2;exact⟨_,⟨k,i,c,hi,w,rfl,h1⟩,h2⟩
theorem eD{a b:List Pt}(ha:VP a)(hb:VP b)(hap:¬apart a b):∃P Q R,Cmn (Be a++Be b) P/\Cmn (Be a++Be b) Q/\Cmn (Be a++Be b) R/\GX P Q R≠0:=by
 have one:∀f,f.1≠0\/f.2.1≠0->∃Q,Cmn (Be a++Be b) Q/\BS f Q≠0:=λf hf=>by grind[tP,tT]
 obtain⟨P,hP,_⟩:=one (1,0,0) (.inl (by simp));have pw:=hP.inK.1;obtain⟨Q,hQ,hq⟩:=one (P.2.2,0,-P.1) (by omega);obtain⟨R,hR,hr⟩:=one (P.2.1*Q.2.2-P.2.2*Q.2.1,P.2.2*Q.1-P.1*Q.2.2,P.1*Q.2.1-P.2.1*Q.1) (by grind[BS]);grind[GX,BS]
def WS(k:Int)(P c:Ci):Ci:=(k*P.1+c.1,k*P.2.1+c.2.1,k*P.2.2+c.2.2)
theorem oO(L:Ci)(k:Int)(P c:Ci):BS L (WS k P c)=k*BS L P+BS L c:=by unfold BS WS;grind
theorem eE{b:List Pt}(hb:VP b){f P:Ci}(hf:f.1≠0\/f.2.1≠0)(h:∀q∈b,BS f (q.1,q.2,1)<=0)(hP:J7 (Be b) P):BS f P<=0:=by
 rcases Fe 0 (BS f P)with c|c
 case inr=>exact c
 exfalso;have b3:=hb.l3;have hn:0<b.length:=by omega
 obtain⟨C,cw,cp⟩:=oM hb hb (ZK hb);obtain⟨k,k0,hk⟩:∃k:Int,0<=k/\0<k*BS f P+BS f C:=by
  refine⟨if 0<BS f C then 0 else 1-BS f C,?_,?_⟩
  ·split<;>omega
  ·split
   ·omega
   ·have:=Int.mul_le_mul_of_nonneg_left (show 1<=BS f P by omega) (show 0<=1-BS f C by omega);omega
 have ρ:0<(WS k P C).2.2:=by have:=oJ k0 (w8 hP.1);unfold WS;simp;omega
 have pe:∀L∈Be b,0<BS L (WS k P C):=λL hL=>by rw[oO];have:=oJ k0 (hP.2 L hL);have:=cp L (by grind);omega
 have fe:0<BS f (WS k P C):=by rw[oO];exact hk
 generalize WS k P C=Q at ρ pe fe;refine QV (v:=λt=>(Q.2.2*(qa b t).1,Q.2.2*(qa b t).2)) hn (λt=>by simp only[Gh]) (p:=(Q.1,Q.2.1)) (g:=(-f.1,-f.2.1)) (λt=>?_) (λe=>?_) (λt=>?_)
 ·have e:=pe _ (Ha.2 ⟨t%b.length,tH _ hn,rfl⟩);have q:pa b ((t%b.length+1)%b.length)=qa b (t+1):=by unfold qa;rw[JV]
  unfold Hu at e;rw[q,show pa b (t%b.length)=qa b t from rfl]at e;have:=y0 ρ e;have e2:Ao (Q.2.2*(qa b t).1,Q.2.2*(qa b t).2) (Q.2.2*(qa b (t+1)).1,Q.2.2*(qa b (t+1)).2) (Q.1,Q.2.1)=Q.2.2*BS (IR (qa b t) (qa b (t+1))) Q:=by unfold Ao BS IR;grind
  rw[e2];exact this
 ·have e1:=congrArg Prod.fst e;have e2:=congrArg Prod.snd e;omega
 ·have e:=h (qa b t) (Bo (tH _ hn));have:=oJ (w8 ρ) (show 0<=-BS f ((qa b t).1,(qa b t).2,1) by omega);have e2:DP (-f.1,-f.2.1) (Q.1,Q.2.1) (Q.2.2*(qa b t).1,Q.2.2*(qa b t).2)=Q.2.2*(-BS f ((qa b t).1,(qa b t).2,1))+BS f Q:=by unfold DP BS;grind
  omega
theorem kE{A B:List Ci}{P:Ci}(h:J7 (A++B) P):J7 A P:=⟨h.1,λL hL=>h.2 L (by grind)⟩
theorem eF{A B:List Ci}{P:Ci}(h:J7 (A++B) P):J7 B P:=⟨h.1,λL hL=>h.2 L (by grind)⟩
theorem Vc{l:List Pt}(h:VP l){i:Nat}(hi:i<l.length):(Hu l i).1≠0\/(Hu l i).2.1≠0:=by have:=h.ne hi;unfold Hu IR;grind
theorem YL{f P Q R:Ci}(hf:f.1≠0\/f.2.1≠0)(h1:BS f P=0)(h2:BS f Q=0)(h3:BS f R=0):GX P Q R=0:=by
 unfold BS at h1 h2 h3;have z1:f.1*GX P Q R=0:=by unfold GX;grind
 have z2:f.2.1*GX P Q R=0:=by unfold GX;grind
 grind[DV]
theorem kG{a b:List Pt}(ha:VP a)(hb:VP b)(hap:apart a b){P Q R:Ci}(hP:J7 (Be a++Be b) P)(hQ:J7 (Be a++Be b) Q)(hR:J7 (Be a++Be b) R):GX P Q R=0:=by
 rcases hap with⟨i,hi,hs⟩|⟨i,hi,hs⟩
 ·have z:∀S,J7 (Be a++Be b) S->BS (Hu a i) S=0:=λS hS=>by have h1:=hS.2 (Hu a i) (List.mem_append_left _ (Ha.2 ⟨i,hi,rfl⟩));have h2:=eE hb (Vc ha hi) (λq hq=>by rw[Ky];exact hs q hq) (eF hS);omega
  grind[YL,Vc]
 ·have z:∀S,J7 (Be a++Be b) S->BS (Hu b i) S=0:=λS hS=>by have h1:=hS.2 (Hu b i) (List.mem_append_right _ (Ha.2 ⟨i,hi,rfl⟩));have h2:=eE ha (Vc hb hi) (λq hq=>by rw[Ky];exact hs q hq) (kE hS);omega
  grind[YL,Vc]
def mv(d p:Pt):Pt:=(p.1+d.1,p.2+d.2)
theorem Ny(d a b c:Pt):Ao (mv d a) (mv d b) (mv d c)=Ao a b c:=by unfold Ao mv;grind
theorem tF(d:Pt){l:List Pt}(h:Conv l):Conv (l.map (mv d)):=by intro i k hi hk n1 n2;rw[qI]at hi hk n2⊢;have hm:(i+1)%l.length<l.length:=tH _ (by omega);rw[H6 hi,H6 hk,H6 hm,Ny];exact h i k hi hk n1 n2
theorem AcE(d:Pt){l:List Pt}(h:VP l)(ho:∀p∈l,On (mv d p)):VP (l.map (mv d)):=⟨by rw[qI];exact h.l3,by rw[qI];exact h.l8,by grind,tF d h.cv⟩
theorem Uj(N:Nat){l:List Pt}(hl:l.length<=1000)(hs:∀p∈l,CD p){d:Pt}(hd:CD d):∀(n i:Nat),i<=l.length->l.length<n+i->GF N l d.1 d.2 n i ((l.take i).map (mv d)++l.drop i)=some (l.map (mv d))
 |0,i,hi,hn=>by omega
 |n+1,i,hi,hn=>by
  rw[GF];by_cases he:i=l.length
  ·subst he;rw[F2,cF,tM,KJ,qO]
  have hi':i<l.length:=by omega
  have hp:=hs _ (Bo hi');have hd':=hd;unfold CD at hp hd';have e1:A7 ((l.take i).map (mv d)++l.drop i) (i)=some ((pa l i).1,(pa l i).2):=by rw[YD hi',WC hi']
  rw[Dq hi',cT,e1,bS];simp only;rw[Ae (by omega),tK,jX hi',WC hi',bS];rw[Ae (by omega),Ae (by omega),dR hi',<-ns,show((pa l i).1+d.1,(pa l i).2+d.2)=mv d (pa l i)from rfl,jY hi'];exact Uj N hl hs hd n (i+1) (by omega) (by omega)
def Qg(d:Pt):Prop:=(-40<=d.1/\d.1<=40)/\-40<=d.2/\d.2<=40
open Classical in
theorem YJ{N:Nat}(hN:100<=N){l:List Pt}(h:VP l){d:Pt}(hd:Qg d):FT N l d.1 d.2=some (if∀p∈l,On (mv d p)then(l.map (mv d),0)else([],70)):=by
 unfold FT;have l3:=h.l3;have l8:=h.l8;unfold Qg at hd;have hc:=Uj N (by omega) h.sml (d:=d) (by unfold CD;omega) N 0 (by omega) (by omega);rw[show((0:Nat):Int)=0 from rfl,tJ,List.take_zero,tV,pA]at hc;rw[KT hN h,bS,A1 _ (by simp;omega),Ae (by rintro rfl;simp at l3),Ae (by omega),hc,bS,WA hN (by simp;omega),bS];by_cases ho:∀p∈l,On (mv d p)
 ·rw[dW ho,A1 _ (by grind)]
 ·rw[dQ ho,AU _ (by grind)]
section
open Go
attribute [local irreducible] Ax BO BB Bj BC Bk AY BD BK Cq
def EE(N:Nat)(l368:List (Int×Int))(ab:Int)(aa:Int):Nat->Int->(List (Int×Int))->Option ((List (Int×Int)))|0,_,_=>none|n+1,af,l384=>bif decide (af<(l368.length:Int))then((A7 l368 af).bind λ(an,am)=>gd (Af (an+ab))<|gd (Af (am+aa))<|gd ((l384.length+1)*16<=140737488355328)<|gd (Af (af+1))<|EE N l368 ab aa n (af+1) (l384++[(an+ab,am+aa)]))else(some l384)
def EL(N:Nat)(l368:List (Int×Int))(ab:Int)(aa:Int):Option ((List (Int×Int))×Int):=(Cj N l368).bind λbe=>bif ((((!be)||(decide (ab<(-40))))||(decide (40<ab)))||(decide (aa<(-40))))||(decide (40<aa))then(some ([],70))else((EE N l368 ab aa N 0 []).bind λau=>(Cj N au).bind λbb=>bif !bb then(some ([],70))else(some (au,0)))
@[go_sem] def s98(N:Nat):Spec:=p0<|(Aon Aq<|Aoi<|Aoi<|Aof<|Aog ([],0) λr=>.tup [BP r.1,.i r.2]) (EL N)
theorem AbX(N:Nat):AG Tryz.prog 98 (s98 N):=by
 refine fk (Aoq x98 (Ab (SB N)<|Aj)) ?_;intro l368 ab aa r h _ hS F;dsimp only[x98,Ah,Aq];unfold EL at h;obtain⟨be,bj,h⟩:=un h;replace F:=fc bj F;refine An hS F h (λ_ h=>?_) (λ_ h=>?_)
 ·exact Ai hS F h
 ·refine go hS F ?_;refine DT 1000001 8 2 [.i 0,.i 0] (by show(8:Nat)<57;omega) (by omega) (ev F) ?_;obtain⟨bz,da,h⟩:=un h;refine go hS F ?_;refine Bz bz (λz:(List (Int×Int))×Nat=>⟨[(8,.own (1000001,5) z.1.length)],[(.a (1000001,5),LK z.1)],z.2⟩) (λz=>(z.1:(List (Int×Int)))) (.x 0) ?_ ?_
  ·refine Bp (λn (y:Int×(List (Int×Int))×Nat)=>EE N l368 ab aa n y.1 y.2.1) (λy=>⟨[(0,BP l368),(1,.i ab),(2,.i aa),(8,.own (1000001,5) y.2.1.length),(9,.i y.1)],[(.a (1000001,5),LK y.2.1)],y.2.2⟩) (0,[],5) da (Ch F) ?_;rintro n ⟨af,l384,bq⟩ ak;simp only[EE]at ak;refine An hS F ak (λ_ ak=>?_) (λ_ ak=>?_)
   ·obtain⟨⟨an,am⟩,bp,ak⟩:=un ak;obtain⟨cj,F⟩:=Cb Cz bp F;obtain⟨cr,cq,co,cn,ak⟩:=un ak;exact Cd hS F (n,af+1,l384++[(an+ab,am+aa)],bq+1+1+1) ak
   ·exact B4 hS F (l384,bq+1) ak
  ·rintro⟨au,db⟩ rfl;obtain⟨bb,bi,h⟩:=un h;replace F:=fc bi F;refine An hS F h (λ_ h=>?_) (λ_ h=>?_)
   ·exact Ai hS F h
   ·exact Ai hS F h
def Gv(N:Nat)(l396:List (Int×Int))(ai:Int)(ae:Int)(aj:Int):Option (List (Int×Int)):=gd ((l396.length)*16<=140737488355328)<|bif decide ((l396.length:Int)=0)then(some [(ae,ae)])else((EJ N aj (l396.length:Int)).bind λr400=>(EJ N ai 5).bind λah=>bif decide (ah=0)then((A7 l396 r400).bind λ(bw,ba)=>some (l396.set r400.toNat (ae,ba)))else(bif decide (ah=1)then((A7 l396 r400).bind λ(az,bv)=>some (l396.set r400.toNat (az,ae)))else(bif decide (ah=2)then(gd (Af (r400+1))<|gd ((l396.length:Int)≠0)<|(A7 l396 ((r400+1).tmod (l396.length:Int))).bind λ(ay,av)=>(A7 l396 r400).bind λ(bu,br)=>some (l396.set r400.toNat (ay,av)))else(bif decide (ah=3)then(gd (0<=0/\0<=r400/\r400<=r400/\r400<=(l396.length:Int))<|gd (Af (r400+1))<|gd (0<=r400+1/\r400+1<=(l396.length:Int))<|gd (((l396.take (r400.toNat-0)).length+(l396.drop (r400+1).toNat).length)*16<=140737488355328)<|some (l396.take (r400.toNat-0)++(l396.drop (r400+1).toNat)))else(gd (0<=0/\0<=r400/\r400<=r400/\r400<=(l396.length:Int))<|(EJ N aj 50).bind λaq=>gd (Af (aq-5))<|gd (0<=r400/\r400<=(l396.length:Int))<|gd ((1+(l396.drop r400.toNat).length)*16<=140737488355328)<|gd (((l396.take (r400.toNat-0)).length+1+(l396.drop r400.toNat).length)*16<=140737488355328)<|some (l396.take (r400.toNat-0)++([(ae,aq-5)]++(l396.drop r400.toNat))))))))
@[go_sem] def s95(N:Nat):Spec:=p0<|(Aon Aq<|Aoi<|Aoi<|Aoi<|Aof<|Aog [] BP) (Gv N)
theorem AbY(N:Nat):AG Tryz.prog 95 (s95 N):=by
 refine fk (Aoq x95 (Ab (xS N)<|Aj)) ?_;intro l396 ai ae aj r h _ hS F;dsimp only[x95,Ah,Aq];unfold Gv at h;obtain⟨dm,h⟩:=un h;refine An hS F h (λ_ h=>?_) (λ_ h=>?_)
 ·exact Ai hS F h
 ·obtain⟨r400,bh,ah,bg,h⟩:=un h;replace F:=fc bg (fc bh F);refine An hS F h (λ_ h=>?_) (λ_ h=>?_)
  ·obtain⟨⟨bw,ba⟩,bo,h⟩:=un h;obtain⟨ci,F⟩:=Cb Cz bo F;exact Ai hS F h
  ·refine An hS F h (λ_ h=>?_) (λ_ h=>?_)
   ·obtain⟨⟨az,bv⟩,bn,h⟩:=un h;obtain⟨ce,F⟩:=Cb Cz bn F;exact Ai hS F h
   ·refine An hS F h (λ_ h=>?_) (λ_ h=>?_)
    ·obtain⟨dl,cr,⟨ay,av⟩,bm,h⟩:=un h;obtain⟨b9,F⟩:=Cb Cz bm F;obtain⟨⟨bu,br⟩,bl,h⟩:=un h;obtain⟨b7,F⟩:=Cb Cz bl F;exact Ai hS F h
    ·refine An hS F h (λ_ h=>?_) (λ_ h=>?_)
     ·refine go hS F ?_;refine Wh 9 (by show(9:Nat)<81;omega) (ev F) (ev F) (by simp) ?_;obtain⟨cq,co,cn,dh,h⟩:=un h;exact Ai hS F h
     ·refine go hS F ?_;refine Wh 9 (by show(9:Nat)<81;omega) (ev F) (ev F) (by simp) ?_;obtain⟨dg,aq,bf,de,cz,cy,cu,h⟩:=un h;exact Ai hS (fc bf F) h
end
def rs(f:Nat->Int)(n:Nat):Int:=((List.range n).map f).sum
def cs(F:Pt×Pt->Int)(l:List Pt):Int:=((Co l).map F).sum
theorem SW(N:Nat){l:List Pt}(hl:l.length<=1000)(hs:∀p∈l,CD p){d:Pt}(hd:CD d):∀(n i:Nat)(out:List Pt),i<=l.length->l.length<n+i->out=(l.take i).map (mv d)->EE N l d.1 d.2 n i out=some (l.map (mv d))
 |0,i,out,h1,h2,_=>by omega
 |n+1,i,out,h1,h2,ho=>by
  rw[EE];by_cases he:i=l.length
  ·subst he;rw[F2,cF,ho,KJ]
  have hi:i<l.length:=by omega
  have hp:=hs _ (Bo hi);have ol:out.length=i:=by rw[ho];simp;omega
  have hd':=hd;unfold CD at hp hd';rw[Dq hi,cT,F1 hi,bS];simp only;rw[Ae (by unfold Af;omega),Ae (by unfold Af;omega),Ae (by omega),Ae (by unfold Af;omega),<-ns];refine SW N hl hs hd n (i+1) _ (by omega) (by omega) ?_;rw[List.take_succ_eq_append_getElem hi,uI,List.map_singleton,<-De hi,ho];rfl
open Classical in
theorem eH{N:Nat}(hN:100<=N)(l:List Pt)(dx dy:Int):∃r,FT N l dx dy=some r/\EL N l dx dy=some r/\r.1.length<=8:=by
 by_cases h:VP l
 ·have l8:=h.l8;by_cases hd:Qg (dx,dy)
  ·refine⟨_,YJ hN h hd,?_,?_⟩
   ·unfold EL;unfold Qg at hd;simp only at hd;have hc:=SW N (by omega) h.sml (d:=(dx,dy)) (by unfold CD;simp only;omega) N 0 [] (by omega) (by omega) (by simp);rw[nL]at hc;simp only at hc;rw[F7 hN,Li.2 h,bS,A1 _ (by simp;omega),hc,bS,F7 hN,bS];by_cases ho:∀p∈l,On (mv (dx,dy) p)
    ·rw[dW ho,Li.2 (AcE (dx,dy) h ho),A1 _ (by rfl)]
    ·rw[dQ ho,KK.2 (λq=>ho λp hp=>q.on _ (List.mem_map.2 ⟨p,hp,rfl⟩)),AU _ (by rfl)]
   ·split
    ·simp only[qI];exact l8
    ·simp
  ·unfold Qg at hd;simp only at hd;refine⟨([],70),?_,?_,by simp⟩
   ·unfold FT;rw[KT hN h,bS,AU _ (by simp;omega)]
   ·unfold EL;rw[F7 hN,Li.2 h,bS,AU _ (by simp;omega)]
 ·refine⟨([],70),?_,?_,by simp⟩
  ·unfold FT;rw[IJ hN,KK.2 h,bS,AU _ (by rfl)]
  ·unfold EL;rw[F7 hN,KK.2 h,bS,AU _ (by rfl)]
