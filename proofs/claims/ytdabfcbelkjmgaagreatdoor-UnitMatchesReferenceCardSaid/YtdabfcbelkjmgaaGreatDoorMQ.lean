import Derived.Test.YtdabfcbelkjmgaaGreatDoorMH
namespace Go.Proofs.YtdabfcbelkjmgaaGreatDoor.Am
set_option linter.unusedSimpArgs false
set_option linter.unusedVariables false
theorem rL {P:List Pt} (hb:∀p∈P,Sml p) (f:Pt):∀(n:Nat) (o:Pt) (out:List Pt),HGood P f o out→P.length<n+out.length→∃r:List Pt,0<r.length∧(∀p∈r,p∈P)∧((∃o,∀p∈P,p=o)∨∀i,i<r.length→Edge P (pa r i) (pa r ((i+1)%r.length)))
 |0,o,out,h,hn=>by
  have:=Ge out P h.nd h.sub
  omega
 |n+1,o,out,h,hn=>by
  have hl:=h.len
  have ho:o∈out:=by rw[←h.lst];exact AJ (by omega)
  rcases Nv (h.sub o ho) (h.ext o ho) with⟨h1,h2⟩|hE
  ·exact⟨out,hl,h.sub,.inl ⟨o,h2⟩⟩
  ·by_cases hf:sel o P=f
   ·refine⟨out,hl,h.sub,.inr fun i hi=> ?_⟩
    by_cases hc:i+1<out.length
    ·rw[Nat.mod_eq_of_lt hc];exact h.edge i hc
    ·have e:i+1=out.length:=by omega
     have e2:i=out.length-1:=by omega
     rw[e,Nat.mod_self,h.hd,e2,h.lst,←hf]
     exact hE
   ·have hno:sel o P∉out:=fun hm=>by
     obtain⟨j,hj,e⟩:=EV hm
     have j0:j≠0:=by rintro rfl;exact hf (by rw[←e,h.hd])
     have hEj:=h.edge (j-1) (by omega)
     rw[show j-1+1=j by omega,e] at hEj
     have:=Edge.pred hE hEj
     rw[←h.lst] at this
     have:=HL h.nd (by omega) (by omega) this
     omega
    refine rL hb f n (sel o P) (out++[sel o P]) ⟨by simp,by rw[Es hl,h.hd], ?_, ?_, ?_, ?_, ?_⟩ (by simp;omega)
    ·rw[List.length_append,GH (by simp) (by simp)]
     simp[pa]
    ·rw[List.nodup_append]
     exact⟨h.nd,by simp,fun a ha b hb'=>by simp at hb';rintro rfl;exact hno (hb'▸ha)⟩
    ·intro p hp
     rcases List.mem_append.1 hp with hp|hp
     ·exact h.sub p hp
     ·simp at hp;rw[hp];exact hE.mw
    ·intro p hp
     rcases List.mem_append.1 hp with hp|hp
     ·exact h.ext p hp
     ·simp at hp;rw[hp];exact hE.ext hb
    ·intro i hi
     rw[List.length_append,List.length_singleton] at hi
     by_cases hc:i+1<out.length
     ·rw[Es (by omega),Es hc];exact h.edge i hc
     ·have e2:i=out.length-1:=by omega
      rw[Es (by omega),GH (by omega) (by simp;omega),e2,h.lst]
      rw[show out.length-1+1-out.length=0 by omega]
      exact hE
theorem sQ {P:List Pt} (hb:∀p∈P,Sml p) (h0:P≠[]):∃r:List Pt,0<r.length∧(∀p∈r,p∈P)∧((∃o,∀p∈P,p=o)∨∀i,i<r.length→Edge P (pa r i) (pa r ((i+1)%r.length))):=by
 obtain⟨p0,P',rfl⟩:∃p0 P',P=p0::P':=by
  cases P with
  |nil=>exact absurd rfl h0
  |cons a b=>exact⟨a,b,rfl⟩
 obtain⟨h1,h2⟩:=JJ (p0::P') p0
 have hm:low p0 (p0::P')∈p0::P':=by
  rcases List.mem_cons.1 h1 with h|h
  ·rw[h];simp
  ·exact h
 have hx:=Oz hb hm (fun p hp=>h2 p (by simp[hp]))
 exact rL hb _ ((p0::P').length) _ [low p0 (p0::P')] (Nw hm hx) (by simp)
theorem rT {b:List Pt} (h:VP b) {P Q:Pt} (hne:P≠Q) (hs:∀q∈b,trn P Q q≤0) {x y:Nat} (hxy:x<y) (hy:y<b.length) (ex:trn P Q (pa b x)=0) (ey:trn P Q (pa b y)=0):
  ∃t,t<b.length∧trn P Q (pa b t)=0∧trn P Q (pa b ((t+1)%b.length))=0:=by
 have l3:=h.l3
 have hn:0<b.length:=by omega
 by_cases adj:y=x+1
 ·exact⟨x,by omega,ex,by rw[Nat.mod_eq_of_lt (by omega),←adj];exact ey⟩
 by_cases adj2:x=0∧y+1=b.length
 ·exact⟨y,hy,ey,by rw[adj2.2,Nat.mod_self,←adj2.1];exact ex⟩
 exfalso
 have t1:=EE h.cv x 1 (by omega) (y-x-2) (by omega)
 rw[show x+(1+(y-x-2)+1)=y by omega,Cm hy,Cm (by omega:x<b.length)] at t1
 obtain⟨w,hw1,hw2⟩:∃w,y-x<w∧w<b.length:=⟨y-x+1,by omega,by omega⟩
 have t2:=EE h.cv x (y-x) (by omega) (w-(y-x)-1) (by omega)
 rw[show x+(y-x+(w-(y-x)-1)+1)=x+w by omega,show x+(y-x)=y by omega,Cm hy,Cm (by omega:x<b.length)] at t2
 have r1:=Gj P Q (pa b x) (pa b y) (qa b (x+1)) ex ey
 have r2:=Gj P Q (pa b x) (pa b y) (qa b (x+w)) ex ey
 have D:=H0 hne
 have k1:=hs _ (ED hn (x+1))
 have k2:=hs _ (ED hn (x+w))
 have e1:trn (pa b x) (pa b y) (qa b (x+1))= -trn (pa b x) (qa b (x+1)) (pa b y):=by unfold trn;grind
 rw[e1] at r1
 generalize dd P Q (pa b y)-dd P Q (pa b x)=s at*
 generalize dd P Q Q=D' at*
 generalize trn (pa b x) (qa b (x+1)) (pa b y)=A at*
 generalize trn (pa b x) (pa b y) (qa b (x+w))=B at*
 generalize trn P Q (qa b (x+1))=f1 at*
 generalize trn P Q (qa b (x+w))=f2 at*
 have m1:=Int.mul_pos t1 D
 have m2:=Int.mul_pos t2 D
 have m3:f1*s<0:=by rw[←r1,Int.neg_mul];omega
 have m4:0<f2*s:=by omega
 rcases Int.lt_or_le 0 s with q|q
 ·have:=Int.mul_nonneg (show 0≤-f2 by omega) (Int.le_of_lt q)
  rw[Int.neg_mul] at this;omega
 ·have:=Int.mul_nonneg (show 0≤-f1 by omega) (show 0≤-s by omega)
  rw[Int.neg_mul_neg] at this;omega
theorem rU {a b:List Pt} (hb:VP b) {P Q:Pt} (hne:P≠Q) (hs:∀q∈b,trn P Q q≤0) (ha:∀q∈a,0≤trn P Q q) {u v:Pt} (hu:u∈b) (hv:v∈b) (huv:u≠v) (zu:trn P Q u=0) (zv:trn P Q v=0):∃t,t<b.length∧sep b t a:=by
 obtain⟨x,hx,rfl⟩:=EV hu
 obtain⟨y,hy,rfl⟩:=EV hv
 have hxy:x≠y:=fun e=>huv (by rw[e])
 obtain⟨t,ht,e1,e2⟩:∃t,t<b.length∧trn P Q (pa b t)=0∧trn P Q (pa b ((t+1)%b.length))=0:=by
  rcases Nat.lt_or_gt_of_ne hxy with q|q
  ·exact rT hb hne hs q hy zu zv
  ·exact rT hb hne hs q hx zv zu
 refine⟨t,ht,fun q hq=> ?_⟩
 have D:=H0 hne
 obtain⟨y',hy',py⟩:=Iq hb ht
 have r1:=Gj P Q _ _ y' e1 e2
 have r2:=Gj P Q _ _ q e1 e2
 have k1:=hs y' hy'
 have k2:=ha q hq
 unfold E at py⊢
 generalize dd P Q (pa b ((t+1)%b.length))-dd P Q (pa b t)=s at*
 have m1:=Int.mul_pos py D
 have sneg:s<0:=by
  rcases Int.lt_or_le s 0 with c|c
  ·exact c
  ·have:=Int.mul_nonneg (show 0≤-trn P Q y' by omega) c
   rw[Int.neg_mul] at this;omega
 have m2:=Int.mul_nonneg k2 (show 0≤-s by omega)
 rw[Int.mul_neg] at m2
 rcases Int.lt_or_le 0 (trn (pa b t) (pa b ((t+1)%b.length)) q) with c|c
 ·have:=Int.mul_pos c D;omega
 ·exact c
def qU (p q:Pt):Pt:=(p.1-q.1,p.2-q.2)
def rH (a b:List Pt):List Pt:=b.flatMap fun q=>a.map fun p=>qU q p
theorem qW {a b:List Pt} {d:Pt}:d∈rH a b↔∃q∈b,∃p∈a,d=qU q p:=by
 unfold rH
 simp only[List.mem_flatMap,List.mem_map]
 exact⟨fun⟨q,hq,p,hp,e⟩=>⟨q,hq,p,hp,e.symm⟩,fun⟨q,hq,p,hp,e⟩=>⟨q,hq,p,hp,e.symm⟩⟩
def crx (a b:Pt):Int:=a.1*b.2-a.2*b.1
theorem sC {a b:List Pt} (ha:VP a) (hb:VP b) {v w:Pt} (hE:Edge (rH a b) v w) (h0:crx v w≤0):apart a b:=by
 obtain⟨q1,hq1,p1,hp1,rfl⟩:=qW.1 hE.mv
 obtain⟨q2,hq2,p2,hp2,rfl⟩:=qW.1 hE.mw
 have hl:=fun q hq p hp=>hE.left (qU q p) (qW.2 ⟨q,hq,p,hp,rfl⟩)
 have ne:=hE.ne
 obtain⟨τ,hτ⟩:∃τ:Pt,τ=qU (qU q2 p2) (qU q1 p1):=⟨_,rfl⟩
 have lin1:∀q p,trn (qU q1 p1) (qU q2 p2) (qU q p)=(crx τ q-crx τ p)-(crx τ q1-crx τ p1):=fun q p=>by
  rw[hτ];unfold trn qU crx;simp only;grind
 have z2:crx τ q2-crx τ p2=crx τ q1-crx τ p1:=by rw[hτ];unfold qU crx;simp only;grind
 have z0:crx (qU q1 p1) (qU q2 p2)= -(crx τ q1-crx τ p1):=by rw[hτ];unfold qU crx;simp only;grind
 have hv:0≤crx τ q1-crx τ p1:=by omega
 have all:∀q∈b,∀p∈a,crx τ q1-crx τ p1≤crx τ q-crx τ p:=fun q hq p hp=>by
  have:=hl q hq p hp
  rw[lin1] at this;omega
 have τne:τ≠(0,0):=fun e=>by
  rw[hτ] at e
  have e1:=congrArg Prod.fst e
  have e2:=congrArg Prod.snd e
  unfold qU at e1 e2
  simp only at e1 e2
  exact ne (by unfold qU;exact Prod.ext (by simp only;omega) (by simp only;omega))
 have b1:∀q∈b,crx τ q1≤crx τ q:=fun q hq=>by have:=all q hq p1 hp1;omega
 have a1:∀p∈a,crx τ p≤crx τ p1:=fun p hp=>by have:=all q1 hq1 p hp;omega
 have eq:crx τ q2=crx τ q1:=by have:=all q2 hq2 p1 hp1;have:=all q1 hq1 p2 hp2;omega
 have ep:crx τ p2=crx τ p1:=by omega
 have sh:∀x y:Pt,trn x (x.1+τ.1,x.2+τ.2) y=crx τ y-crx τ x:=fun x y=>by unfold trn crx;simp only;grind
 have sh2:∀x y:Pt,trn (x.1+τ.1,x.2+τ.2) x y=crx τ x-crx τ y:=fun x y=>by unfold trn crx;simp only;grind
 have shne:∀x:Pt,x≠(x.1+τ.1,x.2+τ.2):=fun x e=>τne (by
  have e1:=congrArg Prod.fst e
  have e2:=congrArg Prod.snd e
  simp only at e1 e2
  exact Prod.ext (by simp only;omega) (by simp only;omega))
 by_cases hq:q1=q2
 ·have hp:p1≠p2:=fun e=>ne (by rw[hq,e])
  left
  refine rU (b:=a) (a:=b) ha (shne p1) (fun p hp=> ?_) (fun q hq=> ?_) hp1 hp2 hp ?_ ?_
  ·rw[sh];have:=a1 p hp;omega
  ·rw[sh];have:=b1 q hq;omega
  ·rw[sh];omega
  ·rw[sh];omega
 ·right
  refine rU (b:=b) (a:=a) hb (Ne.symm (shne q1)) (fun q hq=> ?_) (fun p hp=> ?_) hq1 hq2 hq ?_ ?_
  ·rw[sh2];have:=b1 q hq;omega
  ·rw[sh2];have:=a1 p hp;omega
  ·rw[sh2];omega
  ·rw[sh2];omega
theorem tV {n:Nat} {v:Nat→Pt} (hn:0<n) (per:∀t,v (t+n)=v t) (h:∀t,0<crx (v t) (v (t+1))) (e:Pt) (he:e≠(0,0)):∃t,0≤crx (v t) e∧0≤crx e (v (t+1)):=by
 by_cases hex:∃t,0≤crx (v t) e∧0≤crx e (v (t+1))
 ·exact hex
 exfalso
 have h0:∀t,0<trn (v t) (v (t+1)) (0,0):=fun t=>by
  have:=h t
  have e2:trn (v t) (v (t+1)) (0,0)=crx (v t) (v (t+1)):=by unfold trn crx;simp only;grind
  omega
 have sw:∀x:Pt,crx e x= -crx x e:=fun x=>by unfold crx;grind
 have nx:∀t,0≤crx (v t) e→0<crx (v (t+1)) e:=fun t ht=>by
  rcases Int.lt_or_le 0 (crx (v (t+1)) e) with c|c
  ·exact c
  ·exact absurd ⟨t,ht,by rw[sw];omega⟩ hex
 by_cases hs:∃t,0≤crx (v t) e
 ·obtain⟨m,hm⟩:=hs
  have all:∀k,0<crx (v (m+1+k)) e:=by
   intro k
   induction k with
   |zero=>exact nx m hm
   |succ k ih=>exact nx (m+1+k) (Int.le_of_lt ih)
  refine OJ (v:=fun t=>v (m+1+t)) hn (fun t=>by show v (m+1+(t+n))=v (m+1+t);rw[←Nat.add_assoc];exact per _) (p:=(0,0)) (g:=(e.2,-e.1)) (fun t=>h0 (m+1+t)) (fun q=>he ?_) fun t=> ?_
  ·have e1:=congrArg Prod.fst q
   have e2:=congrArg Prod.snd q
   simp only at e1 e2
   exact Prod.ext (by simp only;omega) (by simp only;omega)
  ·have:=all t
   unfold crx at this
   unfold lin
   simp only
   have e3:e.2*((v (m+1+t)).1-0)+ -e.1*((v (m+1+t)).2-0)=(v (m+1+t)).1*e.2-(v (m+1+t)).2*e.1:=by grind
   omega
 ·refine OJ (v:=v) hn per (p:=(0,0)) (g:=(-e.2,e.1)) h0 (fun q=>he ?_) fun t=> ?_
  ·have e1:=congrArg Prod.fst q
   have e2:=congrArg Prod.snd q
   simp only at e1 e2
   exact Prod.ext (by simp only;omega) (by simp only;omega)
  ·have:¬0≤crx (v t) e:=fun c=>hs ⟨t,c⟩
   unfold crx at this
   unfold lin
   simp only
   have e3: -e.2*((v t).1-0)+e.1*((v t).2-0)= -((v t).1*e.2-(v t).2*e.1):=by grind
   omega
abbrev Tr3:=Int×Int×Int
def ev (L P:Tr3):Int:=L.1*P.1+L.2.1*P.2.1+L.2.2*P.2.2
def dv (L:Tr3) (d:Pt):Int:=L.1*d.1+L.2.1*d.2
def qX (p q:Pt):Tr3:=(p.2-q.2,q.1-p.1,(q.2-p.2)*p.1-(q.1-p.1)*p.2)
def eLn (l:List Pt) (i:Nat):Tr3:=qX (pa l i) (pa l ((i+1)%l.length))
def qT (l:List Pt):List Tr3:=(List.range l.length).map (eLn l)
theorem qV {l:List Pt} {L:Tr3}:L∈qT l↔∃i,i<l.length∧L=eLn l i:=by
 unfold qT
 simp only[List.mem_map,List.mem_range]
 exact⟨fun⟨i,h,e⟩=>⟨i,h,e.symm⟩,fun⟨i,h,e⟩=>⟨i,h,e.symm⟩⟩
theorem rB (l:List Pt) (i:Nat) (p:Pt):ev (eLn l i) (p.1,p.2,1)=E l i p:=by unfold ev eLn qX E trn;simp only;grind
def rK (r:Int) (P:Tr3) (s:Int) (d:Pt):Tr3:=(r*P.1+s*d.1,r*P.2.1+s*d.2,r*P.2.2)
theorem rD (L P:Tr3) (r s:Int) (d:Pt):ev L (rK r P s d)=r*ev L P+s*dv L d:=by unfold ev rK dv;simp only;grind
def rV (P Q:Tr3):Tr3:=(P.1+Q.1,P.2.1+Q.2.1,P.2.2+Q.2.2)
theorem sH (L P Q:Tr3):ev L (rV P Q)=ev L P+ev L Q:=by unfold ev rV;simp only;grind
def InK (Ls:List Tr3) (P:Tr3):Prop:=0<P.2.2∧∀L∈Ls,0≤ev L P
theorem rJ (P:Tr3) (d:Pt):∀(Ls:List Tr3),(∃L∈Ls,dv L d<0)→∃L∈Ls,dv L d<0∧∀M∈Ls,dv M d<0→ev L P*(-dv M d)≤ev M P*(-dv L d)
 |[],h=>by obtain⟨L,hL,_⟩:=h;simp at hL
 |A::Ls,h=>by
  by_cases hr:∃L∈Ls,dv L d<0
  ·obtain⟨L,hL,h1,h2⟩:=rJ P d Ls hr
   by_cases hA:dv A d<0
   ·by_cases hc:ev L P*(-dv A d)≤ev A P*(-dv L d)
    ·refine⟨L,by simp[hL],h1,fun M hM hd=> ?_⟩
     rcases List.mem_cons.1 hM with rfl|hM
     ·exact hc
     ·exact h2 M hM hd
    ·refine⟨A,by simp,hA,fun M hM hd=> ?_⟩
     rcases List.mem_cons.1 hM with rfl|hM
     ·exact Int.le_refl _
     ·have k:=h2 M hM hd
      generalize ev L P=x at*
      generalize ev A P=y at*
      generalize ev M P=z at*
      generalize hl: -dv L d=l at*
      generalize ha: -dv A d=a at*
      generalize hm: -dv M d=m at*
      have lp:0<l:=by omega
      have ap:0<a:=by omega
      have mp:0<m:=by omega
      have k1:0≤m*(x*a-y*l):=Int.mul_nonneg (Int.le_of_lt mp) (by omega)
      have k2:0≤a*(z*l-x*m):=Int.mul_nonneg (Int.le_of_lt ap) (by omega)
      have k3:l*(z*a-y*m)=m*(x*a-y*l)+a*(z*l-x*m):=by grind
      have:=BA lp (b:=z*a-y*m) (by omega)
      omega
   ·refine⟨L,by simp[hL],h1,fun M hM hd=> ?_⟩
    rcases List.mem_cons.1 hM with rfl|hM
    ·exact absurd hd hA
    ·exact h2 M hM hd
  ·obtain⟨L,hL,h1⟩:=h
   rcases List.mem_cons.1 hL with rfl|hL
   ·refine⟨L,by simp,h1,fun M hM hd=> ?_⟩
    rcases List.mem_cons.1 hM with rfl|hM
    ·exact Int.le_refl _
    ·exact absurd ⟨M,hM,hd⟩ hr
   ·exact absurd ⟨L,hL,h1⟩ hr
theorem ray {Ls:List Tr3} {P:Tr3} (hP:InK Ls P) (d:Pt) (hd:∃L∈Ls,dv L d<0):∃r s L,L∈Ls∧0<r∧0≤s∧InK Ls (rK r P s d)∧dv L d<0∧ev L (rK r P s d)=0∧s=ev L P:=by
 obtain⟨L,hL,h1,h2⟩:=rJ P d Ls hd
 have e0:=hP.2 L hL
 refine⟨-dv L d,ev L P,L,hL,by omega,e0,⟨Int.mul_pos (by omega) hP.1,fun M hM=> ?_⟩,h1, ?_,rfl⟩
 ·rw[rD]
  have eM:=hP.2 M hM
  by_cases hd:dv M d<0
  ·have:=h2 M hM hd
   rw[Int.mul_neg] at this
   rw[Int.mul_comm (-dv L d)]
   omega
  ·have k1:=Int.mul_nonneg (show 0≤-dv L d by omega) eM
   have k2:=Int.mul_nonneg e0 (show 0≤dv M d by omega)
   omega
 ·rw[rD,Int.neg_mul,Int.mul_comm];omega
theorem tD {l:List Pt} (h:VP l) {d:Pt} (hd:d≠(0,0)):∃L∈qT l,dv L d<0:=by
 have l3:=h.l3
 have hn:0<l.length:=by omega
 by_cases hex:∃L∈qT l,dv L d<0
 ·exact hex
 exfalso
 have nn:∀t,crx (qa l t) d≤crx (qa l (t+1)) d:=fun t=>by
  have hm:=qV.2 ⟨t%l.length,Nat.mod_lt _ hn,rfl⟩
  have:¬dv (eLn l (t%l.length)) d<0:=fun q=>hex ⟨_,hm,q⟩
  have e:dv (eLn l (t%l.length)) d=crx (qa l (t+1)) d-crx (qa l t) d:=by
   have q:pa l ((t%l.length+1)%l.length)=qa l (t+1):=by unfold qa;rw[Nat.mod_add_mod]
   unfold eLn
   rw[q,show pa l (t%l.length)=qa l t from rfl]
   unfold dv qX crx;simp only;grind
  omega
 have up:∀k t,crx (qa l t) d≤crx (qa l (t+k)) d:=by
  intro k
  induction k with
  |zero=>intro t;exact Int.le_refl _
  |succ k ih=>intro t;have:=ih t;have:=nn (t+k);rw[←Nat.add_assoc];omega
 have c1:crx (qa l 0) d=crx (qa l 1) d:=by
  have a1:=nn 0
  have a2:=up (l.length-1) 1
  rw[show 1+(l.length-1)=0+l.length by omega,BP] at a2
  have a1:crx (qa l 0) d≤crx (qa l 1) d:=a1
  omega
 have c2:crx (qa l 1) d=crx (qa l 2) d:=by
  have a1:crx (qa l 1) d≤crx (qa l 2) d:=nn 1
  have a2:=up (l.length-2) 2
  rw[show 2+(l.length-2)=0+l.length by omega,BP] at a2
  omega
 have c:=BF h.cv (s:=0) (a:=2) (by omega) (by omega)
 simp only[Nat.zero_add] at c
 have z1:d.1*trn (qa l 0) (qa l 1) (qa l 2)=0:=by unfold trn;unfold crx at c1 c2;grind
 have z2:d.2*trn (qa l 0) (qa l 1) (qa l 2)=0:=by unfold trn;unfold crx at c1 c2;grind
 rcases Int.mul_eq_zero.1 z1 with q|q
 ·rcases Int.mul_eq_zero.1 z2 with w|w
  ·exact hd (Prod.ext q w)
  ·omega
 ·omega
theorem rF {a b:List Pt} (ha:VP a) (hb:VP b) (hap:¬apart a b) {p q:Pt} (hp:p∈a) (hq:q∈b):∃P k,0<k∧InK (qT a++qT b) P∧(∀i,i<a.length→k*E a i p≤ev (eLn a i) P)∧∀j,j<b.length→k*E b j q≤ev (eLn b j) P:=by
 have a3:=ha.l3
 have b3:=hb.l3
 have good:∀P:Tr3,0<P.2.2→(∀i,i<a.length→0≤ev (eLn a i) P)→(∀j,j<b.length→0≤ev (eLn b j) P)→InK (qT a++qT b) P:=fun P h1 h2 h3=>by
  refine⟨h1,fun L hL=> ?_⟩
  rcases List.mem_append.1 hL with h|h
  ·obtain⟨i,hi,rfl⟩:=qV.1 h;exact h2 i hi
  ·obtain⟨i,hi,rfl⟩:=qV.1 h;exact h3 i hi
 by_cases hd:qU q p=(0,0)
 ·have e:q=p:=by
   unfold qU at hd
   have e1:=congrArg Prod.fst hd
   have e2:=congrArg Prod.snd hd
   simp only at e1 e2
   exact Prod.ext (by omega) (by omega)
  subst e
  refine⟨(q.1,q.2,1),1,by omega,good _ (by simp only;omega) (fun i hi=> ?_) (fun j hj=> ?_),fun i hi=> ?_,fun j hj=> ?_⟩
  ·rw[rB];exact P4 ha hi hp
  ·rw[rB];exact P4 hb hj hq
  ·rw[rB];omega
  ·rw[rB];omega
 have sm:∀d∈rH a b,Sml d:=fun d hd=>by
  obtain⟨q,hq,p,hp,rfl⟩:=qW.1 hd
  have h1:=ha.on p hp
  have h2:=hb.on q hq
  unfold On at h1 h2
  unfold Sml qU
  simp only
  omega
 have m0:qU q p∈rH a b:=qW.2 ⟨q,hq,p,hp,rfl⟩
 obtain⟨r,r0,rs,rE⟩:=sQ sm (fun e=>by rw[e] at m0;simp at m0)
 have rE:∀i,i<r.length→Edge (rH a b) (pa r i) (pa r ((i+1)%r.length)):=by
  rcases rE with⟨o,ho⟩|h
  ·exfalso
   have e1:=ho _ (qW.2 ⟨q,hq,pa a 0,AJ (by omega),rfl⟩)
   have e2:=ho _ (qW.2 ⟨q,hq,pa a 1,AJ (by omega),rfl⟩)
   have e3:=e1.trans e2.symm
   unfold qU at e3
   have f1:=congrArg Prod.fst e3
   have f2:=congrArg Prod.snd e3
   simp only at f1 f2
   have:=ha.ne (show 0<a.length by omega)
   rw[Nat.mod_eq_of_lt (by omega)] at this
   have this:pa a 0≠pa a 1:=this
   exact this (Prod.ext (by omega) (by omega))
  ·exact h
 have pos:∀t,0<crx (pa r (t%r.length)) (pa r ((t+1)%r.length)):=fun t=>by
  have hE:=rE (t%r.length) (Nat.mod_lt _ r0)
  rw[Nat.mod_add_mod] at hE
  rcases Int.lt_or_le 0 (crx (pa r (t%r.length)) (pa r ((t+1)%r.length))) with c|c
  ·exact c
  ·exact absurd (sC ha hb hE c) hap
 obtain⟨t,k1,k2⟩:=tV (v:=fun t=>pa r (t%r.length)) r0 (fun t=>by simp only[Nat.add_mod_right]) pos (-(qU q p).1,-(qU q p).2) (fun e=>hd (by
  have e1:=congrArg Prod.fst e
  have e2:=congrArg Prod.snd e
  simp only at e1 e2
  exact Prod.ext (by simp only;omega) (by simp only;omega)))
 have k0:=pos t
 obtain⟨q1,hq1,p1,hp1,e1⟩:=qW.1 (rs _ (AJ (Nat.mod_lt t r0)))
 obtain⟨q2,hq2,p2,hp2,e2⟩:=qW.1 (rs _ (AJ (Nat.mod_lt (t+1) r0)))
 rw[e1] at k0 k1
 rw[e2] at k0 k2
 obtain⟨α,hα⟩:∃α,α=crx (qU q1 p1) (qU q2 p2):=⟨_,rfl⟩
 obtain⟨β,hβ⟩:∃β,β=crx (-(qU q p).1,-(qU q p).2) (qU q2 p2):=⟨_,rfl⟩
 obtain⟨γ,hγ⟩:∃γ,γ=crx (qU q1 p1) (-(qU q p).1,-(qU q p).2):=⟨_,rfl⟩
 rw[←hα] at k0
 rw[←hβ] at k2
 rw[←hγ] at k1
 have x1:α*(q.1-p.1)+β*(q1.1-p1.1)+γ*(q2.1-p2.1)=0:=by rw[hα,hβ,hγ];unfold crx qU;simp only;grind
 have x2:α*(q.2-p.2)+β*(q1.2-p1.2)+γ*(q2.2-p2.2)=0:=by rw[hα,hβ,hγ];unfold crx qU;simp only;grind
 have ea:∀i,ev (eLn a i) (α*p.1+β*p1.1+γ*p2.1,α*p.2+β*p1.2+γ*p2.2,α+β+γ)=α*E a i p+β*E a i p1+γ*E a i p2:=fun i=>by
  rw[←rB,←rB,←rB];unfold ev;simp only;grind
 have eb:∀j,ev (eLn b j) (α*p.1+β*p1.1+γ*p2.1,α*p.2+β*p1.2+γ*p2.2,α+β+γ)=α*E b j q+β*E b j q1+γ*E b j q2:=fun j=>by
  have f1:α*p.1+β*p1.1+γ*p2.1=α*q.1+β*q1.1+γ*q2.1:=by grind
  have f2:α*p.2+β*p1.2+γ*p2.2=α*q.2+β*q1.2+γ*q2.2:=by grind
  rw[f1,f2,←rB,←rB,←rB];unfold ev;simp only;grind
 have na:∀i,i<a.length→α*E a i p≤ev (eLn a i) (α*p.1+β*p1.1+γ*p2.1,α*p.2+β*p1.2+γ*p2.2,α+β+γ):=fun i hi=>by
  rw[ea]
  have:=Int.mul_nonneg k2 (P4 ha hi hp1)
  have:=Int.mul_nonneg k1 (P4 ha hi hp2)
  omega
 have nb':∀j,j<b.length→α*E b j q≤ev (eLn b j) (α*p.1+β*p1.1+γ*p2.1,α*p.2+β*p1.2+γ*p2.2,α+β+γ):=fun j hj=>by
  rw[eb]
  have:=Int.mul_nonneg k2 (P4 hb hj hq1)
  have:=Int.mul_nonneg k1 (P4 hb hj hq2)
  omega
 refine⟨_,α,k0,good _ (by simp only;omega) (fun i hi=> ?_) (fun j hj=> ?_),na,nb'⟩
 ·have:=na i hi;have:=Int.mul_nonneg (Int.le_of_lt k0) (P4 ha hi hp);omega
 ·have:=nb' j hj;have:=Int.mul_nonneg (Int.le_of_lt k0) (P4 hb hj hq);omega
theorem tE {Ls:List Tr3} {P Q:Tr3} (h1:InK Ls P) (h2:InK Ls Q):InK Ls (rV P Q):=
 ⟨by have:=h1.1;have:=h2.1;unfold rV;simp only;omega,fun L hL=>by rw[sH];have:=h1.2 L hL;have:=h2.2 L hL;omega⟩
theorem sV {a b:List Pt} (ha:VP a) (hb:VP b) (hap:¬apart a b):∃P:Tr3,0<P.2.2∧∀L∈qT a++qT b,0<ev L P:=by
 have a3:=ha.l3
 have b3:=hb.l3
 have one:∀L∈qT a++qT b,∃P,InK (qT a++qT b) P∧0<ev L P:=fun L hL=>by
  rcases List.mem_append.1 hL with h|h
  ·obtain⟨i,hi,rfl⟩:=qV.1 h
   obtain⟨x,hx,px⟩:=Iq ha hi
   obtain⟨P,k,kp,hP,h1,_⟩:=rF ha hb hap hx (AJ (i:=0) (show 0<b.length by omega))
   have:=h1 i hi
   have:=Int.mul_pos kp px
   exact⟨P,hP,by omega⟩
  ·obtain⟨i,hi,rfl⟩:=qV.1 h
   obtain⟨x,hx,px⟩:=Iq hb hi
   obtain⟨P,k,kp,hP,_,h1⟩:=rF ha hb hap (AJ (i:=0) (show 0<a.length by omega)) hx
   have:=h1 i hi
   have:=Int.mul_pos kp px
   exact⟨P,hP,by omega⟩
 have many:∀uD:List Tr3,(∀L∈uD,L∈qT a++qT b)→∃P,InK (qT a++qT b) P∧∀L∈uD,0<ev L P:=by
  intro uD
  induction uD with
  |nil=>
   intro _
   obtain⟨P,_,_,hP,_,_⟩:=rF ha hb hap (AJ (i:=0) (show 0<a.length by omega)) (AJ (i:=0) (show 0<b.length by omega))
   exact⟨P,hP,by simp⟩
  |cons M uD ih=>
   intro h
   obtain⟨P,hP,h1⟩:=ih fun L hL=>h L (by simp[hL])
   obtain⟨Q,hQ,h2⟩:=one M (h M (by simp))
   refine⟨rV P Q,tE hP hQ,fun L hL=> ?_⟩
   rw[sH]
   rcases List.mem_cons.1 hL with rfl|hL
   ·have:=hP.2 L (h L (by simp));omega
   ·have:=h1 L hL;have:=hQ.2 L (h L (by simp[hL]));omega
 obtain⟨P,hP,h⟩:=many (qT a++qT b) fun L hL=>hL
 exact⟨P,hP.1,h⟩
structure Vtx (Ls:List Tr3) (L M P:Tr3):Prop where
 inK:InK Ls P
 l:L∈Ls
 m:M∈Ls
 zl:ev L P=0
 zm:ev M P=0
 np:L.1*M.2.1-M.1*L.2.1≠0
theorem tF {a b:List Pt} (ha:VP a) (hb:VP b) (hap:¬apart a b) {f:Tr3} (hf:f.1≠0∨f.2.1≠0):∃L M P,Vtx (qT a++qT b) L M P∧ev f P≠0:=by
 obtain⟨c,cw,cp⟩:=sV ha hb hap
 have bd:∀d:Pt,d≠(0,0)→∃L∈qT a++qT b,dv L d<0:=fun d hd=>by
  obtain⟨L,hL,h⟩:=tD ha hd
  exact⟨L,List.mem_append_left _ hL,h⟩
 have cK:InK (qT a++qT b) c:=⟨cw,fun L hL=>Int.le_of_lt (cp L hL)⟩
 have W:0<f.1*f.1+f.2.1*f.2.1:=by
  have h1:=GF f.1
  have h2:=GF f.2.1
  rcases hf with h|h
  ·have:f.1*f.1≠0:=fun q=>h (sq0 q);omega
  ·have:f.2.1*f.2.1≠0:=fun q=>h (sq0 q);omega
 have go_:∀g:Tr3,0<g.1*g.1+g.2.1*g.2.1→0≤ev g c→∃L M P,Vtx (qT a++qT b) L M P∧0<ev g P:=fun g uF g0=>by
  obtain⟨r,s,L,hL,rp,sp,hK,hd,hz,es⟩:=ray cK (g.1,g.2.1) (bd _ (fun e=>by
   have e1:=congrArg Prod.fst e
   have e2:=congrArg Prod.snd e
   simp only at e1 e2
   rw[e1,e2] at uF;omega))
  have sp':0<s:=by rw[es];exact cp L hL
  have gp:0<ev g (rK r c s (g.1,g.2.1)):=by
   rw[rD]
   have:=Int.mul_nonneg (Int.le_of_lt rp) g0
   have:=Int.mul_pos sp' uF
   have e:dv g (g.1,g.2.1)=g.1*g.1+g.2.1*g.2.1:=rfl
   rw[e];omega
  generalize rK r c s (g.1,g.2.1)=P at*
  have Lne:¬(L.1=0∧L.2.1=0):=fun q=>by unfold dv at hd;rw[q.1,q.2] at hd;omega
  have fin_:∀τ:Pt,τ≠(0,0)→(∀M:Tr3,dv M τ≠0→L.1*M.2.1-M.1*L.2.1≠0)→dv L τ=0→0≤dv g τ→∃L M P,Vtx (qT a++qT b) L M P∧0<ev g P:=fun τ hτ hM hLτ hg=>by
   obtain⟨r2,s2,M,hMm,r2p,s2p,hK2,hd2,hz2,_⟩:=ray hK τ (bd _ hτ)
   refine⟨L,M,rK r2 P s2 τ,⟨hK2,hL,hMm, ?_,hz2,hM M (by omega)⟩, ?_⟩
   ·rw[rD,hz,hLτ];simp
   ·rw[rD]
    have:=Int.mul_pos r2p gp
    have:=Int.mul_nonneg s2p hg
    omega
  by_cases hg:0≤dv g (L.2.1,-L.1)
  ·refine fin_ (L.2.1,-L.1) (fun e=>Lne ?_) (fun M hM q=>hM ?_) ?_ hg
   ·have e1:=congrArg Prod.fst e
    have e2:=congrArg Prod.snd e
    simp only at e1 e2
    omega
   ·unfold dv;simp only;grind
   ·unfold dv;simp only;grind
  ·refine fin_ (-L.2.1,L.1) (fun e=>Lne ?_) (fun M hM q=>hM ?_) ?_ ?_
   ·have e1:=congrArg Prod.fst e
    have e2:=congrArg Prod.snd e
    simp only at e1 e2
    omega
   ·unfold dv;simp only;grind
   ·unfold dv;simp only;grind
   ·have e:dv g (-L.2.1,L.1)= -dv g (L.2.1,-L.1):=by unfold dv;simp only;grind
    omega
 by_cases h0:0≤ev f c
 ·obtain⟨L,M,P,hv,hp⟩:=go_ f W h0
  exact⟨L,M,P,hv,by omega⟩
 ·have en:∀P,ev (-f.1,-f.2.1,-f.2.2) P= -ev f P:=fun P=>by unfold ev;simp only;grind
  obtain⟨L,M,P,hv,hp⟩:=go_ (-f.1,-f.2.1,-f.2.2) (by simp only;grind) (by rw[en];omega)
  rw[en] at hp
  exact⟨L,M,P,hv,by omega⟩
def crT (L M:Tr3):Tr3:=(L.2.1*M.2.2-M.2.1*L.2.2,L.2.2*M.1-M.2.2*L.1,L.1*M.2.1-M.1*L.2.1)
def ngT (P:Tr3):Tr3:=(-P.1,-P.2.1,-P.2.2)
def nrT (P:Tr3):Tr3:=if P.2.2<0 then ngT P else P
def dtT (P Q R:Tr3):Int:=P.1*(Q.2.1*R.2.2-Q.2.2*R.2.1)-P.2.1*(Q.1*R.2.2-Q.2.2*R.1)+P.2.2*(Q.1*R.2.1-Q.2.1*R.1)
def ga (Ls:List Tr3) (i:Nat):Tr3:=Ls.getD i (0,0,0)
theorem sI {Ls:List Tr3} {i:Nat} (h:i<Ls.length):ga Ls i=Ls[i]:=by unfold ga;simp[h]
theorem qY {Ls:List Tr3} {i:Nat} (h:i<Ls.length):ga Ls i∈Ls:=by rw[sI h];exact List.getElem_mem h
theorem rI {Ls:List Tr3} {L:Tr3} (h:L∈Ls):∃i,i<Ls.length∧L=ga Ls i:=by
 obtain⟨i,hi,e⟩:=List.getElem_of_mem h
 exact⟨i,hi,by rw[sI hi,e]⟩
def Cmn (Ls:List Tr3) (P:Tr3):Prop:=∃i k,i<k∧k<Ls.length∧(crT (ga Ls i) (ga Ls k)).2.2≠0∧P=nrT (crT (ga Ls i) (ga Ls k))∧∀L∈Ls,0≤ev L P
theorem sJ {C:Tr3} (h:C.2.2≠0):0<(nrT C).2.2:=by
 unfold nrT
 split
 ·unfold ngT;simp only;omega
 ·omega
theorem tG {C P:Tr3} (h1:C.2.2*P.1=P.2.2*C.1) (h2:C.2.2*P.2.1=P.2.2*C.2.1):(nrT C).2.2*P.1=P.2.2*(nrT C).1∧(nrT C).2.2*P.2.1=P.2.2*(nrT C).2.1:=by
 unfold nrT ngT
 split
 ·simp only;constructor<;>grind
 ·exact⟨h1,h2⟩
theorem Cmn.inK {Ls:List Tr3} {P:Tr3} (h:Cmn Ls P):InK Ls P:=by
 obtain⟨i,k,_,_,hw,rfl,h⟩:=h
 exact⟨sJ hw,h⟩
theorem tH {Ls:List Tr3} {L M P:Tr3} (h:Vtx Ls L M P):∃Q,Cmn Ls Q∧∀f,ev f P≠0→ev f Q≠0:=by
 obtain⟨i,hi,eLn⟩:=rI h.l
 obtain⟨k,hk,eM⟩:=rI h.m
 have np:=h.np
 have zl:=h.zl
 have zm:=h.zm
 have pw:=h.inK.1
 have key:∀A B:Tr3,A.1*B.2.1-B.1*A.2.1≠0→ev A P=0→ev B P=0→(crT A B).2.2≠0∧(∀f,P.2.2*ev f (nrT (crT A B))=(nrT (crT A B)).2.2*ev f P):=fun A B hn zA zB=>by
  have w:(crT A B).2.2≠0:=hn
  have p:=tG (C:=crT A B) (P:=P) (by unfold crT;simp only;unfold ev at zA zB;grind) (by unfold crT;simp only;unfold ev at zA zB;grind)
  refine⟨w,fun f=> ?_⟩
  generalize nrT (crT A B)=Q at p
  unfold ev
  grind
 have fin_:∀A B:Tr3,A.1*B.2.1-B.1*A.2.1≠0→ev A P=0→ev B P=0→(crT A B).2.2≠0∧(∀L∈Ls,0≤ev L (nrT (crT A B)))∧∀f,ev f P≠0→ev f (nrT (crT A B))≠0:=fun A B hn zA zB=>by
  obtain⟨w,e⟩:=key A B hn zA zB
  have q:=sJ w
  refine⟨w,fun L hL=> ?_,fun f hf hz=> ?_⟩
  ·have e1:=e L
   have:=Int.mul_nonneg (Int.le_of_lt q) (h.inK.2 L hL)
   exact BA pw (by omega)
  ·have e1:=e f
   rw[hz,Int.mul_zero] at e1
   rcases Int.mul_eq_zero.1 e1.symm with x|x
   ·omega
   ·exact hf x
 rcases Nat.lt_trichotomy i k with c|c|c
 ·obtain⟨w,h1,h2⟩:=fin_ L M np zl zm
  rw[eLn,eM] at w h1 h2
  exact⟨_,⟨i,k,c,hk,w,rfl,h1⟩,h2⟩
 ·exfalso
  subst c
  rw[←eM] at eLn
  subst eLn
  omega
 ·obtain⟨w,h1,h2⟩:=fin_ M L (by omega) zm zl
  rw[eLn,eM] at w h1 h2
  exact⟨_,⟨k,i,c,hi,w,rfl,h1⟩,h2⟩
theorem sK {a b:List Pt} (ha:VP a) (hb:VP b) (hap:¬apart a b):∃P Q R,Cmn (qT a++qT b) P∧Cmn (qT a++qT b) Q∧Cmn (qT a++qT b) R∧dtT P Q R≠0:=by
 have one:∀f:Tr3,f.1≠0∨f.2.1≠0→∃Q,Cmn (qT a++qT b) Q∧ev f Q≠0:=fun f hf=>by
  obtain⟨L,M,P,hv,hp⟩:=tF ha hb hap hf
  obtain⟨Q,hQ,h⟩:=tH hv
  exact⟨Q,hQ,h f hp⟩
 obtain⟨P,hP,_⟩:=one (1,0,0) (.inl (by simp))
 have pw:=hP.inK.1
 obtain⟨Q,hQ,hq⟩:=one (P.2.2,0,-P.1) (.inl (by simp only;omega))
 obtain⟨R,hR,hr⟩:=one (P.2.1*Q.2.2-P.2.2*Q.2.1,P.2.2*Q.1-P.1*Q.2.2,P.1*Q.2.1-P.2.1*Q.1) (.inr (by unfold ev at hq;simp only at hq;simp only;intro q;apply hq;grind))
 refine⟨P,Q,R,hP,hQ,hR,fun q=>hr ?_⟩
 unfold dtT at q
 unfold ev
 simp only
 grind
def lcT (k:Int) (P c:Tr3):Tr3:=(k*P.1+c.1,k*P.2.1+c.2.1,k*P.2.2+c.2.2)
theorem sW (L:Tr3) (k:Int) (P c:Tr3):ev L (lcT k P c)=k*ev L P+ev L c:=by unfold ev lcT;simp only;grind
theorem sL {b:List Pt} (hb:VP b) {f P:Tr3} (hf:f.1≠0∨f.2.1≠0) (h:∀q∈b,ev f (q.1,q.2,1)≤0) (hP:InK (qT b) P):ev f P≤0:=by
 rcases Int.lt_or_le 0 (ev f P) with c|c
 case inr=>exact c
 exfalso
 have b3:=hb.l3
 have hn:0<b.length:=by omega
 obtain⟨C,cw,cp⟩:=sV hb hb (Qu hb)
 obtain⟨k,k0,hk⟩:∃k:Int,0≤k∧0<k*ev f P+ev f C:=by
  refine⟨if 0<ev f C then 0 else 1-ev f C, ?_, ?_⟩
  ·split<;>omega
  ·split
   ·omega
   ·have:=Int.mul_le_mul_of_nonneg_left (show 1≤ev f P by omega) (show 0≤1-ev f C by omega)
    omega
 have W:0<(lcT k P C).2.2:=by
  have:=Int.mul_nonneg k0 (Int.le_of_lt hP.1)
  unfold lcT;simp only;omega
 have pe:∀L∈qT b,0<ev L (lcT k P C):=fun L hL=>by
  rw[sW]
  have:=Int.mul_nonneg k0 (hP.2 L hL)
  have:=cp L (List.mem_append_left _ hL)
  omega
 have fe:0<ev f (lcT k P C):=by rw[sW];exact hk
 generalize lcT k P C=Q at W pe fe
 refine OJ (n:=b.length) (v:=fun t=>(Q.2.2*(qa b t).1,Q.2.2*(qa b t).2)) hn (fun t=>by simp only[BP]) (p:=(Q.1,Q.2.1)) (g:=(-f.1,-f.2.1)) (fun t=> ?_) (fun e=> ?_) (fun t=> ?_)
 ·have e:=pe _ (qV.2 ⟨t%b.length,Nat.mod_lt _ hn,rfl⟩)
  have q:pa b ((t%b.length+1)%b.length)=qa b (t+1):=by unfold qa;rw[Nat.mod_add_mod]
  unfold eLn at e
  rw[q,show pa b (t%b.length)=qa b t from rfl] at e
  have:=Int.mul_pos W e
  have e2:trn (Q.2.2*(qa b t).1,Q.2.2*(qa b t).2) (Q.2.2*(qa b (t+1)).1,Q.2.2*(qa b (t+1)).2) (Q.1,Q.2.1)=Q.2.2*ev (qX (qa b t) (qa b (t+1))) Q:=by
   unfold trn ev qX;simp only;grind
  rw[e2];exact this
 ·have e1:=congrArg Prod.fst e
  have e2:=congrArg Prod.snd e
  simp only at e1 e2
  omega
 ·have e:=h (qa b t) (AJ (Nat.mod_lt _ hn))
  have:=Int.mul_nonneg (Int.le_of_lt W) (show 0≤-ev f ((qa b t).1,(qa b t).2,1) by omega)
  have e2:lin (-f.1,-f.2.1) (Q.1,Q.2.1) (Q.2.2*(qa b t).1,Q.2.2*(qa b t).2)=Q.2.2*(-ev f ((qa b t).1,(qa b t).2,1))+ev f Q:=by
   unfold lin ev;simp only;grind
  rw[e2];omega
theorem sR {A B:List Tr3} {P:Tr3} (h:InK (A++B) P):InK A P:=⟨h.1,fun L hL=>h.2 L (List.mem_append_left _ hL)⟩
theorem sM {A B:List Tr3} {P:Tr3} (h:InK (A++B) P):InK B P:=⟨h.1,fun L hL=>h.2 L (List.mem_append_right _ hL)⟩
theorem rS {l:List Pt} (h:VP l) {i:Nat} (hi:i<l.length):(eLn l i).1≠0∨(eLn l i).2.1≠0:=by
 have:=h.ne hi
 unfold eLn qX
 simp only
 by_cases q:(pa l i).2-(pa l ((i+1)%l.length)).2=0
 ·right
  intro w
  exact this (Prod.ext (by omega) (by omega))
 ·exact .inl q
theorem sA {f P Q R:Tr3} (hf:f.1≠0∨f.2.1≠0) (h1:ev f P=0) (h2:ev f Q=0) (h3:ev f R=0):dtT P Q R=0:=by
 unfold ev at h1 h2 h3
 have z1:f.1*dtT P Q R=0:=by unfold dtT;grind
 have z2:f.2.1*dtT P Q R=0:=by unfold dtT;grind
 rcases hf with h|h
 ·rcases Int.mul_eq_zero.1 z1 with x|x
  ·exact absurd x h
  ·exact x
 ·rcases Int.mul_eq_zero.1 z2 with x|x
  ·exact absurd x h
  ·exact x
theorem sS {a b:List Pt} (ha:VP a) (hb:VP b) (hap:apart a b) {P Q R:Tr3} (hP:InK (qT a++qT b) P) (hQ:InK (qT a++qT b) Q) (hR:InK (qT a++qT b) R):dtT P Q R=0:=by
 rcases hap with⟨i,hi,hs⟩|⟨i,hi,hs⟩
 ·have z:∀S,InK (qT a++qT b) S→ev (eLn a i) S=0:=fun S hS=>by
   have h1:=hS.2 (eLn a i) (List.mem_append_left _ (qV.2 ⟨i,hi,rfl⟩))
   have h2:=sL hb (rS ha hi) (fun q hq=>by rw[rB];exact hs q hq) (sM hS)
   omega
  exact sA (rS ha hi) (z _ hP) (z _ hQ) (z _ hR)
 ·have z:∀S,InK (qT a++qT b) S→ev (eLn b i) S=0:=fun S hS=>by
   have h1:=hS.2 (eLn b i) (List.mem_append_right _ (qV.2 ⟨i,hi,rfl⟩))
   have h2:=sL ha (rS hb hi) (fun q hq=>by rw[rB];exact hs q hq) (sR hS)
   omega
  exact sA (rS hb hi) (z _ hP) (z _ hQ) (z _ hR)
end Go.Proofs.YtdabfcbelkjmgaaGreatDoor.Am
