import Derived.Test.YtdabfcbelkjmgaaGreatDoorMG
namespace Go.Proofs.YtdabfcbelkjmgaaGreatDoor.Am
set_option linter.unusedSimpArgs false
set_option linter.unusedVariables false
def dd (P Q x:Pt):Int:=(Q.1-P.1)*(x.1-P.1)+(Q.2-P.2)*(x.2-P.2)
def AQ (p q:Pt):Prop:=p.1<q.1∨(p.1=q.1∧p.2≤q.2)
theorem Gi {p q:Pt}:AQ p q↔¬0<A7 p q:=by rw[Dn];unfold AQ;omega
theorem Do {p q r:Pt} (h1:AQ p q) (h2:AQ q r):AQ p r:=by unfold AQ at*;omega
theorem IU (p q:Pt):AQ p q∨AQ q p:=by unfold AQ;omega
theorem Ce {p q:Pt} (h1:AQ p q) (h2:AQ q p):p=q:=by unfold AQ at*;exact Prod.ext (by omega) (by omega)
theorem HZ (p:Pt):AQ p p:=by unfold AQ;omega
theorem PY {u v p:Pt}:AQ (CX u v) p↔AQ u p∧AQ v p:=by
 unfold CX
 split
 ·rename_i h;rw[Dn] at h
  constructor
  ·intro q;exact⟨by unfold AQ at*;omega,q⟩
  ·exact fun q=>q.2
 ·rename_i h;rw[Dn] at h
  constructor
  ·intro q;exact⟨q,by unfold AQ at*;omega⟩
  ·exact fun q=>q.1
theorem PZ {u v p:Pt}:AQ p (CY u v)↔AQ p u∧AQ p v:=by
 unfold CY
 split
 ·rename_i h;rw[Cd] at h
  constructor
  ·intro q;exact⟨by unfold AQ at*;omega,q⟩
  ·exact fun q=>q.2
 ·rename_i h;rw[Cd] at h
  constructor
  ·intro q;exact⟨q,by unfold AQ at*;omega⟩
  ·exact fun q=>q.1
def btw (P Q x:Pt):Prop:=(AQ P x∧AQ x Q)∨(AQ Q x∧AQ x P)
theorem JZ {P Q x:Pt}:btw P Q x↔AQ (lo P Q) x∧AQ x (Am.hi P Q):=by
 unfold btw lo Am.hi
 split
 ·rename_i h;rw[Cd] at h;unfold AQ;omega
 ·rename_i h;rw[Cd] at h;unfold AQ;omega
theorem P0 {d1 d2 w1 w2:Int} (hd:d1≠0∨d2≠0) (hz:d1*w2=d2*w1):(0<d1∨(d1=0∧0<d2))→(0≤d1*w1+d2*w2↔(0<w1∨(w1=0∧0≤w2))):=by
 intro hp
 rcases hp with hp|⟨hp,hq⟩
 ·have e:d1*(d1*w1+d2*w2)=(d1*d1+d2*d2)*w1:=by grind
  have pos:0<d1*d1+d2*d2:=by have:=Int.mul_pos hp hp;have:=GF d2;omega
  constructor
  ·intro h
   have:=Int.mul_nonneg (Int.le_of_lt hp) h
   have h1:=BA pos (b:=w1) (by omega)
   rcases Int.lt_or_eq_of_le h1 with q|q
   ·exact .inl q
   ·refine .inr ⟨q.symm, ?_⟩
    rw[←q,Int.mul_zero] at hz
    rcases Int.mul_eq_zero.1 hz with c|c<;>omega
  ·intro h
   have h1:0≤w1:=by omega
   have:=Int.mul_nonneg (Int.le_of_lt pos) h1
   exact BA hp (by omega)
 ·subst hp
  have hw:w1=0:=by
   rw[Int.zero_mul] at hz
   rcases Int.mul_eq_zero.1 hz.symm with c|c
   ·omega
   ·exact c
  subst hw
  rw[Int.zero_mul,Int.zero_add]
  constructor
  ·intro h;exact .inr ⟨rfl,BA hq h⟩
  ·rintro(h|⟨_,h⟩)
   ·omega
   ·exact Int.mul_nonneg (Int.le_of_lt hq) h
theorem Dp {P Q x y:Pt} (hne:P≠Q) (hPQ:AQ P Q) (hx:trn P Q x=0) (hy:trn P Q y=0):dd P Q x≤dd P Q y↔AQ x y:=by
 have hd:Q.1-P.1≠0∨Q.2-P.2≠0:=by
  by_cases h:Q.1-P.1≠0∨Q.2-P.2≠0
  ·exact h
  ·exact absurd (Prod.ext (by omega) (by omega)) hne
 have hz:(Q.1-P.1)*(y.2-x.2)=(Q.2-P.2)*(y.1-x.1):=by unfold trn at hx hy;grind
 have:=P0 hd hz (by unfold AQ at hPQ;omega)
 have e:(Q.1-P.1)*(y.1-x.1)+(Q.2-P.2)*(y.2-x.2)=dd P Q y-dd P Q x:=by unfold dd;grind
 rw[e] at this
 unfold AQ
 constructor
 ·intro h;have:=this.1 (by omega);omega
 ·intro h;have:=this.2 (by omega);omega
theorem P1 {P Q x:Pt} (hne:P≠Q) (hx:trn P Q x=0):btw P Q x↔0≤dd P Q x∧dd P Q x≤dd P Q Q:=by
 have d0:dd P Q P=0:=by unfold dd;grind
 rcases IU P Q with h|h
 ·have h1:=Dp hne h (Bk P Q) hx
  have h2:=Dp hne h hx (Bn P Q)
  rw[d0] at h1
  rw[h1,h2]
  unfold btw
  constructor
  ·rintro(q|⟨q1,q2⟩)
   ·exact q
   ·exact absurd (Ce h (Do q1 q2)) hne
  ·exact .inl
 ·have s1:trn Q P x=0:=by rw[Dy];omega
  have h1:=Dp (fun e=>hne e.symm) h (Bk Q P) s1
  have h2:=Dp (fun e=>hne e.symm) h s1 (Bn Q P)
  have e1:dd Q P Q=0:=by unfold dd;grind
  have e2:dd Q P x=dd P Q Q-dd P Q x:=by unfold dd;grind
  have e3:dd Q P P=dd P Q Q:=by unfold dd;grind
  rw[e1,e2] at h1
  rw[e2,e3] at h2
  constructor
  ·rintro(⟨q1,q2⟩|⟨q1,q2⟩)
   ·exact absurd (Ce (Do q1 q2) h) hne
   ·have:=h1.2 q1;have:=h2.2 q2;omega
  ·intro q;exact .inr ⟨h1.1 (by omega),h2.1 (by omega)⟩
theorem H0 {P Q:Pt} (h:P≠Q):0<dd P Q Q:=by
 have:=DU h
 have e:dd P Q Q=dst P Q:=by unfold dd dst;grind
 omega
theorem P2 (u w P Q x:Pt):(trn u w x-trn u w P)*dd P Q Q-(trn u w Q-trn u w P)*dd P Q x=trn P Q x*(-((w.1-u.1)*(P.1-Q.1)+(w.2-u.2)*(P.2-Q.2))):=by
 unfold trn dd;grind
theorem Ip {u w P Q x:Pt} (hx:trn P Q x=0):trn u w x*dd P Q Q=trn u w P*(dd P Q Q-dd P Q x)+trn u w Q*dd P Q x:=by
 have:=P2 u w P Q x
 rw[hx,Int.zero_mul] at this
 grind
theorem Gj (P Q u w x:Pt) (hu:trn P Q u=0) (hw:trn P Q w=0):trn u w x*dd P Q Q=trn P Q x*(dd P Q w-dd P Q u):=by
 have:trn u w x*dd P Q Q-trn P Q x*(dd P Q w-dd P Q u)=trn P Q w*(dd P Q u-dd P Q x)+trn P Q u*(dd P Q x-dd P Q w):=by
  unfold trn dd;grind
 rw[hu,hw] at this
 simp only[Int.zero_mul,Int.add_zero] at this
 omega
theorem P3 {P Q u w:Pt} (hne:P≠Q) (hu:trn P Q u=0) (hw:trn P Q w=0) (h:dd P Q u=dd P Q w):u=w:=by
 rcases IU P Q with q|q
 ·exact Ce ((Dp hne q hu hw).1 (by omega)) ((Dp hne q hw hu).1 (by omega))
 ·have s1:trn Q P u=0:=by rw[Dy];omega
  have s2:trn Q P w=0:=by rw[Dy];omega
  have e1:dd Q P u=dd P Q Q-dd P Q u:=by unfold dd;grind
  have e2:dd Q P w=dd P Q Q-dd P Q w:=by unfold dd;grind
  exact Ce ((Dp (Ne.symm hne) q s1 s2).1 (by omega)) ((Dp (Ne.symm hne) q s2 s1).1 (by omega))
theorem Cz {P Q u w x:Pt} (hne:P≠Q) (huw:u≠w) (hu:trn P Q u=0) (hw:trn P Q w=0):trn u w x=0↔trn P Q x=0:=by
 have e:=Gj P Q u w x hu hw
 have p:=H0 hne
 have n:dd P Q w-dd P Q u≠0:=fun q=>huw (P3 hne hu hw (by omega))
 constructor
 ·intro h
  rw[h,Int.zero_mul] at e
  rcases Int.mul_eq_zero.1 e.symm with c|c
  ·exact c
  ·exact absurd c n
 ·intro h
  rw[h,Int.zero_mul] at e
  rcases Int.mul_eq_zero.1 e with c|c
  ·exact c
  ·omega
theorem J0 {l:List Pt} (h:VP l) {j x:Nat} (hj:j<l.length) (hx:x<l.length) (hz:E l j (pa l x)=0):x=j∨x=(j+1)%l.length:=by
 by_cases h1:x=j
 ·exact .inl h1
 by_cases h2:x=(j+1)%l.length
 ·exact .inr h2
 have:=h.cv j x hj hx h1 h2
 unfold E at hz
 omega
theorem P4 {l:List Pt} (h:VP l) {j:Nat} (hj:j<l.length) {x:Pt} (hx:x∈l):0≤E l j x:=by
 have l3:=h.l3
 obtain⟨t,ht,rfl⟩:=EV hx
 have:=Io h j t
 rwa [Cm ht,CW (by omega),Nat.mod_eq_of_lt hj] at this
theorem Iq {l:List Pt} (h:VP l) {j:Nat} (hj:j<l.length):∃x∈l,0<E l j x:=by
 have l3:=h.l3
 obtain⟨k,hk,n1,n2⟩:∃k,k<l.length∧k≠j∧k≠(j+1)%l.length:=by
  by_cases h0:0≠j∧0≠(j+1)%l.length
  ·exact⟨0,by omega,h0.1,h0.2⟩
  by_cases h1:1≠j∧1≠(j+1)%l.length
  ·exact⟨1,by omega,h1.1,h1.2⟩
  exact⟨2,by omega,by omega,by omega⟩
 exact⟨_,AJ hk,h.cv j k hj hk n1 n2⟩
theorem Hf {l:List Pt} (h:VP l) {p g:Pt} (hc:clo l p) (hh:∀q∈l,0<lin g p q):False:=by
 have l3:=h.l3
 have hn:0<l.length:=by omega
 have e:∀t,0≤trn p (qa l t) (qa l (t+1)):=fun t=>by
  rw[←BX,CW hn];exact hc _ (Nat.mod_lt _ hn)
 obtain⟨m,hm⟩:∃m,0<trn p (qa l m) (qa l (m+1)):=by
  by_cases h0:0<trn p (qa l 0) (qa l 1)
  ·exact⟨0,h0⟩
  by_cases h1:0<trn p (qa l 1) (qa l 2)
  ·exact⟨1,h1⟩
  refine⟨2, ?_⟩
  have z0:trn p (qa l 0) (qa l 1)=0:=by have:0≤trn p (qa l 0) (qa l 1):=e 0;omega
  have z1:trn p (qa l 1) (qa l 2)=0:=by have:0≤trn p (qa l 1) (qa l 2):=e 1;omega
  have c:=BF h.cv (s:=0) (a:=2) (by omega) (by omega)
  simp only[Nat.zero_add] at c
  have ep:p=qa l 1:=uC (w:=qa l 0) (x:=qa l 2) (by
   have:trn (qa l 1) (qa l 0) p= -trn p (qa l 0) (qa l 1):=by unfold trn;grind
   omega) (by
   have:trn (qa l 1) (qa l 2) p=trn p (qa l 1) (qa l 2):=by unfold trn;grind
   omega) (by
   have:trn (qa l 1) (qa l 0) (qa l 2)= -trn (qa l 0) (qa l 1) (qa l 2):=by unfold trn;grind
   omega)
  have c2:=BF h.cv (s:=2) (a:=l.length-1) (by omega) (by omega)
  rw[show 2+(l.length-1)=1+l.length by omega,BP,←ep,BX] at c2
  exact c2
 have key:∀t,0<trn p (qa l m) (qa l (m+(t+1))):=by
  intro t
  induction t with
  |zero=>exact hm
  |succ t ih=>
   have pl:=Lk g p (qa l m) (qa l (m+(t+1))) (qa l (m+(t+1+1)))
   have ha:=hh _ (ED hn m)
   have hb:=hh _ (ED hn (m+(t+1)))
   have hc:=hh _ (ED hn (m+(t+1+1)))
   have hbc:=e (m+(t+1))
   rw[show m+(t+1)+1=m+(t+1+1) by omega] at hbc
   have k1:=Int.mul_nonneg (Int.le_of_lt ha) hbc
   have k2:=Int.mul_pos hc ih
   exact CD hb (by omega)
 have:=key (l.length-1)
 rw[show m+(l.length-1+1)=m+l.length by omega,BP,Bn] at this
 omega
theorem Gk {l:List Pt} (h:VP l) {p u w:Pt} (hc:clo l p) (hh:∀q∈l,trn u w q≤0):trn u w p≤0:=by
 rcases Int.lt_or_le 0 (trn u w p) with q|q
 ·exact absurd (Hf h hc (g:=(w.2-u.2,u.1-w.1)) fun x hx=>by
   rw[Il];have:=hh x hx;omega) id
 ·exact q
theorem BZ {l:List Pt} (h:VP l) {j:Nat} (hj:j<l.length) {p:Pt} (hz:E l j p=0):clo l p↔btw (pa l j) (pa l ((j+1)%l.length)) p:=by
 have l3:=h.l3
 have hn:0<l.length:=by omega
 have hne:=h.ne hj
 have q0:pa l j=qa l j:=(Cm hj).symm
 have q1:pa l ((j+1)%l.length)=qa l (j+1):=rfl
 rw[q0,q1] at hne⊢
 have hz':trn (qa l j) (qa l (j+1)) p=0:=by rw[←Lr hn hj];exact hz
 rw[P1 hne hz']
 have D:=H0 hne
 constructor
 ·intro hc
  have f1:0≤trn (qa l (j+1)) (qa l (j+2)) p:=by
   have:0≤trn (qa l (j+1)) (qa l (j+1+1)) p:=by rw[CW hn];exact hc _ (Nat.mod_lt _ hn)
   exact this
  have f2:0≤trn (qa l (j+(l.length-1))) (qa l (j+(l.length-1)+1)) p:=by rw[CW hn];exact hc _ (Nat.mod_lt _ hn)
  have e2:qa l (j+(l.length-1)+1)=qa l j:=by rw[show j+(l.length-1)+1=j+l.length by omega,BP]
  rw[e2] at f2
  have i1:=Ip (u:=qa l (j+1)) (w:=qa l (j+2)) hz'
  have i2:=Ip (u:=qa l (j+(l.length-1))) (w:=qa l j) hz'
  rw[Bk,Int.zero_mul,Int.add_zero] at i1
  rw[Bn,Int.zero_mul,Int.zero_add] at i2
  have c1:0<trn (qa l (j+1)) (qa l (j+2)) (qa l j):=by
   have:=BF h.cv (s:=j+1) (a:=l.length-1) (by omega) (by omega)
   rwa [show j+1+(l.length-1)=j+l.length by omega,BP] at this
  have c2:0<trn (qa l (j+(l.length-1))) (qa l j) (qa l (j+1)):=by
   have:=BF h.cv (s:=j+(l.length-1)) (a:=2) (by omega) (by omega)
   rwa [e2,show j+(l.length-1)+2=j+1+l.length by omega,BP] at this
  have k1:=Int.mul_nonneg f1 (Int.le_of_lt D)
  have k2:=Int.mul_nonneg f2 (Int.le_of_lt D)
  have m1:=BA c1 (b:=dd (qa l j) (qa l (j+1)) (qa l (j+1))-dd (qa l j) (qa l (j+1)) p) (by omega)
  have m2:=BA c2 (b:=dd (qa l j) (qa l (j+1)) p) (by omega)
  omega
 ·rintro⟨m1,m2⟩ i hi
  have i1:=Ip (u:=qa l i) (w:=qa l (i+1)) hz'
  have g1:=Io h i j
  have g2:=Io h i (j+1)
  have k1:=Int.mul_nonneg g1 (show 0≤dd (qa l j) (qa l (j+1)) (qa l (j+1))-dd (qa l j) (qa l (j+1)) p by omega)
  have k2:=Int.mul_nonneg g2 m1
  rw[Lr hn hi]
  exact BA D (by rw[Int.mul_comm];omega)
def Bth (a b:List Pt) (p:Pt):Prop:=clo a p∧clo b p
theorem OW {b:List Pt} (h:VP b) {P Q:Pt} (hne:P≠Q) (hs:∀q∈b,trn P Q q≤0) (hsm:Sml P∧Sml Q) {p1 p2:Pt} (hp:p1≠p2) (s1:Sml p1) (c1:clo b p1) (c2:clo b p2) (z1:trn P Q p1=0) (z2:trn P Q p2=0) (s2:Sml p2):
  ∃t,t<b.length∧trn P Q (pa b t)=0∧trn P Q (pa b ((t+1)%b.length))=0:=by
 have l3:=h.l3
 have hn:0<b.length:=by omega
 have one:∀p,clo b p→trn P Q p=0→∃x,x<b.length∧trn P Q (pa b x)=0:=fun p hc hz=>by
  by_cases hex:∃x,x<b.length∧trn P Q (pa b x)=0
  ·exact hex
  ·exact absurd (Hf h hc (g:=(Q.2-P.2,P.1-Q.1)) fun q hq=>by
    rw[Il,hz]
    obtain⟨x,hx,rfl⟩:=EV hq
    have:=hs _ hq
    have:trn P Q (pa b x)≠0:=fun e=>hex ⟨x,hx,e⟩
    omega) id
 have two:∃x y,x<y∧y<b.length∧trn P Q (pa b x)=0∧trn P Q (pa b y)=0:=by
  obtain⟨x,hx,ex⟩:=one p1 c1 z1
  by_cases hex:∃y,y<b.length∧y≠x∧trn P Q (pa b y)=0
  ·obtain⟨y,hy,hyx,ey⟩:=hex
   rcases Nat.lt_or_gt_of_ne hyx with q|q
   ·exact⟨y,x,q,hx,ey,ex⟩
   ·exact⟨x,y,q,hy,ex,ey⟩
  ·exfalso
   have lone:∀p,Sml p→clo b p→trn P Q p=0→p=pa b x:=fun p sp hc hz=>by
    by_cases e:p=pa b x
    ·exact e
    exfalso
    refine Hf h hc (g:=(10000000*(Q.2-P.2)+((pa b x).1-p.1),10000000*(P.1-Q.1)+((pa b x).2-p.2))) fun q hq=> ?_
    have el:lin (10000000*(Q.2-P.2)+((pa b x).1-p.1),10000000*(P.1-Q.1)+((pa b x).2-p.2)) p q=10000000*(trn P Q p-trn P Q q)+(((pa b x).1-p.1)*(q.1-p.1)+((pa b x).2-p.2)*(q.2-p.2)):=by
     unfold lin trn;grind
    rw[el,hz]
    obtain⟨y,hy,rfl⟩:=EV hq
    by_cases hyx:y=x
    ·subst hyx
     rw[ex]
     have:=DU e
     have e2:((pa b y).1-p.1)*((pa b y).1-p.1)+((pa b y).2-p.2)*((pa b y).2-p.2)=dst p (pa b y):=by unfold dst;grind
     omega
    ·have n0:trn P Q (pa b y)≠0:=fun e=>hex ⟨y,hy,hyx,e⟩
     have n1:=hs _ hq
     have sx:=h.sml _ (AJ hx)
     have sy:=h.sml _ (AJ hy)
     unfold Sml at sx sy sp
     have b1:=Eg (x:=(pa b x).1-p.1) (y:=(pa b y).1-p.1) (by omega) (by omega)
     have b2:=Eg (x:=(pa b x).2-p.2) (y:=(pa b y).2-p.2) (by omega) (by omega)
     omega
   exact hp ((lone p1 s1 c1 z1).trans (lone p2 s2 c2 z2).symm)
 obtain⟨x,y,hxy,hy,ex,ey⟩:=two
 by_cases adj:y=x+1
 ·exact⟨x,by omega,ex,by rw[Nat.mod_eq_of_lt (by omega),←adj];exact ey⟩
 by_cases adj2:x=0∧y+1=b.length
 ·exact⟨y,hy,ey,by rw[adj2.2,Nat.mod_self,←adj2.1];exact ex⟩
 exfalso
 have hxne:pa b x≠pa b y:=fun e=>by
  have:=EE h.cv x 1 (by omega) (y-x-2) (by omega)
  rw[show x+(1+(y-x-2)+1)=y by omega,Cm hy,Cm (by omega:x<b.length),e,Bk] at this
  omega
 have t1:=EE h.cv x 1 (by omega) (y-x-2) (by omega)
 rw[show x+(1+(y-x-2)+1)=y by omega,Cm hy,Cm (by omega:x<b.length)] at t1
 obtain⟨w,hw1,hw2⟩:∃w,y-x<w∧w<b.length:=⟨y-x+1,by omega,by omega⟩
 have t2:=EE h.cv x (y-x) (by omega) (w-(y-x)-1) (by omega)
 rw[show x+(y-x+(w-(y-x)-1)+1)=x+w by omega,show x+(y-x)=y by omega,Cm hy,Cm (by omega:x<b.length)] at t2
 have r1:=Gj P Q (pa b x) (pa b y) (qa b (x+1)) ex ey
 have r2:=Gj P Q (pa b x) (pa b y) (qa b (x+w)) ex ey
 have D:=H0 hne
 have k1:=hs _ (ED hn (x+1))
 have k2:=hs _ (ED hn (x+w))
 have e1:trn (pa b x) (pa b y) (qa b (x+1))= -trn (pa b x) (qa b (x+1)) (pa b y):=by unfold trn;grind
 rw[e1] at r1
 generalize dd P Q (pa b y)-dd P Q (pa b x)=s at*
 generalize dd P Q Q=D' at*
 generalize trn (pa b x) (qa b (x+1)) (pa b y)=A at*
 generalize trn (pa b x) (pa b y) (qa b (x+w))=B at*
 generalize trn P Q (qa b (x+1))=f1 at*
 generalize trn P Q (qa b (x+w))=f2 at*
 have m1:=Int.mul_pos t1 D
 have m2:=Int.mul_pos t2 D
 have m3:f1*s<0:=by rw[←r1,Int.neg_mul];omega
 have m4:0<f2*s:=by omega
 rcases Int.lt_or_le 0 s with q|q
 ·have:=Int.mul_nonneg (show 0≤-f2 by omega) (Int.le_of_lt q)
  rw[Int.neg_mul] at this;omega
 ·have:=Int.mul_nonneg (show 0≤-f1 by omega) (show 0≤-s by omega)
  rw[Int.neg_mul_neg] at this;omega
theorem IV {e f:Pt×Pt} {s:Pt×Pt} (h:BB e f=some s):trn e.1 e.2 f.1=0∧trn e.1 e.2 f.2=0∧(AT e.1 e.2 f.1 f.2).1≠(AT e.1 e.2 f.1 f.2).2∧AQ (AT e.1 e.2 f.1 f.2).1 (AT e.1 e.2 f.1 f.2).2∧s=(if 0<A7 e.1 e.2 then((AT e.1 e.2 f.1 f.2).2,(AT e.1 e.2 f.1 f.2).1) else AT e.1 e.2 f.1 f.2):=by
 unfold BB at h
 split at h
 ·cases h
 ·rename_i h1
  split at h
  ·cases h
  ·rename_i h2
   refine⟨?_, ?_,fun q=>h2 (.inl q),Gi.2 fun q=>h2 (.inr q), ?_⟩
   ·by_cases z:trn e.1 e.2 f.1=0
    ·exact z
    ·exact absurd (.inl z) h1
   ·by_cases z:trn e.1 e.2 f.2=0
    ·exact z
    ·exact absurd (.inr z) h1
   ·split at h
    ·rename_i h3;rw[if_pos h3];exact(yJ h).symm
    ·rename_i h3;rw[if_neg h3];exact(yJ h).symm
theorem OX {e f:Pt×Pt} (h1:trn e.1 e.2 f.1=0) (h2:trn e.1 e.2 f.2=0) (h3:(AT e.1 e.2 f.1 f.2).1≠(AT e.1 e.2 f.1 f.2).2) (h4:AQ (AT e.1 e.2 f.1 f.2).1 (AT e.1 e.2 f.1 f.2).2):BB e f=some (if 0<A7 e.1 e.2 then((AT e.1 e.2 f.1 f.2).2,(AT e.1 e.2 f.1 f.2).1) else AT e.1 e.2 f.1 f.2):=by
 unfold BB
 rw[if_neg (by omega),if_neg (by
  rintro(q|q)
  ·exact h3 q
  ·exact Gi.1 h4 q)]
 split<;>rfl
theorem Fi {P Q R S p:Pt}:(AQ (AT P Q R S).1 p∧AQ p (AT P Q R S).2)↔btw P Q p∧btw R S p:=by
 unfold AT
 rw[JZ,JZ,PY,PZ]
 constructor
 ·rintro⟨⟨a,b⟩,c,d⟩;exact⟨⟨a,c⟩,b,d⟩
 ·rintro⟨⟨a,c⟩,b,d⟩;exact⟨⟨a,b⟩,c,d⟩
theorem P5 {P Q R S:Pt} (hR:trn P Q R=0) (hS:trn P Q S=0):trn P Q (AT P Q R S).1=0∧trn P Q (AT P Q R S).2=0:=by
 have h1:∀u v:Pt,trn P Q u=0→trn P Q v=0→trn P Q (lo u v)=0∧trn P Q (Am.hi u v)=0∧trn P Q (CX u v)=0∧trn P Q (CY u v)=0:=fun u v a b=>by
  unfold lo Am.hi CX CY
  refine⟨?_, ?_, ?_, ?_⟩<;>split<;>assumption
 have a:=h1 P Q (Bk P Q) (Bn P Q)
 have b:=h1 R S hR hS
 exact⟨(h1 _ _ a.1 b.1).2.2.1,(h1 _ _ a.2.1 b.2.1).2.2.2⟩
section
variable {a b:List Pt}
theorem J1 (ha:VP a) (hb:VP b) {j:Nat} (hj:j<a.length) (hs:sep a j b) {p1 p2:Pt} (hne:p1≠p2) (b1:Bth a b p1) (b2:Bth a b p2) (s1:Sml p1) (s2:Sml p2):
  ∃t,t<b.length∧trn (pa a j) (pa a ((j+1)%a.length)) (pa b t)=0∧trn (pa a j) (pa a ((j+1)%a.length)) (pa b ((t+1)%b.length))=0∧E a j p1=0∧E a j p2=0:=by
 have hm:(j+1)%a.length<a.length:=Nat.mod_lt _ (by omega)
 have z1:E a j p1=0:=by
  have:=b1.1 j hj
  have:=Gk hb b1.2 hs
  unfold E at*;omega
 have z2:E a j p2=0:=by
  have:=b2.1 j hj
  have:=Gk hb b2.2 hs
  unfold E at*;omega
 obtain⟨t,ht,e1,e2⟩:=OW hb (ha.ne hj) hs ⟨ha.sml _ (AJ hj),ha.sml _ (AJ hm)⟩ hne s1 b1.2 b2.2 z1 z2 s2
 exact⟨t,ht,e1,e2,z1,z2⟩
theorem Ri (ha:VP a) (hb:VP b) (hap:apart a b) {p1 p2:Pt} (hne:p1≠p2) (b1:Bth a b p1) (b2:Bth a b p2) (s1:Sml p1) (s2:Sml p2):∃e∈AS a,∃f∈AS b,∃s,BB e f=some s:=by
 have key:∃j t,j<a.length∧t<b.length∧trn (pa a j) (pa a ((j+1)%a.length)) (pa b t)=0∧trn (pa a j) (pa a ((j+1)%a.length)) (pa b ((t+1)%b.length))=0∧(E a j p1=0∧E a j p2=0)∧E b t p1=0∧E b t p2=0:=by
  rcases hap with⟨j,hj,hs⟩|⟨t,ht,hs⟩
  ·obtain⟨t,ht,e1,e2,z1,z2⟩:=J1 ha hb hj hs hne b1 b2 s1 s2
   refine⟨j,t,hj,ht,e1,e2,⟨z1,z2⟩, ?_, ?_⟩
   ·exact(Cz (ha.ne hj) (hb.ne ht) e1 e2).2 z1
   ·exact(Cz (ha.ne hj) (hb.ne ht) e1 e2).2 z2
  ·obtain⟨j,hj,e1,e2,z1,z2⟩:=J1 hb ha ht hs hne ⟨b1.2,b1.1⟩ ⟨b2.2,b2.1⟩ s1 s2
   have L:=fun x=>Cz (x:=x) (hb.ne ht) (ha.ne hj) e1 e2
   exact⟨j,t,hj,ht,(L _).2 (Bk _ _),(L _).2 (Bn _ _),⟨(L _).2 z1,(L _).2 z2⟩,z1,z2⟩
 obtain⟨j,t,hj,ht,e1,e2,⟨z1,z2⟩,w1,w2⟩:=key
 have m1:=Fi.2 ⟨(BZ ha hj z1).1 b1.1,(BZ hb ht w1).1 b1.2⟩
 have m2:=Fi.2 ⟨(BZ ha hj z2).1 b2.1,(BZ hb ht w2).1 b2.2⟩
 refine⟨_,BL.2 ⟨j,hj,rfl⟩,_,BL.2 ⟨t,ht,rfl⟩,_,OX e1 e2 (fun q=> ?_) (Do m1.1 m1.2)⟩
 simp only at q m1 m2
 rw[←q] at m1 m2
 exact hne ((Ce m1.2 m1.1).trans (Ce m2.2 m2.1).symm)
structure SeamOK (a b:List Pt) (s:Pt×Pt):Prop where
 ne:s.1≠s.2
 on:∀p,(clo a p∧¬inn a p)∧(clo b p∧¬inn b p)↔trn s.1 s.2 p=0∧btw s.1 s.2 p
 left:∀x∈a,0≤trn s.1 s.2 x
theorem RF (ha:VP a) (hb:VP b) (hap:apart a b) {j t:Nat} (hj:j<a.length) (ht:t<b.length) {s:Pt×Pt} (hc:BB (pa a j,pa a ((j+1)%a.length)) (pa b t,pa b ((t+1)%b.length))=some s):
  SeamOK a b s∧(dd (pa a j) (pa a ((j+1)%a.length)) (pa b ((t+1)%b.length))<dd (pa a j) (pa a ((j+1)%a.length)) (pa b t))∧(trn (pa a j) (pa a ((j+1)%a.length)) s.1=0∧trn (pa a j) (pa a ((j+1)%a.length)) s.2=0)∧Bth a b s.1∧Bth a b s.2:=by
 obtain⟨zR,zS,ne,le,hs⟩:=IV hc
 simp only at zR zS ne le hs
 have hmj:(j+1)%a.length<a.length:=Nat.mod_lt _ (by omega)
 have hmt:(t+1)%b.length<b.length:=Nat.mod_lt _ (by omega)
 have nPQ:=ha.ne hj
 have nRS:=hb.ne ht
 have L:=fun x=>Cz (x:=x) nPQ nRS zR zS
 have D:=H0 nPQ
 obtain⟨zf,zt⟩:=P5 zR zS
 have mf:=Fi.1 ⟨HZ _,le⟩
 have mt:=Fi.1 ⟨le,HZ _⟩
 have cf:Bth a b (AT (pa a j) (pa a ((j+1)%a.length)) (pa b t) (pa b ((t+1)%b.length))).1:=⟨(BZ ha hj zf).2 mf.1,(BZ hb ht ((L _).2 zf)).2 mf.2⟩
 have ct:Bth a b (AT (pa a j) (pa a ((j+1)%a.length)) (pa b t) (pa b ((t+1)%b.length))).2:=⟨(BZ ha hj zt).2 mt.1,(BZ hb ht ((L _).2 zt)).2 mt.2⟩
 have cm:∀p,(AQ (AT (pa a j) (pa a ((j+1)%a.length)) (pa b t) (pa b ((t+1)%b.length))).1 p∧AQ p (AT (pa a j) (pa a ((j+1)%a.length)) (pa b t) (pa b ((t+1)%b.length))).2)↔btw (pa a j) (pa a ((j+1)%a.length)) p∧btw (pa b t) (pa b ((t+1)%b.length)) p:=fun p=>Fi
 generalize AT (pa a j) (pa a ((j+1)%a.length)) (pa b t) (pa b ((t+1)%b.length))=c at*
 have uniq:∀{l:List Pt} (h:VP l) {g i:Nat} (hg:g<l.length) (hi:i<l.length),E l g c.1=0→E l g c.2=0→E l i c.1=0→E l i c.2=0→g=i:=by
  intro l h g i hg hi g1 g2 i1 i2
  have l3:=h.l3
  have A:=fun x=>Cz (x:=x) (h.ne hi) ne i1 i2
  have B:=fun x=>Cz (x:=x) (h.ne hg) ne g1 g2
  have hmi:(i+1)%l.length<l.length:=Nat.mod_lt _ (by omega)
  have p1:=J0 h hg hi ((B _).1 ((A _).2 (Bk _ _)))
  have p2:=J0 h hg hmi ((B _).1 ((A _).2 (Bn _ _)))
  rcases p1 with p1|p1
  ·exact p1.symm
  ·rcases p2 with p2|p2
   ·exfalso
    rw[p1,Nat.mod_add_mod] at p2
    have:=HO (s:=g) (n:=l.length) (a:=2) (b:=0) (by omega) (by omega) (by omega)
    rw[Nat.add_zero g,Nat.mod_eq_of_lt hg] at this
    exact this p2
   ·exfalso
    rw[p1,Nat.mod_add_mod] at p2
    have:=HO (s:=g) (n:=l.length) (a:=2) (b:=1) (by omega) (by omega) (by omega)
    exact this p2
 have rel:∀x,E b t x*dd (pa a j) (pa a ((j+1)%a.length)) (pa a ((j+1)%a.length))=E a j x*(dd (pa a j) (pa a ((j+1)%a.length)) (pa b ((t+1)%b.length))-dd (pa a j) (pa a ((j+1)%a.length)) (pa b t)):=fun x=>Gj _ _ _ _ x zR zS
 have zero0:∀p,clo a p→clo b p→sep a j b→E a j p=0:=fun p h1 h2 h3=>by
  have:=h1 j hj
  have:=Gk hb h2 h3
  unfold E at*;omega
 have opp:sep a j b:=by
  rcases hap with⟨g,hg,hsg⟩|⟨g,hg,hsg⟩
  ·have v:∀p,Bth a b p→E a g p=0:=fun p hp=>by
    have:=hp.1 g hg
    have:=Gk hb hp.2 hsg
    unfold E at*;omega
   rw[←uniq ha hg hj (v _ cf) (v _ ct) zf zt]
   exact hsg
  ·have v:∀p,Bth a b p→E b g p=0:=fun p hp=>by
    have:=hp.2 g hg
    have:=Gk ha hp.1 hsg
    unfold E at*;omega
   have e:=uniq hb hg ht (v _ cf) (v _ ct) ((L _).2 zf) ((L _).2 zt)
   rw[e] at hsg
   obtain⟨x,hx,px⟩:=Iq ha hj
   have r:=rel x
   have:=hsg x hx
   generalize dd (pa a j) (pa a ((j+1)%a.length)) (pa b ((t+1)%b.length))-dd (pa a j) (pa a ((j+1)%a.length)) (pa b t)=k at*
   have k1:=Int.mul_nonneg (show 0≤-E b t x by omega) (Int.le_of_lt D)
   rw[Int.neg_mul] at k1
   have k0:k≤0:=by
    rcases Int.lt_or_le 0 k with q|q
    ·have:=Int.mul_pos px q;omega
    ·exact q
   intro q hq
   have r2:=rel q
   have nn:=P4 hb ht hq
   rcases Int.lt_or_le 0 (E a j q) with z|z
   ·exfalso
    by_cases kz:k=0
    ·obtain⟨y,hy,py⟩:=Iq hb ht
     have r3:=rel y
     rw[kz,Int.mul_zero] at r3
     have:=Int.mul_pos py D
     omega
    ·have m1:=Int.mul_pos z (show 0< -k by omega)
     rw[Int.mul_neg] at m1
     have m2:=Int.mul_nonneg nn (Int.le_of_lt D)
     omega
   ·exact z
 have kneg:dd (pa a j) (pa a ((j+1)%a.length)) (pa b ((t+1)%b.length))-dd (pa a j) (pa a ((j+1)%a.length)) (pa b t)<0:=by
  obtain⟨y,hy,py⟩:=Iq hb ht
  have r:=rel y
  have o:=opp y hy
  have m1:=Int.mul_pos py D
  generalize dd (pa a j) (pa a ((j+1)%a.length)) (pa b ((t+1)%b.length))-dd (pa a j) (pa a ((j+1)%a.length)) (pa b t)=k at*
  rcases Int.lt_or_le k 0 with q|q
  ·exact q
  ·have:=Int.mul_nonneg (show 0≤-E a j y by omega) q
   rw[Int.neg_mul] at this;omega
 have X:∀p,(clo a p∧¬inn a p)∧(clo b p∧¬inn b p)↔E a j p=0∧AQ c.1 p∧AQ p c.2:=fun p=>by
  constructor
  ·rintro⟨⟨h1,_⟩,h2,_⟩
   have z:=zero0 p h1 h2 opp
   exact⟨z,(cm p).2 ⟨(BZ ha hj z).1 h1,(BZ hb ht ((L p).2 z)).1 h2⟩⟩
  ·rintro⟨z,hm⟩
   have:=(cm p).1 hm
   have z2:E b t p=0:=(L p).2 z
   refine⟨⟨(BZ ha hj z).2 this.1,fun hi=> ?_⟩,(BZ hb ht z2).2 this.2,fun hi=> ?_⟩
   ·have:=hi j hj;omega
   ·have:=hi t ht;omega
 have key:∀u w:Pt,u≠w→trn (pa a j) (pa a ((j+1)%a.length)) u=0→trn (pa a j) (pa a ((j+1)%a.length)) w=0→dd (pa a j) (pa a ((j+1)%a.length)) u≤dd (pa a j) (pa a ((j+1)%a.length)) w→∀x∈a,0≤trn u w x:=fun u w huw zu zw hle x hx=>by
  have r:=Gj _ _ u w x zu zw
  have n:=P4 ha hj hx
  have:=Int.mul_nonneg n (show 0≤dd (pa a j) (pa a ((j+1)%a.length)) w-dd (pa a j) (pa a ((j+1)%a.length)) u by omega)
  unfold E at this
  exact BA D (by rw[Int.mul_comm];omega)
 by_cases hg:0<A7 (pa a j) (pa a ((j+1)%a.length))
 ·rw[if_pos hg] at hs
  subst hs
  have hQP:AQ (pa a ((j+1)%a.length)) (pa a j):=by rw[Dn] at hg;unfold AQ;omega
  have s1:trn (pa a ((j+1)%a.length)) (pa a j) c.1=0:=by rw[Dy];omega
  have s2:trn (pa a ((j+1)%a.length)) (pa a j) c.2=0:=by rw[Dy];omega
  have o:=(Dp (Ne.symm nPQ) hQP s1 s2).2 le
  have ee:∀x,dd (pa a ((j+1)%a.length)) (pa a j) x=dd (pa a j) (pa a ((j+1)%a.length)) (pa a ((j+1)%a.length))-dd (pa a j) (pa a ((j+1)%a.length)) x:=fun x=>by unfold dd;grind
  rw[ee,ee] at o
  refine⟨⟨Ne.symm ne,fun p=> ?_,key c.2 c.1 (Ne.symm ne) zt zf (by omega)⟩,by omega,⟨zt,zf⟩,ct,cf⟩
  rw[X p]
  have sl:=Cz (x:=p) nPQ (Ne.symm ne) zt zf
  constructor
  ·rintro⟨q1,q2,q3⟩;exact⟨sl.2 q1,.inr ⟨q2,q3⟩⟩
  ·rintro⟨q1,q2|q2⟩
   ·exact absurd (Ce le (Do q2.1 q2.2)) ne
   ·exact⟨sl.1 q1,q2⟩
 ·rw[if_neg hg] at hs
  subst hs
  have hPQ:AQ (pa a j) (pa a ((j+1)%a.length)):=Gi.2 hg
  have o:=(Dp nPQ hPQ zf zt).2 le
  refine⟨⟨ne,fun p=> ?_,key _ _ ne zf zt o⟩,by omega,⟨zf,zt⟩,cf,ct⟩
  rw[X p]
  have sl:=Cz (x:=p) nPQ ne zf zt
  constructor
  ·rintro⟨q1,q2,q3⟩;exact⟨sl.2 q1,.inl ⟨q2,q3⟩⟩
  ·rintro⟨q1,q2|q2⟩
   ·exact⟨sl.1 q1,q2⟩
   ·exact absurd (Ce le (Do q2.1 q2.2)) ne
end
theorem QC {a b:List Pt} {s:Pt×Pt} (h:D4 a b=some s):∃j t,j<a.length∧t<b.length∧BB (pa a j,pa a ((j+1)%a.length)) (pa b t,pa b ((t+1)%b.length))=some s:=by
 unfold D4 at h
 obtain⟨e,he,h⟩:=List.exists_of_findSome?_eq_some h
 obtain⟨f,hf,h⟩:=List.exists_of_findSome?_eq_some h
 obtain⟨j,hj,rfl⟩:=BL.1 he
 obtain⟨t,ht,rfl⟩:=BL.1 hf
 exact⟨j,t,hj,ht,h⟩
theorem QD {a b:List Pt} (h:D4 a b=none) {e f:Pt×Pt} (he:e∈AS a) (hf:f∈AS b):BB e f=none:=by
 unfold D4 at h
 rw[List.findSome?_eq_none_iff] at h
 have:=h e he
 rw[List.findSome?_eq_none_iff] at this
 exact this f hf
theorem onN {x y:Nat} (hx:x≤40) (hy:y≤40):On ((x:Int),(y:Int)):=by unfold On;simp only;omega
end Go.Proofs.YtdabfcbelkjmgaaGreatDoor.Am
