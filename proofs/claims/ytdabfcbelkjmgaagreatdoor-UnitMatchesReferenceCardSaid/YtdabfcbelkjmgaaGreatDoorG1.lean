namespace Go.Proofs.YtdabfcbelkjmgaaGreatDoor.Am
set_option linter.unusedSimpArgs false
set_option linter.unusedVariables false
abbrev Pt:=Int×Int
def trn (a b c:Pt):Int:=(b.1-a.1)*(c.2-a.2)-(b.2-a.2)*(c.1-a.1)
def dst (a b:Pt):Int:=(a.1-b.1)*(a.1-b.1)+(a.2-b.2)*(a.2-b.2)
def A2 (v w p:Pt):Int:=(w.1-v.1)*(p.1-v.1)+(w.2-v.2)*(p.2-v.2)
def lin (g v p:Pt):Int:=g.1*(p.1-v.1)+g.2*(p.2-v.2)
def Ext (P:List Pt) (v:Pt):Prop:=∃g:Pt,∀p∈P,p≠v→0<lin g v p
structure Edge (P:List Pt) (v w:Pt):Prop where
 ne:v≠w
 mv:v∈P
 mw:w∈P
 left:∀p∈P,0≤trn v w p
 seg:∀p∈P,trn v w p=0→0≤A2 v w p∧0≤A2 w v p
theorem GF (x:Int):0≤x*x:=by
 rcases Int.le_total 0 x with h|h
 ·exact Int.mul_nonneg h h
 ·exact Int.mul_nonneg_of_nonpos_of_nonpos h h
theorem sq0 {x:Int} (h:x*x=0):x=0:=by
 rcases Int.mul_eq_zero.1 h with h|h<;>exact h
theorem Ox (a b:Pt):0≤dst a b:=by
 unfold dst
 have h1:=GF (a.1-b.1)
 have h2:=GF (a.2-b.2)
 omega
theorem JI {a b:Pt} (h:dst a b=0):a=b:=by
 unfold dst at h
 have h1:=GF (a.1-b.1)
 have h2:=GF (a.2-b.2)
 have:=sq0 (x:=a.1-b.1) (by omega)
 have:=sq0 (x:=a.2-b.2) (by omega)
 exact Prod.ext (by omega) (by omega)
theorem DU {a b:Pt} (h:a≠b):0<dst a b:=by
 have:=Ox a b
 have:dst a b≠0:=fun e=>h (JI e)
 omega
theorem Eg {x y:Int} (hx: -1000≤x∧x≤1000) (hy: -1000≤y∧y≤1000): -1000000≤x*y∧x*y≤1000000:=by
 have h1:0≤(1000-x)*(1000+y):=Int.mul_nonneg (by omega) (by omega)
 have h2:0≤(1000+x)*(1000-y):=Int.mul_nonneg (by omega) (by omega)
 have h3:0≤(1000+x)*(1000+y):=Int.mul_nonneg (by omega) (by omega)
 have h4:0≤(1000-x)*(1000-y):=Int.mul_nonneg (by omega) (by omega)
 constructor<;>grind
theorem Lj (v w p:Pt):trn v w p*trn v w p+A2 w v p*A2 w v p=dst v w*dst p w:=by
 unfold trn A2 dst;grind
theorem BX (a b c:Pt):trn b c a=trn a b c:=by unfold trn;grind
theorem Dy (a b c:Pt):trn b a c= -trn a b c:=by unfold trn;grind
theorem Bk (a b:Pt):trn a b a=0:=by unfold trn;grind
theorem Bn (a b:Pt):trn a b b=0:=by unfold trn;grind
theorem L6 (a b:Pt):trn a a b=0:=by unfold trn;grind
def Sml (p:Pt):Prop:=(-400≤p.1∧p.1≤400)∧(-400≤p.2∧p.2≤400)
theorem Edge.ext {P:List Pt} {v w:Pt} (h:Edge P v w) (hb:∀p∈P,Sml p):Ext P w:=by
 refine⟨(10000000*(v.2-w.2)+(v.1-w.1),10000000*(w.1-v.1)+(v.2-w.2)),fun p hp hne=> ?_⟩
 have e:lin (10000000*(v.2-w.2)+(v.1-w.1),10000000*(w.1-v.1)+(v.2-w.2)) w p=10000000*trn v w p+A2 w v p:=by
  unfold lin trn A2;grind
 rw[e]
 have hl:=h.left p hp
 rcases Int.lt_or_eq_of_le hl with hlt|heq
 ·have hv:=hb v h.mv
  have hw:=hb w h.mw
  have hp':=hb p hp
  unfold Sml at hv hw hp'
  have b1:=Eg (x:=v.1-w.1) (y:=p.1-w.1) (by omega) (by omega)
  have b2:=Eg (x:=v.2-w.2) (y:=p.2-w.2) (by omega) (by omega)
  have: -2000000≤A2 w v p:=by unfold A2;omega
  omega
 ·have hs:=(h.seg p hp heq.symm).2
  have hz:A2 w v p≠0:=fun hz=>by
   have:=Lj v w p
   rw[←heq,hz] at this
   have h0:dst v w*dst p w=0:=by omega
   rcases Int.mul_eq_zero.1 h0 with h0|h0
   ·exact h.ne (JI h0)
   ·exact hne (JI h0)
  omega
theorem Lk (g o a b c:Pt):lin g o b*trn o a c=lin g o a*trn o b c+lin g o c*trn o a b:=by
 unfold lin trn;grind
theorem GG {g o a b:Pt} (h:trn o a b=0):lin g o a*A2 o a b=lin g o b*dst a o:=by
 have:(lin g o a*A2 o a b-lin g o b*dst a o)=trn o a b*(g.1*(a.2-o.2)-g.2*(a.1-o.1)):=by
  unfold lin A2 dst trn;grind
 rw[h] at this
 omega
theorem Oy {g o a b:Pt} (h:trn o a b=0):lin g o a*lin g o a*dst b o=lin g o b*lin g o b*dst a o:=by
 have e1:=GG (g:=g) h
 have e2:lin g o b*A2 o b a=lin g o a*dst b o:=GG (by rw[BX,BX] at*;unfold trn at*;grind)
 have e3:A2 o b a=A2 o a b:=by unfold A2;grind
 rw[e3] at e2
 grind
def BM (o n p:Pt):Pt:=if p=o then n else if n=o∨trn o n p<0∨(trn o n p=0∧dst o n<dst o p) then p else n
def sel (o:Pt) (P:List Pt):Pt:=P.foldl (BM o) o
def Sel (o:Pt) (Q:List Pt) (n:Pt):Prop:=(n=o∧∀p∈Q,p=o)∨(n∈Q∧n≠o∧∀p∈Q,p=o∨(0≤trn o n p∧(trn o n p=0→dst o p≤dst o n)))
theorem CD {a b:Int} (ha:0<a) (h:0<a*b):0<b:=by
 rcases Int.lt_or_le 0 b with hb|hb
 ·exact hb
 ·have:=Int.mul_nonneg (Int.le_of_lt ha) (show 0≤-b by omega)
  rw[Int.mul_neg] at this;omega
theorem BA {a b:Int} (ha:0<a) (h:0≤a*b):0≤b:=by
 rcases Int.lt_or_le b 0 with hb|hb
 ·have:=Int.mul_pos ha (show 0< -b by omega)
  rw[Int.mul_neg] at this;omega
 ·exact hb
theorem Ki {a b:Int} (ha:0<a) (h:a*b=0):b=0:=by
 rcases Int.mul_eq_zero.1 h with h|h
 ·omega
 ·exact h
theorem Nu {o n p g:Pt} {Q:List Pt} (hg:∀q∈Q++[p],q≠o→0<lin g o q) (h:Sel o Q n):Sel o (Q++[p]) (BM o n p):=by
 unfold BM
 by_cases hp:p=o
 ·rw[if_pos hp]
  rcases h with⟨h1,h2⟩|⟨h1,h2,h3⟩
  ·exact .inl ⟨h1,fun q hq=>by rcases List.mem_append.1 hq with hq|hq;exact h2 q hq;simp at hq;rw[hq,hp]⟩
  ·exact .inr ⟨by simp[h1],h2,fun q hq=>by rcases List.mem_append.1 hq with hq|hq;exact h3 q hq;simp at hq;exact .inl (by rw[hq,hp])⟩
 ·rw[if_neg hp]
  have gp:=hg p (by simp) hp
  rcases h with⟨h1,h2⟩|⟨h1,h2,h3⟩
  ·rw[if_pos (.inl h1)]
   refine .inr ⟨by simp,hp,fun q hq=> ?_⟩
   rcases List.mem_append.1 hq with hq|hq
   ·exact .inl (h2 q hq)
   ·simp at hq;subst hq
    exact .inr ⟨by rw[Bn];omega,fun _=>by omega⟩
  ·have gn:=hg n (by simp[h1]) h2
   by_cases hc:n=o∨trn o n p<0∨(trn o n p=0∧dst o n<dst o p)
   ·rw[if_pos hc]
    refine .inr ⟨by simp,hp,fun q hq=> ?_⟩
    rcases List.mem_append.1 hq with hq|hq
    ·by_cases hqo:q=o
     ·exact .inl hqo
     refine .inr ?_
     have gq:=hg q (by simp[hq]) hqo
     rcases h3 q hq with k|⟨k1,k2⟩
     ·exact absurd k hqo
     have pl:=Lk g o p n q
     have sw:trn o p n= -trn o n p:=by unfold trn;grind
     rcases hc with hc|hc|⟨hc,hd⟩
     ·exact absurd hc h2
     ·have a1:0<lin g o q*trn o p n:=Int.mul_pos gq (by omega)
      have a2:0≤lin g o p*trn o n q:=Int.mul_nonneg (by omega) k1
      have:=CD gn (b:=trn o p q) (by omega)
      exact⟨by omega,fun e=>by omega⟩
     ·rw[sw,hc] at pl
      have a2:0≤lin g o p*trn o n q:=Int.mul_nonneg (by omega) k1
      refine⟨BA gn (b:=trn o p q) (by omega),fun e=> ?_⟩
      rw[e] at pl
      have:=Ki gp (b:=trn o n q) (by omega)
      have:=k2 this
      omega
    ·simp at hq;subst hq
     exact .inr ⟨by rw[Bn];omega,fun _=>by omega⟩
   ·rw[if_neg hc]
    refine .inr ⟨by simp[h1],h2,fun q hq=> ?_⟩
    rcases List.mem_append.1 hq with hq|hq
    ·exact h3 q hq
    ·simp at hq;subst hq
     refine .inr ⟨by omega,fun e=> ?_⟩
     omega
theorem KE {o g:Pt}:∀(R Q:List Pt) (n:Pt),(∀q∈Q++R,q≠o→0<lin g o q)→Sel o Q n→Sel o (Q++R) (R.foldl (BM o) n)
 |[],Q,n,_,h=>by simpa using h
 |p::R,Q,n,hg,h=>by
  have e:Q++p::R=(Q++[p])++R:=by simp
  rw[e] at hg⊢
  exact KE R (Q++[p]) _ hg (Nu (fun q hq=>hg q (by simp at hq⊢;rcases hq with h|h<;>simp[h])) h)
theorem Nv {P:List Pt} {o:Pt} (ho:o∈P) (h:Ext P o):(sel o P=o∧∀p∈P,p=o)∨Edge P o (sel o P):=by
 obtain⟨g,hg⟩:=h
 have hs:Sel o P (sel o P):=by
  have:=KE P [] o (by simpa using hg) (.inl ⟨rfl,by simp⟩)
  rw[List.nil_append] at this;exact this
 rcases hs with hs|⟨h1,h2,h3⟩
 ·exact .inl hs
 ·refine .inr ⟨fun e=>h2 e.symm,ho,h1,fun p hp=> ?_,fun p hp e=> ?_⟩
  ·rcases h3 p hp with rfl|⟨k,_⟩
   ·rw[Bk];omega
   ·exact k
  ·have dn:0<dst (sel o P) o:=DU h2
   have e2:A2 (sel o P) o p=dst (sel o P) o-A2 o (sel o P) p:=by unfold A2 dst;grind
   by_cases hp':p=o
   ·subst hp'
    have:A2 p (sel p P) p=0:=by unfold A2;grind
    omega
   have gp:=hg p hp hp'
   have gn:=hg _ h1 h2
   have hd:dst o p≤dst o (sel o P):=by
    rcases h3 p hp with k|⟨_,k⟩
    ·exact absurd k hp'
    ·exact k e
   have s1:dst o p=dst p o:=by unfold dst;grind
   have s2:dst o (sel o P)=dst (sel o P) o:=by unfold dst;grind
   have c1:=GG (g:=g) e
   have c2:=Oy (g:=g) e
   have q1:=Int.mul_pos gp dn
   have d0:=CD gn (b:=A2 o (sel o P) p) (by omega)
   refine⟨by omega, ?_⟩
   rw[e2]
   generalize lin g o p=x at*
   generalize lin g o (sel o P)=y at*
   generalize dst (sel o P) o=D at*
   generalize dst p o=E at*
   generalize A2 o (sel o P) p=t at*
   have hxy:x≤y:=by
    rcases Int.lt_or_le y x with hlt|hle
    ·have a1:y*y<x*x:=by
      have:=Int.mul_lt_mul_of_pos_left hlt gn
      have:=Int.mul_lt_mul_of_pos_right hlt gp
      omega
     have a2:=Int.mul_lt_mul_of_pos_right a1 dn
     have a3:y*y*E≤y*y*D:=Int.mul_le_mul_of_nonneg_left (by omega) (GF y)
     omega
    ·exact hle
   have a4:x*D≤y*D:=Int.mul_le_mul_of_nonneg_right hxy (by omega)
   have a5:0≤y*(D-t):=by rw[Int.mul_sub];omega
   exact BA gn a5
theorem eq3 {A B t:Int} (ht:0≤t) (h1:t≤A) (h2:t≤B) (pa:0<A) (pb:0<B) (la:t*t=A*B):A=t∧B=t:=by
 have k1:t*t≤t*B:=Int.mul_le_mul_of_nonneg_left (by omega) (by omega)
 have k2:t*t≤A*t:=Int.mul_le_mul_of_nonneg_right (by omega) (by omega)
 have k3:0≤B*(t-A):=by rw[Int.mul_sub,Int.mul_comm B A,Int.mul_comm B t];omega
 have k4:0≤A*(t-B):=by rw[Int.mul_sub];omega
 have k5:=BA pb k3
 have k6:=BA pa k4
 omega
theorem Edge.pred {P:List Pt} {a b w:Pt} (h1:Edge P a w) (h2:Edge P b w):a=b:=by
 have l1:=h1.left b h2.mv
 have l2:=h2.left a h1.mv
 have e1:trn b w a= -trn a w b:=by unfold trn;grind
 have z1:trn a w b=0:=by omega
 have z2:trn b w a=0:=by omega
 have s1:=h1.seg b h2.mv z1
 have s2:=h2.seg a h1.mv z2
 have la:=Lj a w b
 have pa:=DU h1.ne
 have pb:=DU h2.ne
 have i1:A2 a w b=dst a w-A2 w a b:=by unfold A2 dst;grind
 have i2:A2 b w a=dst b w-A2 w a b:=by unfold A2 dst;grind
 have i3:dst a b=dst a w+dst b w-2*A2 w a b:=by unfold A2 dst;grind
 rw[z1] at la
 generalize dst a w=A at*
 generalize dst b w=B at*
 generalize A2 w a b=t at*
 have:=eq3 (A:=A) (B:=B) (t:=t) (by omega) (by omega) (by omega) pa pb (by omega)
 exact JI (by omega)
theorem Ll {P:List Pt} {a b c:Pt} (h:Edge P a b) (hc:c∈P) (hx:Ext P c) (h1:c≠a) (h2:c≠b):0<trn a b c:=by
 have:=h.left c hc
 rcases Int.lt_or_eq_of_le this with h|e
 ·exact h
 ·exfalso
  obtain⟨g,hg⟩:=hx
  have ga:=hg a h.mv (Ne.symm h1)
  have gb:=hg b h.mw (Ne.symm h2)
  have z:trn c a b=0:=by rw[←BX c a b];exact e.symm
  have cd:=GG (g:=g) z
  have s:=h.seg c hc e.symm
  have la:trn a b c*trn a b c+A2 b a c*A2 b a c=dst a b*dst c b:=Lj a b c
  have da:=DU (Ne.symm h1)
  have q:=Int.mul_pos gb da
  have d1:0<A2 c a b:=CD ga (by omega)
  have i1:A2 c a b=dst c a-A2 a b c:=by unfold A2 dst;grind
  have i2:A2 c a b=dst c b-A2 b a c:=by unfold A2 dst;grind
  have i3:dst a b=dst c a+dst c b-2*A2 c a b:=by unfold A2 dst;grind
  have la2:trn a c b*trn a c b+A2 c a b*A2 c a b=dst a c*dst b c:=Lj a c b
  have z2:trn a c b=0:=by
   have:trn a c b= -trn c a b:=by unfold trn;grind
   omega
  have i4:dst a c=dst c a:=by unfold dst;grind
  have i5:dst b c=dst c b:=by unfold dst;grind
  rw[z2,i4,i5] at la2
  generalize dst c a=A at*
  generalize dst c b=B at*
  generalize A2 c a b=t at*
  have hB:0<B:=by rw[←i5];exact DU (Ne.symm h2)
  have hA:0<A:=by rw[←i4];exact da
  have:=eq3 (A:=A) (B:=B) (t:=t) (by omega) (by omega) (by omega) hA hB (by omega)
  exact h.ne (JI (by omega))
def pa (l:List Pt) (i:Nat):Pt:=l.getD i (0,0)
theorem Ba {l:List Pt} {i:Nat} (h:i<l.length):pa l i=l[i]:=by
 unfold pa;rw[List.getD_eq_getElem?_getD,List.getElem?_eq_getElem h];rfl
theorem AJ {l:List Pt} {i:Nat} (h:i<l.length):pa l i∈l:=by rw[Ba h];exact List.getElem_mem h
theorem EV {l:List Pt} {p:Pt} (h:p∈l):∃i,i<l.length∧pa l i=p:=by
 obtain⟨i,hi,e⟩:=List.mem_iff_getElem.1 h
 exact⟨i,hi,by rw[Ba hi,e]⟩
theorem HL {l:List Pt} (h:l.Nodup) {i j:Nat} (hi:i<l.length) (hj:j<l.length) (e:pa l i=pa l j):i=j:=by
 rw[Ba hi,Ba hj] at e
 have:=List.pairwise_iff_getElem.1 h
 rcases Nat.lt_trichotomy i j with h|h|h
 ·exact absurd e (this i j hi hj h)
 ·exact h
 ·exact absurd e.symm (this j i hj hi h)
theorem Es {l m:List Pt} {i:Nat} (h:i<l.length):pa (l++m) i=pa l i:=by
 rw[Ba (by simp;omega),Ba h,List.getElem_append_left h]
theorem GH {l m:List Pt} {i:Nat} (h1:l.length≤i) (h:i<l.length+m.length):pa (l++m) i=pa m (i-l.length):=by
 rw[Ba (by simp;omega),Ba (by omega),List.getElem_append_right h1]
theorem Ge:∀(l:List Pt) (P:List Pt),l.Nodup→(∀p∈l,p∈P)→l.length≤P.length
 |[],_,_,_=>by simp
 |a::l,P,h,hs=>by
  rw[List.nodup_cons] at h
  have ha:=hs a (by simp)
  have:=Ge l (P.erase a) h.2 fun p hp=>(List.mem_erase_of_ne (by rintro rfl;exact h.1 hp)).2 (hs p (by simp[hp]))
  rw[List.length_erase_of_mem ha] at this
  have:=List.length_pos_of_mem ha
  simp;omega
def Conv (l:List Pt):Prop:=∀i k,i<l.length→k<l.length→k≠i→k≠(i+1)%l.length→0<trn (pa l i) (pa l ((i+1)%l.length)) (pa l k)
def Dz (P:List Pt) (f:Pt):Nat→Pt→List Pt→Option (List Pt)
 |0,_,_=>none
 |n+1,o,out=>if sel o P=o∨sel o P=f then some out else Dz P f n (sel o P) (out++[sel o P])
structure HGood (P:List Pt) (f o:Pt) (out:List Pt):Prop where
 len:0<out.length
 hd:pa out 0=f
 lst:pa out (out.length-1)=o
 nd:out.Nodup
 sub:∀p∈out,p∈P
 ext:∀p∈out,Ext P p
 edge:∀i,i+1<out.length→Edge P (pa out i) (pa out (i+1))
structure HullOK (P r:List Pt):Prop where
 nd:r.Nodup
 sub:∀p∈r,p∈P
 len:0<r.length
 conv:3≤r.length→Conv r
theorem KF {P:List Pt} (hb:∀p∈P,Sml p) (f:Pt):∀(n:Nat) (o:Pt) (out:List Pt),HGood P f o out→P.length<n+out.length→∃r,Dz P f n o out=some r∧HullOK P r
 |0,o,out,h,hn=>by
  have:=Ge out P h.nd h.sub
  omega
 |n+1,o,out,h,hn=>by
  have hl:=h.len
  have ho:o∈out:=by rw[←h.lst];exact AJ (by omega)
  rw[Dz]
  rcases Nv (h.sub o ho) (h.ext o ho) with⟨h1,h2⟩|hE
  ·rw[if_pos (.inl h1)]
   refine⟨out,rfl,h.nd,h.sub,hl,fun h3=> ?_⟩
   have e0:=h2 _ (h.sub _ (AJ (l:=out) (i:=0) (by omega)))
   have e1:=h2 _ (h.sub _ (AJ (l:=out) (i:=1) (by omega)))
   have:=HL h.nd (i:=0) (j:=1) (by omega) (by omega) (by rw[e0,e1])
   omega
  ·by_cases hf:sel o P=f
   ·rw[if_pos (.inr hf)]
    refine⟨out,rfl,h.nd,h.sub,hl,fun h3=> ?_⟩
    intro i k hi hk n1 n2
    have hi2:(i+1)%out.length<out.length:=Nat.mod_lt _ hl
    have hE':Edge P (pa out i) (pa out ((i+1)%out.length)):=by
     by_cases hc:i+1<out.length
     ·rw[Nat.mod_eq_of_lt hc];exact h.edge i hc
     ·have e:i+1=out.length:=by omega
      have e2:i=out.length-1:=by omega
      rw[e,Nat.mod_self,h.hd,e2,h.lst,←hf]
      exact hE
    exact Ll hE' (h.sub _ (AJ hk)) (h.ext _ (AJ hk)) (fun e=>n1 (HL h.nd hk hi e)) (fun e=>n2 (HL h.nd hk hi2 e))
   ·have hne:¬(sel o P=o∨sel o P=f):=by
     rintro(e|e)
     ·exact hE.ne e.symm
     ·exact hf e
    rw[if_neg hne]
    have hno:sel o P∉out:=fun hm=>by
     obtain⟨j,hj,e⟩:=EV hm
     have j0:j≠0:=by rintro rfl;exact hf (by rw[←e,h.hd])
     have hEj:=h.edge (j-1) (by omega)
     rw[show j-1+1=j by omega,e] at hEj
     have:=Edge.pred hE hEj
     rw[←h.lst] at this
     have:=HL h.nd (by omega) (by omega) this
     omega
    refine KF hb f n (sel o P) (out++[sel o P]) ⟨by simp,by rw[Es hl,h.hd], ?_, ?_, ?_, ?_, ?_⟩ (by simp;omega)
    ·rw[List.length_append,GH (by simp) (by simp)]
     simp[pa]
    ·rw[List.nodup_append]
     exact⟨h.nd,by simp,fun a ha b hb'=>by simp at hb';rintro rfl;exact hno (hb'▸ha)⟩
    ·intro p hp
     rcases List.mem_append.1 hp with hp|hp
     ·exact h.sub p hp
     ·simp at hp;rw[hp];exact hE.mw
    ·intro p hp
     rcases List.mem_append.1 hp with hp|hp
     ·exact h.ext p hp
     ·simp at hp;rw[hp];exact hE.ext hb
    ·intro i hi
     rw[List.length_append,List.length_singleton] at hi
     by_cases hc:i+1<out.length
     ·rw[Es (by omega),Es hc];exact h.edge i hc
     ·have e2:i=out.length-1:=by omega
      rw[Es (by omega),GH (by omega) (by simp;omega),e2,h.lst]
      rw[show out.length-1+1-out.length=0 by omega]
      exact hE
def BY (f p:Pt):Pt:=if p.2<f.2∨(p.2=f.2∧p.1<f.1) then p else f
def low (a:Pt) (P:List Pt):Pt:=P.foldl BY a
def leL (f p:Pt):Prop:=f.2<p.2∨(f.2=p.2∧f.1≤p.1)
theorem JJ:∀(P:List Pt) (a:Pt),low a P∈a::P∧∀p∈a::P,leL (low a P) p
 |[],a=>⟨by simp[low],fun p hp=>by simp at hp;subst hp;exact .inr ⟨rfl,Int.le_refl _⟩⟩
 |q::P,a=>by
  obtain⟨h1,h2⟩:=JJ P (BY a q)
  have e:low a (q::P)=low (BY a q) P:=rfl
  rw[e]
  have hs:(BY a q=a∨BY a q=q)∧leL (BY a q) a∧leL (BY a q) q:=by
   unfold BY leL
   split<;>refine⟨by simp, ?_, ?_⟩<;>omega
  refine⟨?_,fun p hp=> ?_⟩
  ·rcases List.mem_cons.1 h1 with h|h
   ·rcases hs.1 with k|k<;>rw[h,k]<;>simp
   ·simp[h]
  ·have h0:=h2 (BY a q) (by simp)
   rcases List.mem_cons.1 hp with rfl|hp
   ·have:=hs.2.1
    unfold leL at*;omega
   ·rcases List.mem_cons.1 hp with rfl|hp
    ·have:=hs.2.2
     unfold leL at*;omega
    ·exact h2 p (by simp[hp])
theorem Oz {P:List Pt} {f:Pt} (hb:∀p∈P,Sml p) (hf:f∈P) (h:∀p∈P,leL f p):Ext P f:=by
 refine⟨(1,10000),fun p hp hne=> ?_⟩
 have b1:=hb p hp
 have b2:=hb f hf
 have b3:=h p hp
 have:¬(p.1=f.1∧p.2=f.2):=fun e=>hne (Prod.ext e.1 e.2)
 unfold lin
 unfold Sml at b1 b2
 unfold leL at b3
 simp only
 omega
theorem Nw {P:List Pt} {f:Pt} (hf:f∈P) (hx:Ext P f):HGood P f f [f]:=
 ⟨by simp,rfl,rfl,by simp,by simp[hf],by simp[hx],fun i hi=>by simp at hi⟩
end Go.Proofs.YtdabfcbelkjmgaaGreatDoor.Am
