import Derived.Test.YtciphecegkfaiaaGreatDR
import Derived.Test.YtciphecegkfaiaaGreatA10
import Derived.Shelf.Small.Bits
import Derived.Test.YtciphecegkfaiaaGreatA15
namespace Go.Proofs.YtciphecegkfaiaaGreat.Am
set_option linter.unusedSimpArgs false
set_option linter.unusedVariables false
abbrev Pt:=Int×Int
def trn (a b c:Pt):Int:=(b.1-a.1)*(c.2-a.2)-(b.2-a.2)*(c.1-a.1)
def dst (a b:Pt):Int:=(a.1-b.1)*(a.1-b.1)+(a.2-b.2)*(a.2-b.2)
def CB (v w p:Pt):Int:=(w.1-v.1)*(p.1-v.1)+(w.2-v.2)*(p.2-v.2)
def lin (g v p:Pt):Int:=g.1*(p.1-v.1)+g.2*(p.2-v.2)
def Ext (P:List Pt) (v:Pt):Prop:=∃g:Pt,∀p∈P,p≠v→0<lin g v p
structure Edge (P:List Pt) (v w:Pt):Prop where
 ne:v≠w
 mv:v∈P
 mw:w∈P
 left:∀p∈P,0≤trn v w p
 seg:∀p∈P,trn v w p=0→0≤CB v w p∧0≤CB w v p
theorem KG (x:Int):0≤x*x:=by
 rcases Int.le_total 0 x with h|h
 ·exact Int.mul_nonneg h h
 ·exact Int.mul_nonneg_of_nonpos_of_nonpos h h
theorem sq0 {x:Int} (h:x*x=0):x=0:=by
 rcases Int.mul_eq_zero.1 h with h|h<;>exact h
theorem aP (a b:Pt):0≤dst a b:=by
 unfold dst
 have h1:=KG (a.1-b.1)
 have h2:=KG (a.2-b.2)
 omega
theorem RZ {a b:Pt} (h:dst a b=0):a=b:=by
 unfold dst at h
 have h1:=KG (a.1-b.1)
 have h2:=KG (a.2-b.2)
 have:=sq0 (x:=a.1-b.1) (by omega)
 have:=sq0 (x:=a.2-b.2) (by omega)
 exact Prod.ext (by omega) (by omega)
theorem I8 {a b:Pt} (h:a≠b):0<dst a b:=by
 have:=aP a b
 have:dst a b≠0:=fun e=>h (RZ e)
 omega
theorem KW {x y:Int} (hx: -1000≤x∧x≤1000) (hy: -1000≤y∧y≤1000): -1000000≤x*y∧x*y≤1000000:=by
 have h1:0≤(1000-x)*(1000+y):=Int.mul_nonneg (by omega) (by omega)
 have h2:0≤(1000+x)*(1000-y):=Int.mul_nonneg (by omega) (by omega)
 have h3:0≤(1000+x)*(1000+y):=Int.mul_nonneg (by omega) (by omega)
 have h4:0≤(1000-x)*(1000-y):=Int.mul_nonneg (by omega) (by omega)
 constructor<;>grind
theorem UJ (v w p:Pt):trn v w p*trn v w p+CB w v p*CB w v p=dst v w*dst p w:=by
 unfold trn CB dst;grind
theorem FN (a b c:Pt):trn b c a=trn a b c:=by unfold trn;grind
theorem I9 (a b c:Pt):trn b a c= -trn a b c:=by unfold trn;grind
theorem FI (a b:Pt):trn a b a=0:=by unfold trn;grind
theorem Et (a b:Pt):trn a b b=0:=by unfold trn;grind
theorem Wa (a b:Pt):trn a a b=0:=by unfold trn;grind
def Sml (p:Pt):Prop:=(-400≤p.1∧p.1≤400)∧(-400≤p.2∧p.2≤400)
theorem Edge.ext {P:List Pt} {v w:Pt} (h:Edge P v w) (hb:∀p∈P,Sml p):Ext P w:=by
 refine⟨(10000000*(v.2-w.2)+(v.1-w.1),10000000*(w.1-v.1)+(v.2-w.2)),fun p hp hne=> ?_⟩
 have e:lin (10000000*(v.2-w.2)+(v.1-w.1),10000000*(w.1-v.1)+(v.2-w.2)) w p=10000000*trn v w p+CB w v p:=by
  unfold lin trn CB;grind
 rw[e]
 have hl:=h.left p hp
 rcases Int.lt_or_eq_of_le hl with hlt|heq
 ·have hv:=hb v h.mv
  have hw:=hb w h.mw
  have hp':=hb p hp
  unfold Sml at hv hw hp'
  have b1:=KW (x:=v.1-w.1) (y:=p.1-w.1) (by omega) (by omega)
  have b2:=KW (x:=v.2-w.2) (y:=p.2-w.2) (by omega) (by omega)
  have: -2000000≤CB w v p:=by unfold CB;omega
  omega
 ·have hs:=(h.seg p hp heq.symm).2
  have hz:CB w v p≠0:=fun hz=>by
   have:=UJ v w p
   rw[←heq,hz] at this
   have h0:dst v w*dst p w=0:=by omega
   rcases Int.mul_eq_zero.1 h0 with h0|h0
   ·exact h.ne (RZ h0)
   ·exact hne (RZ h0)
  omega
theorem UK (g o a b c:Pt):lin g o b*trn o a c=lin g o a*trn o b c+lin g o c*trn o a b:=by
 unfold lin trn;grind
theorem M9 {g o a b:Pt} (h:trn o a b=0):lin g o a*CB o a b=lin g o b*dst a o:=by
 have:(lin g o a*CB o a b-lin g o b*dst a o)=trn o a b*(g.1*(a.2-o.2)-g.2*(a.1-o.1)):=by
  unfold lin CB dst trn;grind
 rw[h] at this
 omega
theorem aQ {g o a b:Pt} (h:trn o a b=0):lin g o a*lin g o a*dst b o=lin g o b*lin g o b*dst a o:=by
 have e1:=M9 (g:=g) h
 have e2:lin g o b*CB o b a=lin g o a*dst b o:=M9 (by rw[FN,FN] at*;unfold trn at*;grind)
 have e3:CB o b a=CB o a b:=by unfold CB;grind
 rw[e3] at e2
 grind
def Na (o n p:Pt):Pt:=if p=o then n else if n=o∨trn o n p<0∨(trn o n p=0∧dst o n<dst o p) then p else n
def sel (o:Pt) (P:List Pt):Pt:=P.foldl (Na o) o
def Sel (o:Pt) (Q:List Pt) (n:Pt):Prop:=(n=o∧∀p∈Q,p=o)∨(n∈Q∧n≠o∧∀p∈Q,p=o∨(0≤trn o n p∧(trn o n p=0→dst o p≤dst o n)))
theorem HT {a b:Int} (ha:0<a) (h:0<a*b):0<b:=by
 rcases Int.lt_or_le 0 b with hb|hb
 ·exact hb
 ·have:=Int.mul_nonneg (Int.le_of_lt ha) (show 0≤-b by omega)
  rw[Int.mul_neg] at this;omega
theorem Eu {a b:Int} (ha:0<a) (h:0≤a*b):0≤b:=by
 rcases Int.lt_or_le b 0 with hb|hb
 ·have:=Int.mul_pos ha (show 0< -b by omega)
  rw[Int.mul_neg] at this;omega
 ·exact hb
theorem SU {a b:Int} (ha:0<a) (h:a*b=0):b=0:=by
 rcases Int.mul_eq_zero.1 h with h|h
 ·omega
 ·exact h
theorem Yj {o n p g:Pt} {Q:List Pt} (hg:∀q∈Q++[p],q≠o→0<lin g o q) (h:Sel o Q n):Sel o (Q++[p]) (Na o n p):=by
 unfold Na
 by_cases hp:p=o
 ·rw[if_pos hp]
  rcases h with⟨h1,h2⟩|⟨h1,h2,h3⟩
  ·exact .inl ⟨h1,fun q hq=>by rcases List.mem_append.1 hq with hq|hq;exact h2 q hq;simp at hq;rw[hq,hp]⟩
  ·exact .inr ⟨by simp[h1],h2,fun q hq=>by rcases List.mem_append.1 hq with hq|hq;exact h3 q hq;simp at hq;exact .inl (by rw[hq,hp])⟩
 ·rw[if_neg hp]
  have gp:=hg p (by simp) hp
  rcases h with⟨h1,h2⟩|⟨h1,h2,h3⟩
  ·rw[if_pos (.inl h1)]
   refine .inr ⟨by simp,hp,fun q hq=> ?_⟩
   rcases List.mem_append.1 hq with hq|hq
   ·exact .inl (h2 q hq)
   ·simp at hq;subst hq
    exact .inr ⟨by rw[Et];omega,fun _=>by omega⟩
  ·have gn:=hg n (by simp[h1]) h2
   by_cases hc:n=o∨trn o n p<0∨(trn o n p=0∧dst o n<dst o p)
   ·rw[if_pos hc]
    refine .inr ⟨by simp,hp,fun q hq=> ?_⟩
    rcases List.mem_append.1 hq with hq|hq
    ·by_cases hqo:q=o
     ·exact .inl hqo
     refine .inr ?_
     have gq:=hg q (by simp[hq]) hqo
     rcases h3 q hq with k|⟨k1,k2⟩
     ·exact absurd k hqo
     have pl:=UK g o p n q
     have sw:trn o p n= -trn o n p:=by unfold trn;grind
     rcases hc with hc|hc|⟨hc,hd⟩
     ·exact absurd hc h2
     ·have a1:0<lin g o q*trn o p n:=Int.mul_pos gq (by omega)
      have a2:0≤lin g o p*trn o n q:=Int.mul_nonneg (by omega) k1
      have:=HT gn (b:=trn o p q) (by omega)
      exact⟨by omega,fun e=>by omega⟩
     ·rw[sw,hc] at pl
      have a2:0≤lin g o p*trn o n q:=Int.mul_nonneg (by omega) k1
      refine⟨Eu gn (b:=trn o p q) (by omega),fun e=> ?_⟩
      rw[e] at pl
      have:=SU gp (b:=trn o n q) (by omega)
      have:=k2 this
      omega
    ·simp at hq;subst hq
     exact .inr ⟨by rw[Et];omega,fun _=>by omega⟩
   ·rw[if_neg hc]
    refine .inr ⟨by simp[h1],h2,fun q hq=> ?_⟩
    rcases List.mem_append.1 hq with hq|hq
    ·exact h3 q hq
    ·simp at hq;subst hq
     refine .inr ⟨by omega,fun e=> ?_⟩
     omega
theorem Tr {o g:Pt}:∀(R Q:List Pt) (n:Pt),(∀q∈Q++R,q≠o→0<lin g o q)→Sel o Q n→Sel o (Q++R) (R.foldl (Na o) n)
 |[],Q,n,_,h=>by simpa using h
 |p::R,Q,n,hg,h=>by
  have e:Q++p::R=(Q++[p])++R:=by simp
  rw[e] at hg⊢
  exact Tr R (Q++[p]) _ hg (Yj (fun q hq=>hg q (by simp at hq⊢;rcases hq with h|h<;>simp[h])) h)
theorem R0 {P:List Pt} {o:Pt} (ho:o∈P) (h:Ext P o):(sel o P=o∧∀p∈P,p=o)∨Edge P o (sel o P):=by
 obtain⟨g,hg⟩:=h
 have hs:Sel o P (sel o P):=by
  have:=Tr P [] o (by simpa using hg) (.inl ⟨rfl,by simp⟩)
  rw[List.nil_append] at this;exact this
 rcases hs with hs|⟨h1,h2,h3⟩
 ·exact .inl hs
 ·refine .inr ⟨fun e=>h2 e.symm,ho,h1,fun p hp=> ?_,fun p hp e=> ?_⟩
  ·rcases h3 p hp with rfl|⟨k,_⟩
   ·rw[FI];omega
   ·exact k
  ·have dn:0<dst (sel o P) o:=I8 h2
   have e2:CB (sel o P) o p=dst (sel o P) o-CB o (sel o P) p:=by unfold CB dst;grind
   by_cases hp':p=o
   ·subst hp'
    have:CB p (sel p P) p=0:=by unfold CB;grind
    omega
   have gp:=hg p hp hp'
   have gn:=hg _ h1 h2
   have hd:dst o p≤dst o (sel o P):=by
    rcases h3 p hp with k|⟨_,k⟩
    ·exact absurd k hp'
    ·exact k e
   have s1:dst o p=dst p o:=by unfold dst;grind
   have s2:dst o (sel o P)=dst (sel o P) o:=by unfold dst;grind
   have c1:=M9 (g:=g) e
   have c2:=aQ (g:=g) e
   have q1:=Int.mul_pos gp dn
   have d0:=HT gn (b:=CB o (sel o P) p) (by omega)
   refine⟨by omega, ?_⟩
   rw[e2]
   generalize lin g o p=x at*
   generalize lin g o (sel o P)=y at*
   generalize dst (sel o P) o=D at*
   generalize dst p o=E at*
   generalize CB o (sel o P) p=t at*
   have hxy:x≤y:=by
    rcases Int.lt_or_le y x with hlt|hle
    ·have a1:y*y<x*x:=by
      have:=Int.mul_lt_mul_of_pos_left hlt gn
      have:=Int.mul_lt_mul_of_pos_right hlt gp
      omega
     have a2:=Int.mul_lt_mul_of_pos_right a1 dn
     have a3:y*y*E≤y*y*D:=Int.mul_le_mul_of_nonneg_left (by omega) (KG y)
     omega
    ·exact hle
   have a4:x*D≤y*D:=Int.mul_le_mul_of_nonneg_right hxy (by omega)
   have a5:0≤y*(D-t):=by rw[Int.mul_sub];omega
   exact Eu gn a5
theorem eq3 {A B t:Int} (ht:0≤t) (h1:t≤A) (h2:t≤B) (pa:0<A) (pb:0<B) (la:t*t=A*B):A=t∧B=t:=by
 have k1:t*t≤t*B:=Int.mul_le_mul_of_nonneg_left (by omega) (by omega)
 have k2:t*t≤A*t:=Int.mul_le_mul_of_nonneg_right (by omega) (by omega)
 have k3:0≤B*(t-A):=by rw[Int.mul_sub,Int.mul_comm B A,Int.mul_comm B t];omega
 have k4:0≤A*(t-B):=by rw[Int.mul_sub];omega
 have k5:=Eu pb k3
 have k6:=Eu pa k4
 omega
theorem Edge.pred {P:List Pt} {a b w:Pt} (h1:Edge P a w) (h2:Edge P b w):a=b:=by
 have l1:=h1.left b h2.mv
 have l2:=h2.left a h1.mv
 have e1:trn b w a= -trn a w b:=by unfold trn;grind
 have z1:trn a w b=0:=by omega
 have z2:trn b w a=0:=by omega
 have s1:=h1.seg b h2.mv z1
 have s2:=h2.seg a h1.mv z2
 have la:=UJ a w b
 have pa:=I8 h1.ne
 have pb:=I8 h2.ne
 have i1:CB a w b=dst a w-CB w a b:=by unfold CB dst;grind
 have i2:CB b w a=dst b w-CB w a b:=by unfold CB dst;grind
 have i3:dst a b=dst a w+dst b w-2*CB w a b:=by unfold CB dst;grind
 rw[z1] at la
 generalize dst a w=A at*
 generalize dst b w=B at*
 generalize CB w a b=t at*
 have:=eq3 (A:=A) (B:=B) (t:=t) (by omega) (by omega) (by omega) pa pb (by omega)
 exact RZ (by omega)
def pa (l:List Pt) (i:Nat):Pt:=l.getD i (0,0)
theorem C9 {l:List Pt} {i:Nat} (h:i<l.length):pa l i=l[i]:=by
 unfold pa;rw[List.getD_eq_getElem?_getD,List.getElem?_eq_getElem h];rfl
theorem AA {l:List Pt} {i:Nat} (h:i<l.length):pa l i∈l:=by rw[C9 h];exact List.getElem_mem h
theorem GA {l:List Pt} {p:Pt} (h:p∈l):∃i,i<l.length∧pa l i=p:=by
 obtain⟨i,hi,e⟩:=List.mem_iff_getElem.1 h
 exact⟨i,hi,by rw[C9 hi,e]⟩
theorem MB {l:List Pt} (h:l.Nodup) {i j:Nat} (hi:i<l.length) (hj:j<l.length) (e:pa l i=pa l j):i=j:=by
 rw[C9 hi,C9 hj] at e
 have:=List.pairwise_iff_getElem.1 h
 rcases Nat.lt_trichotomy i j with h|h|h
 ·exact absurd e (this i j hi hj h)
 ·exact h
 ·exact absurd e.symm (this j i hj hi h)
theorem HU {l m:List Pt} {i:Nat} (h:i<l.length):pa (l++m) i=pa l i:=by
 rw[C9 (by simp;omega),C9 h,List.getElem_append_left h]
theorem K6 {l m:List Pt} {i:Nat} (h1:l.length≤i) (h:i<l.length+m.length):pa (l++m) i=pa m (i-l.length):=by
 rw[C9 (by simp;omega),C9 (by omega),List.getElem_append_right h1]
theorem Jv:∀(l:List Pt) (P:List Pt),l.Nodup→(∀p∈l,p∈P)→l.length≤P.length
 |[],_,_,_=>by simp
 |a::l,P,h,hs=>by
  rw[List.nodup_cons] at h
  have ha:=hs a (by simp)
  have:=Jv l (P.erase a) h.2 fun p hp=>(List.mem_erase_of_ne (by rintro rfl;exact h.1 hp)).2 (hs p (by simp[hp]))
  rw[List.length_erase_of_mem ha] at this
  have:=List.length_pos_of_mem ha
  simp;omega
def Conv (l:List Pt):Prop:=∀i k,i<l.length→k<l.length→k≠i→k≠(i+1)%l.length→0<trn (pa l i) (pa l ((i+1)%l.length)) (pa l k)
structure HGood (P:List Pt) (f o:Pt) (out:List Pt):Prop where
 len:0<out.length
 hd:pa out 0=f
 lst:pa out (out.length-1)=o
 nd:out.Nodup
 sub:∀p∈out,p∈P
 ext:∀p∈out,Ext P p
 edge:∀i,i+1<out.length→Edge P (pa out i) (pa out (i+1))
structure HullOK (P r:List Pt):Prop where
 nd:r.Nodup
 sub:∀p∈r,p∈P
 len:0<r.length
 conv:3≤r.length→Conv r
def HV (f p:Pt):Pt:=if p.2<f.2∨(p.2=f.2∧p.1<f.1) then p else f
def low (a:Pt) (P:List Pt):Pt:=P.foldl HV a
def leL (f p:Pt):Prop:=f.2<p.2∨(f.2=p.2∧f.1≤p.1)
theorem R1:∀(P:List Pt) (a:Pt),low a P∈a::P∧∀p∈a::P,leL (low a P) p
 |[],a=>⟨by simp[low],fun p hp=>by simp at hp;subst hp;exact .inr ⟨rfl,Int.le_refl _⟩⟩
 |q::P,a=>by
  obtain⟨h1,h2⟩:=R1 P (HV a q)
  have e:low a (q::P)=low (HV a q) P:=rfl
  rw[e]
  have hs:(HV a q=a∨HV a q=q)∧leL (HV a q) a∧leL (HV a q) q:=by
   unfold HV leL
   split<;>refine⟨by simp, ?_, ?_⟩<;>omega
  refine⟨?_,fun p hp=> ?_⟩
  ·rcases List.mem_cons.1 h1 with h|h
   ·rcases hs.1 with k|k<;>rw[h,k]<;>simp
   ·simp[h]
  ·have h0:=h2 (HV a q) (by simp)
   rcases List.mem_cons.1 hp with rfl|hp
   ·have:=hs.2.1
    unfold leL at*;omega
   ·rcases List.mem_cons.1 hp with rfl|hp
    ·have:=hs.2.2
     unfold leL at*;omega
    ·exact h2 p (by simp[hp])
theorem aS {P:List Pt} {f:Pt} (hb:∀p∈P,Sml p) (hf:f∈P) (h:∀p∈P,leL f p):Ext P f:=by
 refine⟨(1,10000),fun p hp hne=> ?_⟩
 have b1:=hb p hp
 have b2:=hb f hf
 have b3:=h p hp
 have:¬(p.1=f.1∧p.2=f.2):=fun e=>hne (Prod.ext e.1 e.2)
 unfold lin
 unfold Sml at b1 b2
 unfold leL at b3
 simp only
 omega
theorem Yk {P:List Pt} {f:Pt} (hf:f∈P) (hx:Ext P f):HGood P f f [f]:=
 ⟨by simp,rfl,rfl,by simp,by simp[hf],by simp[hx],fun i hi=>by simp at hi⟩
end Go.Proofs.YtciphecegkfaiaaGreat.Am
namespace Go.Proofs.YtciphecegkfaiaaGreat.Am
open Go
attribute [local irreducible] awp B5 BR Bx B3 Bw Bn BS B1 itK
set_option maxRecDepth 100000
set_option maxHeartbeats 8000000
set_option linter.unusedSimpArgs false
set_option linter.unusedVariables false
def e_i (x:Int):List AV:=[.i x]
def d_i:List AV→Int
 |[.v (.int _ a1)]=>a1
 |_=>0
theorem oJ (x:Int):d_i (e_i x)=x:=by rfl
theorem fY (R:List Int):(R.map e_i).map d_i=R:=by
 induction R with
 |nil=>rfl
 |cons r R ih=>rw[List.map_cons,List.map_cons,ih,oJ]
theorem oK (R:List Int) (i:Nat):BJ (R.map e_i) [.i 0] i=e_i (R.getD i 0):=by
 unfold BJ;rw[List.getD_eq_getElem?_getD,List.getD_eq_getElem?_getD,List.getElem?_map];cases R[i]? <;>rfl
def R_i:Rw Int:=⟨1,e_i,d_i,[.i 0]⟩
def L_i (l:List Int):AV:= .sl 1 false (l.map e_i) [.i 0]
def A_i (l:List Int):AV:= .sl 1 true (l.map e_i) [.i 0]
attribute [go_sem] R_i L_i A_i e_i d_i fY oK
def Dk (N:Nat) (af:Int) (ae:Int) (ak:Int) (aj:Int) (ai:Int) (ah:Int):Option Int:=
 gd (I64 (ak-af))<|
 gd (I64 (ah-ae))<|
 gd (I64 ((ak-af)*(ah-ae)))<|
 gd (I64 (aj-ae))<|
 gd (I64 (ai-af))<|
 gd (I64 ((aj-ae)*(ai-af)))<|
 gd (I64 (((ak-af)*(ah-ae))-((aj-ae)*(ai-af))))<|
 some (((ak-af)*(ah-ae))-((aj-ae)*(ai-af)))
@[go_sem] def oL (N:Nat):Spec:=p0<|pG<|pI fun af=>pI fun ae=>pE<|pG<|pI fun ak=>pI fun aj=>pE<|pG<|pI fun ai=>pI fun ah=>pE<|pE<|pF (Dk N af ae ak aj ai ah) 0 fun r=> .i r
theorem Mz (N:Nat):FOK Tryz.prog 123 (oL N):=by
 refine Al x123.ok<|AW<|Ac fun af=>Ac fun ae=>Ah<|AW<|Ac fun ak=>Ac fun aj=>Ah<|AW<|Ac fun ai=>Ac fun ah=>Ah<|Ah<|An fun r h=>wx x123 (Aj) fun _ hS F=> ?_
 dsimp only[x123,mkX]
 unfold Dk at h
 obtain⟨cz,cy,bz,cu,cr,cq,co,h⟩:=un h
 exact Ad hS F h
def Fw (N:Nat) (au:Int) (aq:Int):Option Bool:=
 some ((decide (min au aq<0))||(decide (40<max au aq)))
@[go_sem] def s99 (N:Nat):Spec:=p0<|pG<|pI fun au=>pI fun aq=>pE<|pE<|pF (Fw N au aq) false fun r=> .b r
theorem YY (N:Nat):FOK Tryz.prog 99 (s99 N):=by
 refine Al x99.ok<|AW<|Ac fun au=>Ac fun aq=>Ah<|Ah<|An fun r h=>wx x99 (Aj) fun _ hS F=> ?_
 dsimp only[x99,mkX]
 unfold Fw at h
 exact Ad hS F h
def Gc (N:Nat) (x67:Int):Option Bool:=
 some (decide (x67≠x67))
@[go_sem] def oM (N:Nat):Spec:=p0<|pI fun x67=>pE<|pF (Gc N x67) false fun r=> .b r
theorem fZ (N:Nat):FOK Tryz.prog 128 (oM N):=by
 refine Al x128.ok<|Ac fun x67=>Ah<|An fun r h=>wx x128 (Aj) fun _ hS F=> ?_
 dsimp only[x128,mkX]
 unfold Gc at h
 exact Ad hS F h
def CU (N:Nat) (x68:Int) (am:Int):Option Int:=
 (Gc N x68).bind fun bu=>
 (Gc N am).bind fun bb=>
 bif bu then(
  bif bb then(
   some 0)
  else(
   some (-1)))
 else(
  bif bb then(
   some 1)
  else(
   bif decide (x68<am) then(
    some (-1))
   else(
    bif decide (am<x68) then(
     some 1)
    else(
     some 0))))
@[go_sem] def s87 (N:Nat):Spec:=p0<|pI fun x68=>pI fun am=>pE<|pF (CU N x68 am) 0 fun r=> .i r
theorem QR (N:Nat):FOK Tryz.prog 87 (s87 N):=by
 refine Al x87.ok<|Ac fun x68=>Ac fun am=>Ah<|An fun r h=>wx x87 (Aa (fZ N)<|Aj) fun _ hS F=> ?_
 dsimp only[x87,mkX]
 unfold CU at h
 obtain⟨bu,bm,bb,bj,h⟩:=un h
 replace F:=fc bj (fc bm F)
 refine gcb hS F h (fun _ h=> ?_) (fun _ h=> ?_)
 ·refine gcb hS F h (fun _ h=> ?_) (fun _ h=> ?_)
  ·exact Ad hS F h
  ·exact Ad hS F h
 ·refine gcb hS F h (fun _ h=> ?_) (fun _ h=> ?_)
  ·exact Ad hS F h
  ·refine gcb hS F h (fun _ h=> ?_) (fun _ h=> ?_)
   ·exact Ad hS F h
   ·refine gcb hS F h (fun _ h=> ?_) (fun _ h=> ?_)
    ·exact Ad hS F h
    ·exact Ad hS F h
def EI (N:Nat) (vals74:List Int):Nat→Int→Option (Sum Unit Int)
 |0,_=>none
 |n+1,an=>
  bif decide (an<(vals74.length:Int)) then(
   (nth vals74 an).bind fun x80=>
   bif decide (x80≠0) then(
    some (.inr x80))
   else(
    gd (I64 (an+1))<|
    EI N vals74 n (an+1)))
  else(
   some (.inl ()))
def IR (N:Nat) (vals74:List Int):Option Int:=
 (EI N vals74 N 0).bind fun be=>match be with
  | .inl ()=>(
   some 0)
  | .inr bw=>(
   some bw)
@[go_sem] def oN (N:Nat):Spec:=p0<|pS R_i fun vals74=>pE<|pF (IR N vals74) 0 fun r=> .i r
theorem gA (N:Nat):FOK Tryz.prog 127 (oN N):=by
 refine Al x127.ok<|A3 fun vals74=>Ah<|An fun r h=>wx x127 (Aj) fun _ hS F=> ?_
 dsimp only[x127,mkX,R_i]
 unfold IR at h
 obtain⟨be,ce,h⟩:=un h
 refine go hS F ?_
 refine Au be (fun z:Nat=>⟨[(3,.i 0)],[],z⟩) (fun z=>(.inl ():Sum Unit Int)) (.x 0) ?_ ?_
 ·refine Aq (fun n (y:Int×Nat)=>EI N vals74 n y.1) (fun y=>⟨[(3,.i 0),(6,L_i vals74),(7,.i (vals74.length:Int)),(8,.i y.1)],[],y.2⟩) (0,3) ce (leF F) ?_
  rintro n ⟨an,bv⟩ aa
  simp only[EI] at aa
  refine gcb hS F aa (fun _ aa=> ?_) (fun _ aa=> ?_)
  ·obtain⟨x80,bo,aa⟩:=un aa
   obtain⟨b9,F⟩:=rqG e_i bo F
   refine gcb hS F aa (fun _ aa=> ?_) (fun _ aa=> ?_)
   ·obtain rfl:=yJ aa
    exact Ad hS F h
   ·obtain⟨bz,aa⟩:=un aa
    exact gbk hS F (n,an+1,bv+1+1+1+1) aa
  ·exact gck hS F (bv+1) aa
 ·rintro db rfl
  exact Ad hS F h
def CW (N:Nat) (az:Int) (ay:Int) (aw:Int) (av:Int):Option Int:=
 (CU N az aw).bind fun br=>
 (CU N ay av).bind fun bq=>
 (IR N [br,bq]).bind fun bp=>
 some bp
@[go_sem] def oO (N:Nat):Spec:=p0<|pG<|pI fun az=>pI fun ay=>pE<|pG<|pI fun aw=>pI fun av=>pE<|pE<|pF (CW N az ay aw av) 0 fun r=> .i r
theorem OR (N:Nat):FOK Tryz.prog 132 (oO N):=by
 refine Al x132.ok<|AW<|Ac fun az=>Ac fun ay=>Ah<|AW<|Ac fun aw=>Ac fun av=>Ah<|Ah<|An fun r h=>wx x132 (Aa (QR N)<|Aa (gA N)<|Aj) fun _ hS F=> ?_
 dsimp only[x132,mkX]
 unfold CW at h
 obtain⟨br,bi,bq,bh,bp,bg,h⟩:=un h
 exact Ad hS (fc bg (fc bh (fc bi F))) h
end Go.Proofs.YtciphecegkfaiaaGreat.Am
namespace Go.Proofs.YtciphecegkfaiaaGreat.Am
open Go
attribute [local irreducible] awp B5 BR Bx B3 Bw Bn BS B1 itK
set_option maxRecDepth 100000
set_option maxHeartbeats 8000000
set_option linter.unusedSimpArgs false
set_option linter.unusedVariables false
def Bm (l:List Pt):List (Pt×Pt):=(List.range l.length).map fun i=>(pa l i,pa l ((i+1)%l.length))
def edA (e:Pt×Pt):List AV:=[.agg [.i e.1.1,.i e.1.2],.agg [.i e.2.1,.i e.2.2]]
theorem U3 {l:List Pt} {i:Nat} (h:i<l.length):(Bm l)[i]? =some (pa l i,pa l ((i+1)%l.length)):=by
 unfold Bm;rw[List.getElem?_map,List.getElem?_range h];rfl
theorem IZ (l:List Pt):(Bm l).length=l.length:=by unfold Bm;simp
theorem Kl (l:List Pt) (f:Bool) (hlen:l.length≤1000000000):ItC Tryz.prog 150 [] [.ro [.sl 2 f (l.map Br) [.i 0,.i 0]] 0] ((Bm l).map edA):=by
 refine S1 (Aj (P:=Tryz.prog)) _ x150.hf x150.hc x150.hn (by simp[x150,mkX,gs]) (Nat.le_of_ble_eq_true rfl) fun y Γ hOK hTS hY hYD=> ?_
 have hS:=Aj (P:=Tryz.prog)
 dsimp only[x150,mkX,CZ]
 repeat' (first
  |((with_reducible first|apply AN|apply Bg|apply Bb|apply By|apply AO|apply AP);(·(first|exact Ctx.fn_ok hS|exact Ctx.rd_ok hS|assumption|exact yT));iterate 2 (·(simp only[go_sem,seval,hTS]<;>eq_refl)))
  |(with_reducible first|apply AI|apply A5|apply AF|apply AH|apply Ar|apply Ao|apply Ay|apply AZ|apply A6|apply A7|apply A8|apply A9|apply A4)
  |(with_reducible apply Ba;(·first|rfl|decide))
  |(with_reducible first|apply AJ|apply AM|apply Bd|apply Be|apply Bf|apply yT|apply And.intro yT yT)
  |(fail_if_success with_reducible apply B6);(fail_if_success with_reducible apply Bc);first|omega|(simp only[go_sem,seval,hTS];done)
  |fail)
 refine G4 (fun x:Nat×Nat=>⟨[(7,.i x.1),(6,.i l.length),(5,.sl 2 f (l.map Br) [.i 0,.i 0]),(1,.ro [.sl 2 f (l.map Br) [.i 0,.i 0]] 0),(gs,Ck x.1),(0,.clo (.yield y) [] [])],[],x.2⟩)
  (fun x=>x.1≤l.length) (fun x=>l.length-x.1) (0,50) ?_ ?_ ?_
 ·simp
 ·refine Le.of ?_ ?_ (by simp)<;>(simp only[go_sem,seval];try simp)
 ·rintro⟨i,c⟩ hi
  simp only at hi
  repeat' (first
  |((with_reducible first|apply AN|apply Bg|apply Bb|apply By|apply AO|apply AP);(·(first|exact Ctx.fn_ok hS|exact Ctx.rd_ok hS|assumption|exact yT));iterate 2 (·(simp only[go_sem,seval,hTS]<;>eq_refl)))
  |(with_reducible first|apply AI|apply A5|apply AF|apply AH|apply Ar|apply Ao|apply Ay|apply AZ|apply A6|apply A7|apply A8|apply A9|apply A4)
  |(with_reducible apply Ba;(·first|rfl|decide))
  |(with_reducible first|apply AJ|apply AM|apply Bd|apply Be|apply Bf|apply yT|apply And.intro yT yT)
  |(fail_if_success with_reducible apply B6);(fail_if_success with_reducible apply Bc);first|omega|(simp only[go_sem,seval,hTS];done)
  |fail)
  refine RN ((i:Int)<l.length) (by simp only[go_sem,seval]<;>eq_refl) (by first|simp only[Bool.decide_or,Bool.decide_and,decide_not]|simp) (fun hi1=> ?_) (fun hi1=> ?_)
  ·have hi':i<l.length:=by omega
   have hm:(i+1)%l.length<l.length:=Nat.mod_lt _ (by omega)
   have hrow:BJ (l.map Br) [.i 0,.i 0] i=[.i (pa l i).1,.i (pa l i).2]:=LR l i
   have hrow2:BJ (l.map Br) [.i 0,.i 0] ((i+1)%l.length)=[.i (pa l ((i+1)%l.length)).1,.i (pa l ((i+1)%l.length)).2]:=LR l _
   have hmod:((i:Int)+1).tmod (l.length:Int)=(((i+1)%l.length:Nat):Int):=by
    rw[Int.tmod_eq_emod_of_nonneg (by omega)];rfl
   have hton:((((i+1)%l.length:Nat)):Int).toNat=(i+1)%l.length:=Int.toNat_natCast _
   repeat' (first
  |((with_reducible first|apply AN|apply Bg|apply Bb|apply By|apply AO|apply AP);(·(first|exact Ctx.fn_ok hS|exact Ctx.rd_ok hS|assumption|exact yT));iterate 2 (·(simp only[go_sem,seval,hrow,hTS]<;>eq_refl)))
  |(with_reducible first|apply AI|apply A5|apply AF|apply AH|apply Ar|apply Ao|apply Ay|apply AZ|apply A6|apply A7|apply A8|apply A9|apply A4)
  |(with_reducible apply Ba;(·first|rfl|decide))
  |(with_reducible first|apply AJ|apply AM|apply Bd|apply Be|apply Bf|apply yT|apply And.intro yT yT)
  |(fail_if_success with_reducible apply B6);(fail_if_success with_reducible apply Bc);first|omega|(simp only[go_sem,seval,hrow,hTS];done)
  |fail)
   refine hYD 10 (args:=edA (pa l i,pa l ((i+1)%l.length))) rfl (by simp only[go_sem,seval,hTS]<;>eq_refl) (by simp only[go_sem,seval,hTS,hrow,hrow2,hmod,hton]<;>eq_refl) (by decide) ?_ (by simp only[go_sem,seval]<;>eq_refl) (by simp only[go_sem,seval]<;>eq_refl) (by simp only[go_sem,seval]<;>eq_refl) (by simp only[go_sem,seval,Am.edA]<;>eq_refl) ?_ (by simp only[go_sem,seval,hTS]<;>eq_refl) ?_ ?_ (by simp only[go_sem,seval,hTS]<;>eq_refl) ?_ ?_
   ·exact⟨⟨by omega,by omega⟩,by omega,by omega,by omega⟩
   ·rw[List.getElem?_map,U3 hi'];rfl
   ·exact yT
   ·repeat' (first
  |((with_reducible first|apply AN|apply Bg|apply Bb|apply By|apply AO|apply AP);(·(first|exact Ctx.fn_ok hS|exact Ctx.rd_ok hS|assumption|exact yT));iterate 2 (·(simp only[go_sem,seval,hTS]<;>eq_refl)))
  |(with_reducible first|apply AI|apply A5|apply AF|apply AH|apply Ar|apply Ao|apply Ay|apply AZ|apply A6|apply A7|apply A8|apply A9|apply A4)
  |(with_reducible apply Ba;(·first|rfl|decide))
  |(with_reducible first|apply AJ|apply AM|apply Bd|apply Be|apply Bf|apply yT|apply And.intro yT yT)
  |(fail_if_success with_reducible apply B6);(fail_if_success with_reducible apply Bc);first|omega|(simp only[go_sem,seval,hTS];done)
  |fail)
    refine K4 (by simp only[go_sem,seval]<;>eq_refl) ?_
    repeat' (first
  |((with_reducible first|apply AN|apply Bg|apply Bb|apply By|apply AO|apply AP);(·(first|exact Ctx.fn_ok hS|exact Ctx.rd_ok hS|assumption|exact yT));iterate 2 (·(simp only[go_sem,seval,hTS]<;>eq_refl)))
  |(with_reducible first|apply AI|apply A5|apply AF|apply AH|apply Ar|apply Ao|apply Ay|apply AZ|apply A6|apply A7|apply A8|apply A9|apply A4)
  |(with_reducible apply Ba;(·first|rfl|decide))
  |(with_reducible first|apply AJ|apply AM|apply Bd|apply Be|apply Bf|apply yT|apply And.intro yT yT)
  |(fail_if_success with_reducible apply B6);(fail_if_success with_reducible apply Bc);first|omega|(simp only[go_sem,seval,hTS];done)
  |fail)
    refine GG (i+1,c+50) (by show i+1≤_;omega) (by show l.length-(i+1)<l.length-i;omega) (Le.of ?_ ?_ ?_)
    ·simp only[go_sem,seval]<;>simp
    ·simp only[go_sem,seval]
    ·simp
   ·exact yT
   ·repeat' (first
  |((with_reducible first|apply AN|apply Bg|apply Bb|apply By|apply AO|apply AP);(·(first|exact Ctx.fn_ok hS|exact Ctx.rd_ok hS|assumption|exact yT));iterate 2 (·(simp only[go_sem,seval,hTS]<;>eq_refl)))
  |(with_reducible first|apply AI|apply A5|apply AF|apply AH|apply Ar|apply Ao|apply Ay|apply AZ|apply A6|apply A7|apply A8|apply A9|apply A4)
  |(with_reducible apply Ba;(·first|rfl|decide))
  |(with_reducible first|apply AJ|apply AM|apply Bd|apply Be|apply Bf|apply yT|apply And.intro yT yT)
  |(fail_if_success with_reducible apply B6);(fail_if_success with_reducible apply Bc);first|omega|(simp only[go_sem,seval,hTS];done)
  |fail)
    refine Jq (by simp only[go_sem,seval]<;>eq_refl) ?_
    repeat' (first
  |((with_reducible first|apply AN|apply Bg|apply Bb|apply By|apply AO|apply AP);(·(first|exact Ctx.fn_ok hS|exact Ctx.rd_ok hS|assumption|exact yT));iterate 2 (·(simp only[go_sem,seval,hTS]<;>eq_refl)))
  |(with_reducible first|apply AI|apply A5|apply AF|apply AH|apply Ar|apply Ao|apply Ay|apply AZ|apply A6|apply A7|apply A8|apply A9|apply A4)
  |(with_reducible apply Ba;(·first|rfl|decide))
  |(with_reducible first|apply AJ|apply AM|apply Bd|apply Be|apply Bf|apply yT|apply And.intro yT yT)
  |(fail_if_success with_reducible apply B6);(fail_if_success with_reducible apply Bc);first|omega|(simp only[go_sem,seval,hTS];done)
  |fail)
    refine OM ?_
    simp only[go_sem,seval]
  ·repeat' (first
  |((with_reducible first|apply AN|apply Bg|apply Bb|apply By|apply AO|apply AP);(·(first|exact Ctx.fn_ok hS|exact Ctx.rd_ok hS|assumption|exact yT));iterate 2 (·(simp only[go_sem,seval,hTS]<;>eq_refl)))
  |(with_reducible first|apply AI|apply A5|apply AF|apply AH|apply Ar|apply Ao|apply Ay|apply AZ|apply A6|apply A7|apply A8|apply A9|apply A4)
  |(with_reducible apply Ba;(·first|rfl|decide))
  |(with_reducible first|apply AJ|apply AM|apply Bd|apply Be|apply Bf|apply yT|apply And.intro yT yT)
  |(fail_if_success with_reducible apply B6);(fail_if_success with_reducible apply Bc);first|omega|(simp only[go_sem,seval,hTS];done)
  |fail)
   refine YX ?_
   have:i=l.length:=by omega
   simp only[go_sem,seval,this,List.length_map,IZ]
def MP:Spec
 |[.sl z f rows d]=>some (True,.clo (.func 150) [] [.ro [.sl z f rows d] 0])
 |_=>none
theorem KM:FOK Tryz.prog 122 MP:=⟨x122.ok,by
 intro args vc r h hv
 unfold MP at h
 split at h
 ·cases h
  refine LD (Aj (P:=Tryz.prog)) _ x122.hf x122.hc x122.hn (Nat.le_of_ble_eq_true rfl) fun _=> ?_
  have hS:=Aj (P:=Tryz.prog)
  dsimp only[x122,mkX,CZ]
  repeat' (first
  |((with_reducible first|apply AN|apply Bg|apply Bb|apply By|apply AO|apply AP);(·(first|exact Ctx.fn_ok hS|exact Ctx.rd_ok hS|assumption|exact yT));iterate 2 (·(simp only[go_sem,seval]<;>eq_refl)))
  |(with_reducible first|apply AI|apply A5|apply AF|apply AH|apply Ar|apply Ao|apply Ay|apply AZ|apply A6|apply A7|apply A8|apply A9|apply A4)
  |(with_reducible apply Ba;(·first|rfl|decide))
  |(with_reducible first|apply AJ|apply AM|apply Bd|apply Be|apply Bf|apply yT|apply And.intro yT yT)
  |(fail_if_success with_reducible apply B6);(fail_if_success with_reducible apply Bc);first|omega|(simp only[go_sem,seval];done)
  |fail)
  first|refine J9 (by simp only[go_sem,seval]<;>eq_refl) (by simp only[go_sem,seval]) (by simp only[go_sem,seval]) ?_ rfl|refine Ka (by simp only[go_sem,seval]<;>eq_refl) (by simp only[go_sem,seval]) (by simp only[go_sem,seval]) ?_ rfl
  simp only[go_sem,seval]
 ·simp at h⟩
theorem Iv {α:Type} {xs:List α} {g:α→List AV} {k:Nat} {args:List AV} (h:(xs.map g)[k]? =some args):∃y,xs.drop k=y::xs.drop (k+1)∧args=g y∧k<xs.length:=by
 rw[List.getElem?_map] at h
 cases hk:xs[k]? with
 |none=>rw[hk] at h;cases h
 |some y=>
  rw[hk] at h
  obtain⟨h1,h2⟩:=List.getElem?_eq_some_iff.1 hk
  exact⟨y,by rw[List.drop_eq_getElem_cons h1,h2],(yJ h).symm,h1⟩
theorem Io {α:Type} {xs:List α} {g:α→List AV}:xs.drop (xs.map g).length=[]:=by rw[List.length_map];exact List.drop_length
end Go.Proofs.YtciphecegkfaiaaGreat.Am
namespace Go.Proofs.YtciphecegkfaiaaGreat.Am
open Go
set_option linter.unusedVariables false
def Pd:Shelf.Ren where
 f:=fun|125=>130|128=>160|129=>161|n=>n
 t:=fun|46=>139|3=>3|51=>193|53=>137|4=>4|5=>5|9=>9|n=>n
 g:=id
theorem cH:Lays.n125 Tryz.prog Pd:=
 {mixed:=Eq.refl true,f125:=Eq.trans Tryz.func130 (congrArg some (Eq.refl (Body.n125 Pd))),f128:=Eq.trans Tryz.func160 (congrArg some (Eq.refl (Body.n128 Pd))),f129:=Eq.trans Tryz.func161 (congrArg some (Eq.refl (Body.n129 Pd))),
  t3:=Tryz.underlying3,a3:=Tryz.isAgg3,z3:=Tryz.sizeOf3,v3:=Tryz.zeroValue3,t4:=Tryz.underlying4,a4:=Tryz.isAgg4,z4:=Tryz.sizeOf4,v4:=Tryz.zeroValue4,t5:=Tryz.underlying5,a5:=Tryz.isAgg5,z5:=Tryz.sizeOf5,v5:=Tryz.zeroValue5,
  t9:=Tryz.underlying9,a9:=Tryz.isAgg9,z9:=Tryz.sizeOf9,v9:=Tryz.zeroValue9,t46:=Tryz.underlying139,a46:=Tryz.isAgg139,z46:=Tryz.sizeOf139,v46:=Tryz.zeroValue139,
  t51:=Tryz.underlying193,a51:=Tryz.isAgg193,z51:=Tryz.sizeOf193,v51:=Tryz.zeroValue193,t53:=Tryz.underlying137,a53:=Tryz.isAgg137,z53:=Tryz.sizeOf137,v53:=Tryz.zeroValue137}
def U4:Spec
 |[.v (.int .u64 n)]=>some (0≤n∧n≤1000000,.i (Lib.bitLen n.toNat))
 |_=>none
theorem YG:FOK Tryz.prog 130 U4:=⟨⟨Tryz.f130,Tryz.func130,by kernel_rfl,by kernel_rfl⟩,by
 intro args vc r h hv
 unfold U4 at h
 split at h
 ·cases h
  intro σ vs hG hM hp hr
  simp only[RepL,Rep] at hr
  obtain⟨y,ys,rfl,rfl,rfl⟩:=hr
  refine(Any.bits_Len cH _ σ.w hv.1 (by omega)).mono ?_
  rintro e w' ⟨rfl,rfl⟩
  exact⟨_,rfl,fun b o h=>h,SameO.refl _,rfl,rfl⟩
 ·simp at h⟩
theorem Zr {σ σ':Cf} {b:Nat} (hw:σ'.w.heap[b]? =σ.w.heap[b]?):∀(l:List Pt) (o:Nat),RepRows σ 2 b o (l.map Br)→RepRows σ' 2 b o (l.map Br)
 |[],o,h=>by simp[RepRows]
 |p::l,o,h=>by
  simp only[List.map_cons,RepRows,Br,RepCells,Rep,List.length_cons,List.length_nil] at h⊢
  obtain⟨_,⟨⟨x,h1,h2,h3⟩,⟨y,h4,h5,h6⟩,_⟩,h7⟩:=h
  refine⟨trivial,⟨⟨x, ?_,h2,h3⟩,⟨y, ?_,h5,h6⟩,trivial⟩,Zr hw l (o+2) h7⟩
  ·rw[cell_of_heap hw];exact h1
  ·rw[cell_of_heap hw];exact h4
theorem YH (l:List Pt) (f:Bool) (d:List AV):TrL []∧TrL [.ro [.sl 2 f (l.map Br) d] 0]:=by
 refine⟨TrL.nil,fun σ σ' hf hw vs h=> ?_⟩
 simp only[RepL,Rep,RepCells] at h⊢
 obtain⟨y,ys,rfl,⟨b,o,h1,h2,h3,⟨x,h4,h5,base,cap,h6,h7,h8,h9,h10⟩,_⟩,rfl⟩:=h
 have hb:=hf b h2 (Kc h4)
 refine⟨y,[],rfl,⟨b,o,h1,hb,h3,⟨x,by rw[cell_of_heap (hw b h2)];exact h4,h5,base,cap,h6,h7,h8,h9, ?_⟩,trivial⟩,rfl⟩
 rcases h10 with h10|⟨b',o',rfl,k1,k2⟩
 ·exact .inl h10
 ·cases l with
  |nil=>exact .inl rfl
  |cons p l=>
   have k3:=k2
   simp only[List.map_cons,RepRows,Br,RepCells] at k3
   obtain⟨_,⟨⟨z,k4,_⟩,_⟩,_⟩:=k3
   exact .inr ⟨b',o',rfl,hf b' k1 (Kc k4),Zr (hw b' k1) _ _ k2⟩
end Go.Proofs.YtciphecegkfaiaaGreat.Am
