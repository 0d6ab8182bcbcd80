import Derived.Test.YtciphecegkfaiaaGreatDR
import Derived.Shelf.Small.Bits
set_option linter.unusedSimpArgs false
set_option linter.unusedVariables false
namespace Go.Proofs.YtciphecegkfaiaaGreat.Am
abbrev Pt:=Int×Int
def Ah(a b c:Pt):Int:=(b.1-a.1)*(c.2-a.2)-(b.2-a.2)*(c.1-a.1)
def dst(a b:Pt):Int:=(a.1-b.1)*(a.1-b.1)+(a.2-b.2)*(a.2-b.2)
def Db(v w p:Pt):Int:=(w.1-v.1)*(p.1-v.1)+(w.2-v.2)*(p.2-v.2)
def D0(g v p:Pt):Int:=g.1*(p.1-v.1)+g.2*(p.2-v.2)
def XU(P:List Pt)(v:Pt):Prop:=∃g:Pt,∀p∈P,p≠v->0<D0 g v p
structure Edge(P:List Pt)(v w:Pt):Prop where
 ne:v≠w
 mv:v∈P
 mw:w∈P
 left:∀p∈P,0<=Ah v w p
 seg:∀p∈P,Ah v w p=0->0<=Db v w p/\0<=Db w v p
theorem MW(x:Int):0<=x*x:=by
 rcases Int.le_total 0 x with h|h
 ·exact mM h h
 ·exact Int.mul_nonneg_of_nonpos_of_nonpos h h
theorem oW{x:Int}(h:x*x=0):x=0:=by rcases Nw.1 h with h|h<;>exact h
theorem tG(a b:Pt):0<=dst a b:=by unfold dst;have h1:=MW (a.1-b.1);have h2:=MW (a.2-b.2);omega
theorem VI{a b:Pt}(h:dst a b=0):a=b:=by unfold dst at h;have h1:=MW (a.1-b.1);have h2:=MW (a.2-b.2);have:=oW (x:=a.1-b.1) (by omega);have:=oW (x:=a.2-b.2) (by omega);exact Rl (by omega) (by omega)
theorem KJ{a b:Pt}(h:a≠b):0<dst a b:=by
 have:=tG a b;have:dst a b≠0:=λe=>h (VI e)
 omega
theorem Ng{x y:Int}(hx: -1000<=x/\x<=1000)(hy: -1000<=y/\y<=1000): -1000000<=x*y/\x*y<=1000000:=by have h1:0<=(1000-x)*(1000+y):=mM (by omega) (by omega);have h2:0<=(1000+x)*(1000-y):=mM (by omega) (by omega);have h3:0<=(1000+x)*(1000+y):=mM (by omega) (by omega);have h4:0<=(1000-x)*(1000-y):=mM (by omega) (by omega);constructor<;>grind
theorem ZC(v w p:Pt):Ah v w p*Ah v w p+Db w v p*Db w v p=dst v w*dst p w:=by unfold Ah Db dst;grind
theorem G4(a b c:Pt):Ah b c a=Ah a b c:=by unfold Ah;grind
theorem HT(a b c:Pt):Ah b a c= -Ah a b c:=by unfold Ah;grind
theorem E7(a b:Pt):Ah a b a=0:=by unfold Ah;grind
theorem D1(a b:Pt):Ah a b b=0:=by unfold Ah;grind
theorem TN(a b:Pt):Ah a a b=0:=by unfold Ah;grind
def BH(p:Pt):Prop:=(-400<=p.1/\p.1<=400)/\(-400<=p.2/\p.2<=400)
theorem Edge.ext{P:List Pt}{v w:Pt}(h:Edge P v w)(hb:∀p∈P,BH p):XU P w:=by
 refine⟨(10000000*(v.2-w.2)+(v.1-w.1),10000000*(w.1-v.1)+(v.2-w.2)),λp hp hne=>?_⟩;have e:D0 (10000000*(v.2-w.2)+(v.1-w.1),10000000*(w.1-v.1)+(v.2-w.2)) w p=10000000*Ah v w p+Db w v p:=by unfold D0 Ah Db;grind
 rw[e];have hl:=h.left p hp;rcases Int.lt_or_eq_of_le hl with hlt|heq
 ·have hv:=hb v h.mv;have hw:=hb w h.mw;have hp':=hb p hp;unfold BH at hv hw hp';have b1:=Ng (x:=v.1-w.1) (y:=p.1-w.1) (by omega) (by omega);have b2:=Ng (x:=v.2-w.2) (y:=p.2-w.2) (by omega) (by omega);have: -2000000<=Db w v p:=by unfold Db;omega
  omega
 ·have hs:=(h.seg p hp heq.symm).2;have hz:Db w v p≠0:=λhz=>by
   have:=ZC v w p;rw[<-heq,hz]at this;have h0:dst v w*dst p w=0:=by omega
   rcases Nw.1 h0 with h0|h0
   ·exact h.ne (VI h0)
   ·exact hne (VI h0)
  omega
theorem ZD(g o a b c:Pt):D0 g o b*Ah o a c=D0 g o a*Ah o b c+D0 g o c*Ah o a b:=by unfold D0 Ah;grind
theorem P6{g o a b:Pt}(h:Ah o a b=0):D0 g o a*Db o a b=D0 g o b*dst a o:=by
 have:(D0 g o a*Db o a b-D0 g o b*dst a o)=Ah o a b*(g.1*(a.2-o.2)-g.2*(a.1-o.1)):=by unfold D0 Db dst Ah;grind
 rw[h]at this;omega
theorem tH{g o a b:Pt}(h:Ah o a b=0):D0 g o a*D0 g o a*dst b o=D0 g o b*D0 g o b*dst a o:=by
 have e1:=P6 (g:=g) h;have e2:D0 g o b*Db o b a=D0 g o a*dst b o:=P6 (by rw[G4,G4]at*;unfold Ah at*;grind);have e3:Db o b a=Db o a b:=by unfold Db;grind
 rw[e3]at e2;grind
def P7(o n p:Pt):Pt:=if p=o then n else if n=o\/Ah o n p<0\/(Ah o n p=0/\dst o n<dst o p)then p else n
def HE(o:Pt)(P:List Pt):Pt:=P.foldl (P7 o) o
def cZ(o:Pt)(Q:List Pt)(n:Pt):Prop:=(n=o/\∀p∈Q,p=o)\/(n∈Q/\n≠o/\∀p∈Q,p=o\/(0<=Ah o n p/\(Ah o n p=0->dst o p<=dst o n)))
theorem Jn{a b:Int}(ha:0<a)(h:0<a*b):0<b:=by
 rcases Nz 0 b with hb|hb
 ·exact hb
 ·have:=mM (zX ha) (show 0<=-b by omega);rw[Int.mul_neg]at this;omega
theorem Fr{a b:Int}(ha:0<a)(h:0<=a*b):0<=b:=by
 rcases Nz b 0 with hb|hb
 ·have:=CX ha (show 0< -b by omega);rw[Int.mul_neg]at this;omega
 ·exact hb
theorem Xe{a b:Int}(ha:0<a)(h:a*b=0):b=0:=by
 rcases Nw.1 h with h|h
 ·omega
 ·exact h
theorem lC{o n p g:Pt}{Q:List Pt}(hg:∀q∈Q++[p],q≠o->0<D0 g o q)(h:cZ o Q n):cZ o (Q++[p]) (P7 o n p):=by
 unfold P7;by_cases hp:p=o
 ·rw[eX hp];rcases h with⟨h1,h2⟩|⟨h1,h2,h3⟩
  ·exact .inl ⟨h1,λq hq=>by rcases lO.1 hq with hq|hq;exact h2 q hq;simp at hq;rw[hq,hp]⟩
  ·exact .inr ⟨by simp[h1],h2,λq hq=>by rcases lO.1 hq with hq|hq;exact h3 q hq;simp at hq;exact .inl (by rw[hq,hp])⟩
 ·rw[eW hp];have gp:=hg p (by simp) hp;rcases h with⟨h1,h2⟩|⟨h1,h2,h3⟩
  ·rw[eX (.inl h1)];refine .inr ⟨by simp,hp,λq hq=>?_⟩;rcases lO.1 hq with hq|hq
   ·exact .inl (h2 q hq)
   ·simp at hq;subst hq;exact .inr ⟨by rw[D1];omega,λ_=>by omega⟩
  ·have gn:=hg n (by simp[h1]) h2;by_cases hc:n=o\/Ah o n p<0\/(Ah o n p=0/\dst o n<dst o p)
   ·rw[eX hc];refine .inr ⟨by simp,hp,λq hq=>?_⟩;rcases lO.1 hq with hq|hq
    ·by_cases hqo:q=o
     ·exact .inl hqo
     refine .inr ?_;have gq:=hg q (by simp[hq]) hqo;rcases h3 q hq with k|⟨k1,k2⟩
     ·exact absurd k hqo
     have pl:=ZD g o p n q;have sw:Ah o p n= -Ah o n p:=by unfold Ah;grind
     rcases hc with hc|hc|⟨hc,hd⟩
     ·exact absurd hc h2
     ·have a1:0<D0 g o q*Ah o p n:=CX gq (by omega);have a2:0<=D0 g o p*Ah o n q:=mM (by omega) k1;have:=Jn gn (b:=Ah o p q) (by omega);exact⟨by omega,λe=>by omega⟩
     ·rw[sw,hc]at pl;have a2:0<=D0 g o p*Ah o n q:=mM (by omega) k1;refine⟨Fr gn (b:=Ah o p q) (by omega),λe=>?_⟩;rw[e]at pl;have:=Xe gp (b:=Ah o n q) (by omega);have:=k2 this;omega
    ·simp at hq;subst hq;exact .inr ⟨by rw[D1];omega,λ_=>by omega⟩
   ·rw[eW hc];refine .inr ⟨by simp[h1],h2,λq hq=>?_⟩;rcases lO.1 hq with hq|hq
    ·exact h3 q hq
    ·simp at hq;subst hq;refine .inr ⟨by omega,λe=>?_⟩;omega
theorem XV{o g:Pt}:∀(R Q:List Pt)(n:Pt),(∀q∈Q++R,q≠o->0<D0 g o q)->cZ o Q n->cZ o (Q++R) (R.foldl (P7 o) n)
 |[],Q,n,_,h=>by simpa using h
 |p::R,Q,n,hg,h=>by
  have e:Q++p::R=(Q++[p])++R:=by simp
  rw[e]at hg⊢;exact XV R (Q++[p]) _ hg (lC (λq hq=>hg q (by simp at hq⊢;rcases hq with h|h<;>simp[h])) h)
theorem VJ{P:List Pt}{o:Pt}(ho:o∈P)(h:XU P o):(HE o P=o/\∀p∈P,p=o)\/Edge P o (HE o P):=by
 obtain⟨g,hg⟩:=h;have hs:cZ o P (HE o P):=by have:=XV P [] o (by simpa using hg) (.inl ⟨rfl,by simp⟩);rw[nJ]at this;exact this
 rcases hs with hs|⟨h1,h2,h3⟩
 ·exact .inl hs
 ·refine .inr ⟨λe=>h2 e.symm,ho,h1,λp hp=>?_,λp hp e=>?_⟩
  ·rcases h3 p hp with rfl|⟨k,_⟩
   ·rw[E7];omega
   ·exact k
  ·have dn:0<dst (HE o P) o:=KJ h2;have e2:Db (HE o P) o p=dst (HE o P) o-Db o (HE o P) p:=by unfold Db dst;grind
   by_cases hp':p=o
   ·subst hp';have:Db p (HE p P) p=0:=by unfold Db;grind
    omega
   have gp:=hg p hp hp';have gn:=hg _ h1 h2;have hd:dst o p<=dst o (HE o P):=by
    rcases h3 p hp with k|⟨_,k⟩
    ·exact absurd k hp'
    ·exact k e
   have s1:dst o p=dst p o:=by unfold dst;grind
   have s2:dst o (HE o P)=dst (HE o P) o:=by unfold dst;grind
   have c1:=P6 (g:=g) e;have c2:=tH (g:=g) e;have q1:=CX gp dn;have d0:=Jn gn (b:=Db o (HE o P) p) (by omega);refine⟨by omega,?_⟩;rw[e2];generalize D0 g o p=x at*;generalize D0 g o (HE o P)=y at*;generalize dst (HE o P) o=D at*;generalize dst p o=α at*;generalize Db o (HE o P) p=t at*;have hxy:x<=y:=by
    rcases Nz y x with hlt|hle
    ·have a1:y*y<x*x:=by have:=Int.mul_lt_mul_of_pos_left hlt gn;have:=Int.mul_lt_mul_of_pos_right hlt gp;omega
     have a2:=Int.mul_lt_mul_of_pos_right a1 dn;have a3:y*y*α<=y*y*D:=Int.mul_le_mul_of_nonneg_left (by omega) (MW y);omega
    ·exact hle
   have a4:x*D<=y*D:=Int.mul_le_mul_of_nonneg_right hxy (by omega);have a5:0<=y*(D-t):=by rw[Int.mul_sub];omega
   exact Fr gn a5
theorem eq3{A B t:Int}(ht:0<=t)(h1:t<=A)(h2:t<=B)(pa:0<A)(pb:0<B)(la:t*t=A*B):A=t/\B=t:=by
 have k1:t*t<=t*B:=Int.mul_le_mul_of_nonneg_left (by omega) (by omega);have k2:t*t<=A*t:=Int.mul_le_mul_of_nonneg_right (by omega) (by omega);have k3:0<=B*(t-A):=by rw[Int.mul_sub,X4 B A,X4 B t];omega
 have k4:0<=A*(t-B):=by rw[Int.mul_sub];omega
 have k5:=Fr pb k3;have k6:=Fr pa k4;omega
theorem Edge.pred{P:List Pt}{a b w:Pt}(h1:Edge P a w)(h2:Edge P b w):a=b:=by
 have l1:=h1.left b h2.mv;have l2:=h2.left a h1.mv;have e1:Ah b w a= -Ah a w b:=by unfold Ah;grind
 have z1:Ah a w b=0:=by omega
 have z2:Ah b w a=0:=by omega
 have s1:=h1.seg b h2.mv z1;have s2:=h2.seg a h1.mv z2;have la:=ZC a w b;have pa:=KJ h1.ne;have pb:=KJ h2.ne;have i1:Db a w b=dst a w-Db w a b:=by unfold Db dst;grind
 have i2:Db b w a=dst b w-Db w a b:=by unfold Db dst;grind
 have i3:dst a b=dst a w+dst b w-2*Db w a b:=by unfold Db dst;grind
 rw[z1]at la;generalize dst a w=A at*;generalize dst b w=B at*;generalize Db w a b=t at*;have:=eq3 (A:=A) (B:=B) (t:=t) (by omega) (by omega) (by omega) pa pb (by omega);exact VI (by omega)
def pa(l:List Pt)(i:Nat):Pt:=l.getD i (0,0)
theorem D2{l:List Pt}{i:Nat}(h:i<l.length):pa l i=l[i]:=by unfold pa;rw[eT,eV h];rfl
theorem AN{l:List Pt}{i:Nat}(h:i<l.length):pa l i∈l:=by rw[D2 h];exact S7 h
theorem H0{l:List Pt}{p:Pt}(h:p∈l):∃i,i<l.length/\pa l i=p:=by obtain⟨i,hi,e⟩:=List.mem_iff_getElem.1 h;exact⟨i,hi,by rw[D2 hi,e]⟩
theorem Po{l:List Pt}(h:l.Nodup){i j:Nat}(hi:i<l.length)(hj:j<l.length)(e:pa l i=pa l j):i=j:=by
 rw[D2 hi,D2 hj]at e;have:=L6.1 h;rcases Nat.lt_trichotomy i j with h|h|h
 ·exact absurd e (this i j hi hj h)
 ·exact h
 ·exact absurd e.symm (this j i hj hi h)
theorem Jo{l m:List Pt}{i:Nat}(h:i<l.length):pa (l++m) i=pa l i:=by rw[D2 (by simp;omega),D2 h,List.getElem_append_left h]
theorem Nu{l m:List Pt}{i:Nat}(h1:l.length<=i)(h:i<l.length+m.length):pa (l++m) i=pa m (i-l.length):=by rw[D2 (by simp;omega),D2 (by omega),List.getElem_append_right h1]
theorem Lj:∀(l:List Pt)(P:List Pt),l.Nodup->(∀p∈l,p∈P)->l.length<=P.length
 |[],_,_,_=>by simp
 |a::l,P,h,hs=>by
  rw[To]at h;have ha:=hs a (by simp);have:=Lj l (P.erase a) h.2 λp hp=>(List.mem_erase_of_ne (by rintro rfl;exact h.1 hp)).2 (hs p (by simp[hp]))
  rw[List.length_erase_of_mem ha]at this;have:=List.length_pos_of_mem ha;simp;omega
def Conv(l:List Pt):Prop:=∀i k,i<l.length->k<l.length->k≠i->k≠(i+1)%l.length->0<Ah (pa l i) (pa l ((i+1)%l.length)) (pa l k)
structure HGood(P:List Pt)(f o:Pt)(out:List Pt):Prop where
 len:0<out.length
 hd:pa out 0=f
 lst:pa out (out.length-1)=o
 nd:out.Nodup
 sub:∀p∈out,p∈P
 ext:∀p∈out,XU P p
 edge:∀i,i+1<out.length->Edge P (pa out i) (pa out (i+1))
structure HullOK(P r:List Pt):Prop where
 nd:r.Nodup
 sub:∀p∈r,p∈P
 len:0<r.length
 conv:3<=r.length->Conv r
def Jp(f p:Pt):Pt:=if p.2<f.2\/(p.2=f.2/\p.1<f.1)then p else f
def MX(a:Pt)(P:List Pt):Pt:=P.foldl Jp a
def TO(f p:Pt):Prop:=f.2<p.2\/(f.2=p.2/\f.1<=p.1)
theorem VK:∀(P:List Pt)(a:Pt),MX a P∈a::P/\∀p∈a::P,TO (MX a P) p
 |[],a=>⟨by simp[MX],λp hp=>by simp at hp;subst hp;exact .inr ⟨rfl,Int.le_refl _⟩⟩
 |q::P,a=>by
  obtain⟨h1,h2⟩:=VK P (Jp a q);have e:MX a (q::P)=MX (Jp a q) P:=rfl;rw[e];have hs:(Jp a q=a\/Jp a q=q)/\TO (Jp a q) a/\TO (Jp a q) q:=by unfold Jp TO;split<;>refine⟨by simp,?_,?_⟩<;>omega
  refine⟨?_,λp hp=>?_⟩
  ·rcases lJ.1 h1 with h|h
   ·rcases hs.1 with k|k<;>rw[h,k]<;>simp
   ·simp[h]
  ·have h0:=h2 (Jp a q) (by simp);rcases lJ.1 hp with rfl|hp
   ·have:=hs.2.1;unfold TO at*;omega
   ·rcases lJ.1 hp with rfl|hp
    ·have:=hs.2.2;unfold TO at*;omega
    ·exact h2 p (by simp[hp])
theorem tJ{P:List Pt}{f:Pt}(hb:∀p∈P,BH p)(hf:f∈P)(h:∀p∈P,TO f p):XU P f:=by
 refine⟨(1,10000),λp hp hne=>?_⟩;have b1:=hb p hp;have b2:=hb f hf;have b3:=h p hp;have:¬(p.1=f.1/\p.2=f.2):=λe=>hne (Rl e.1 e.2)
 unfold D0;unfold BH at b1 b2;unfold TO at b3;simp only;omega
theorem lD{P:List Pt}{f:Pt}(hf:f∈P)(hx:XU P f):HGood P f f [f]:=⟨by simp,rfl,rfl,by simp,by simp[hf],by simp[hx],λi hi=>by simp at hi⟩
section
open Go
attribute [local irreducible] As Cn B6 BK CA BJ Bv Cl Cv Dx
set_option maxRecDepth 100000
set_option maxHeartbeats 8000000
def IB(x:Int):List AV:=[.i x]
def cH:List AV->Int|[.v (.int _ a1)]=>a1|_=>0
theorem AcW(x:Int):cH (IB x)=x:=by rfl
theorem yD(R:List Int):(R.map IB).map cH=R:=by
 induction R with
 |nil=>rfl
 |cons r R ih=>rw[eZ,eZ,ih,AcW]
theorem AcX(R:List Int)(i:Nat):BG (R.map IB) [.i 0] i=IB (R.getD i 0):=by unfold BG;rw[eT,eT,qX];cases R[i]? <;>rfl
def TL:Rw Int:=⟨1,IB,cH,[.i 0]⟩
def GY(l:List Int):AV:=.sl 1 false (l.map IB) [.i 0]
def Mj(l:List Int):AV:=.sl 1 true (l.map IB) [.i 0]
attribute [go_sem] TL GY Mj IB cH yD AcX
def Ee(N:Nat)(af:Int)(ae:Int)(ak:Int)(aj:Int)(ai:Int)(ah:Int):Option Int:=gd (Ab (ak-af))<|gd (Ab (ah-ae))<|gd (Ab ((ak-af)*(ah-ae)))<|gd (Ab (aj-ae))<|gd (Ab (ai-af))<|gd (Ab ((aj-ae)*(ai-af)))<|gd (Ab (((ak-af)*(ah-ae))-((aj-ae)*(ai-af))))<|some (((ak-af)*(ah-ae))-((aj-ae)*(ai-af)))
@[go_sem] def AcY(N:Nat):Spec:=p0<|pG<|pI λaf=>pI λae=>pE<|pG<|pI λak=>pI λaj=>pE<|pG<|pI λai=>pI λah=>pE<|pE<|pF (Ee N af ae ak aj ai ah) 0 λr=>.i r
theorem Pm(N:Nat):AZ Tryz.prog 123 (AcY N):=by
 refine Ax x123.ok<|A2<|Ad λaf=>Ad λae=>Ai<|A2<|Ad λak=>Ad λaj=>Ai<|A2<|Ad λai=>Ad λah=>Ai<|Ai<|Ay λr h=>wx x123 (An) λ_ hS F=>?_
 dsimp only[x123,Al];unfold Ee at h;obtain⟨cz,cy,bz,cu,cr,cq,co,h⟩:=un h;exact Af hS F h
def Gz(N:Nat)(au:Int)(aq:Int):Option Bool:=some ((decide (min au aq<0))||(decide (40<max au aq)))
@[go_sem] def s99(N:Nat):Spec:=p0<|pG<|pI λau=>pI λaq=>pE<|pE<|pF (Gz N au aq) false λr=>.b r
theorem oA(N:Nat):AZ Tryz.prog 99 (s99 N):=by
 refine Ax x99.ok<|A2<|Ad λau=>Ad λaq=>Ai<|Ai<|Ay λr h=>wx x99 (An) λ_ hS F=>?_
 dsimp only[x99,Al];unfold Gz at h;exact Af hS F h
def HC(N:Nat)(x67:Int):Option Bool:=some (decide (x67≠x67))
@[go_sem] def AcZ(N:Nat):Spec:=p0<|pI λx67=>pE<|pF (HC N x67) false λr=>.b r
theorem yG(N:Nat):AZ Tryz.prog 128 (AcZ N):=by
 refine Ax x128.ok<|Ad λx67=>Ai<|Ay λr h=>wx x128 (An) λ_ hS F=>?_
 dsimp only[x128,Al];unfold HC at h;exact Af hS F h
def DK(N:Nat)(x68:Int)(am:Int):Option Int:=(HC N x68).bind λbu=>(HC N am).bind λbb=>bif bu then(bif bb then(some 0)else(some (-1)))else(bif bb then(some 1)else(bif decide (x68<am)then(some (-1))else(bif decide (am<x68)then(some 1)else(some 0))))
@[go_sem] def s87(N:Nat):Spec:=p0<|pI λx68=>pI λam=>pE<|pF (DK N x68 am) 0 λr=>.i r
theorem UC(N:Nat):AZ Tryz.prog 87 (s87 N):=by
 refine Ax x87.ok<|Ad λx68=>Ad λam=>Ai<|Ay λr h=>wx x87 (Ac (yG N)<|An) λ_ hS F=>?_
 dsimp only[x87,Al];unfold DK at h;obtain⟨bu,bm,bb,bj,h⟩:=un h;replace F:=fc bj (fc bm F);refine Ap hS F h (λ_ h=>?_) (λ_ h=>?_)
 ·refine Ap hS F h (λ_ h=>?_) (λ_ h=>?_)
  ·exact Af hS F h
  ·exact Af hS F h
 ·refine Ap hS F h (λ_ h=>?_) (λ_ h=>?_)
  ·exact Af hS F h
  ·refine Ap hS F h (λ_ h=>?_) (λ_ h=>?_)
   ·exact Af hS F h
   ·refine Ap hS F h (λ_ h=>?_) (λ_ h=>?_)
    ·exact Af hS F h
    ·exact Af hS F h
def FD(N:Nat)(vals74:List Int):Nat->Int->Option (Sum Unit Int)|0,_=>none|n+1,an=>bif decide (an<(vals74.length:Int))then((AA vals74 an).bind λx80=>bif decide (x80≠0)then(some (.inr x80))else(gd (Ab (an+1))<|FD N vals74 n (an+1)))else(some (.inl ()))
def Kt(N:Nat)(vals74:List Int):Option Int:=(FD N vals74 N 0).bind λbe=>match be with|.inl ()=>(some 0)|.inr bw=>(some bw)
@[go_sem] def Ac0(N:Nat):Spec:=p0<|pS TL λvals74=>pE<|pF (Kt N vals74) 0 λr=>.i r
theorem yH(N:Nat):AZ Tryz.prog 127 (Ac0 N):=by
 refine Ax x127.ok<|Bf λvals74=>Ai<|Ay λr h=>wx x127 (An) λ_ hS F=>?_
 dsimp only[x127,Al,TL];unfold Kt at h;obtain⟨be,ce,h⟩:=un h;refine go hS F ?_;refine AM be (λz:Nat=>⟨[(3,.i 0)],[],z⟩) (λz=>(.inl ():Sum Unit Int)) (.x 0) ?_ ?_
 ·refine AH (λn (y:Int×Nat)=>FD N vals74 n y.1) (λy=>⟨[(3,.i 0),(6,GY vals74),(7,.i (vals74.length:Int)),(8,.i y.1)],[],y.2⟩) (0,3) ce (Bn F) ?_;rintro n ⟨an,bv⟩ aa;simp only[FD]at aa;refine Ap hS F aa (λ_ aa=>?_) (λ_ aa=>?_)
  ·obtain⟨x80,bo,aa⟩:=un aa;obtain⟨b9,F⟩:=Bt IB bo F;refine Ap hS F aa (λ_ aa=>?_) (λ_ aa=>?_)
   ·obtain rfl:=yJ aa;exact Af hS F h
   ·obtain⟨bz,aa⟩:=un aa;exact Bk hS F (n,an+1,bv+1+1+1+1) aa
  ·exact A9 hS F (bv+1) aa
 ·rintro db rfl;exact Af hS F h
def DL(N:Nat)(az:Int)(ay:Int)(aw:Int)(av:Int):Option Int:=(DK N az aw).bind λbr=>(DK N ay av).bind λbq=>(Kt N [br,bq]).bind λbp=>some bp
@[go_sem] def Ac1(N:Nat):Spec:=p0<|pG<|pI λaz=>pI λay=>pE<|pG<|pI λaw=>pI λav=>pE<|pE<|pF (DL N az ay aw av) 0 λr=>.i r
theorem R8(N:Nat):AZ Tryz.prog 132 (Ac1 N):=by
 refine Ax x132.ok<|A2<|Ad λaz=>Ad λay=>Ai<|A2<|Ad λaw=>Ad λav=>Ai<|Ai<|Ay λr h=>wx x132 (Ac (UC N)<|Ac (yH N)<|An) λ_ hS F=>?_
 dsimp only[x132,Al];unfold DL at h;obtain⟨br,bi,bq,bh,bp,bg,h⟩:=un h;exact Af hS (fc bg (fc bh (fc bi F))) h
end
section
open Go
attribute [local irreducible] As Cn B6 BK CA BJ Bv Cl Cv Dx
set_option maxRecDepth 100000
set_option maxHeartbeats 8000000
def Bu(l:List Pt):List (Pt×Pt):=(List.range l.length).map λi=>(pa l i,pa l ((i+1)%l.length))
def Ua(e:Pt×Pt):List AV:=[.agg [.i e.1.1,.i e.1.2],.agg [.i e.2.1,.i e.2.2]]
theorem ZY{l:List Pt}{i:Nat}(h:i<l.length):(Bu l)[i]? =some (pa l i,pa l ((i+1)%l.length)):=by unfold Bu;rw[qX,List.getElem?_range h];rfl
theorem Kx(l:List Pt):(Bu l).length=l.length:=by unfold Bu;simp
theorem My(l:List Pt)(f:Bool)(hlen:l.length<=1000000000):TI Tryz.prog 150 [] [.ro [.sl 2 f (l.map By) [.i 0,.i 0]] 0] ((Bu l).map Ua):=by
 refine Xp (An (P:=Tryz.prog)) _ x150.hf x150.hc x150.hn (by simp[x150,Al,gs]) (mO rfl) λy V hOK hTS hY hYD=>?_
 have hS:=An (P:=Tryz.prog);dsimp only[x150,Al,DE];refine go hS (fc hTS f0) ?_;refine Is (λx:Nat×Nat=>⟨[(7,.i x.1),(6,.i l.length),(5,.sl 2 f (l.map By) [.i 0,.i 0]),(1,.ro [.sl 2 f (l.map By) [.i 0,.i 0]] 0),(gs,CL x.1),(0,.clo (.yield y) [] [])],[],x.2⟩)
  (λx=>x.1<=l.length) (λx=>l.length-x.1) (0,50) ?_ ?_ ?_
 ·simp
 ·refine Le.of ?_ ?_ (by simp)<;>(simp only[go_sem,seval];try simp)
 ·rintro⟨i,c⟩ hi;simp only at hi;refine go hS (fc hTS f0) ?_;refine Vw ((i:Int)<l.length) (by simp only[go_sem,seval]<;>eq_refl) (by first|simp only[Bool.decide_or,Bool.decide_and,decide_not]|simp) (λhi1=>?_) (λhi1=>?_)
  ·have hi':i<l.length:=by omega
   have hm:(i+1)%l.length<l.length:=uM _ (by omega);have hrow:BG (l.map By) [.i 0,.i 0] i=[.i (pa l i).1,.i (pa l i).2]:=P4 l i;have hrow2:BG (l.map By) [.i 0,.i 0] ((i+1)%l.length)=[.i (pa l ((i+1)%l.length)).1,.i (pa l ((i+1)%l.length)).2]:=P4 l _;have hmod:((i:Int)+1).tmod (l.length:Int)=(((i+1)%l.length:Nat):Int):=by rw[Int.tmod_eq_emod_of_nonneg (by omega)];rfl
   have hton:((((i+1)%l.length:Nat)):Int).toNat=(i+1)%l.length:=uS _;refine go hS (fc hTS (fc hrow f0)) ?_;refine hYD 10 (args:=Ua (pa l i,pa l ((i+1)%l.length))) rfl (by simp only[go_sem,seval,hTS]<;>eq_refl) (by simp only[go_sem,seval,hTS,hrow,hrow2,hmod,hton]<;>eq_refl) (by decide) ?_ (by simp only[go_sem,seval]<;>eq_refl) (by simp only[go_sem,seval]<;>eq_refl) (by simp only[go_sem,seval]<;>eq_refl) (by simp only[go_sem,seval,Am.Ua]<;>eq_refl) ?_ (by simp only[go_sem,seval,hTS]<;>eq_refl) ?_ ?_ (by simp only[go_sem,seval,hTS]<;>eq_refl) ?_ ?_
   ·exact⟨⟨by omega,by omega⟩,by omega,by omega,by omega⟩
   ·rw[qX,ZY hi'];rfl
   ·exact yT
   ·refine go hS (fc hTS f0) ?_;refine Nr (by simp only[go_sem,seval]<;>eq_refl) ?_;refine go hS (fc hTS f0) ?_;refine H4 (i+1,c+50) (by show i+1<=_;omega) (by show l.length-(i+1)<l.length-i;omega) (Le.of ?_ ?_ ?_)
    ·simp only[go_sem,seval]<;>simp
    ·simp only[go_sem,seval]
    ·simp
   ·exact yT
   ·refine go hS (fc hTS f0) ?_;refine Lg (by simp only[go_sem,seval]<;>eq_refl) ?_;refine go hS (fc hTS f0) ?_;refine R4 ?_;simp only[go_sem,seval]
  ·refine go hS (fc hTS f0) ?_;refine nY ?_;have:i=l.length:=by omega
   simp only[go_sem,seval,this,p9,Kx]
def PG:Spec|[.sl z f rows d]=>some (True,.clo (.func 150) [] [.ro [.sl z f rows d] 0])|_=>none
theorem M3:AZ Tryz.prog 122 PG:=⟨x122.ok,by
 intro args vc r h hv;unfold PG at h;split at h
 ·cases h
  refine N5 (An (P:=Tryz.prog)) _ x122.hf x122.hc x122.hn (mO rfl) λ_=>?_
  have hS:=An (P:=Tryz.prog);dsimp only[x122,Al,DE];refine go hS f0 ?_
  first|refine Mc (by simp only[go_sem,seval]<;>eq_refl) (by simp only[go_sem,seval]) (by simp only[go_sem,seval]) ?_ rfl|refine Md (by simp only[go_sem,seval]<;>eq_refl) (by simp only[go_sem,seval]) (by simp only[go_sem,seval]) ?_ rfl
  simp only[go_sem,seval]
 ·simp at h⟩
theorem J6{E:Type}{xs:List E}{g:E->List AV}{k:Nat}{args:List AV}(h:(xs.map g)[k]? =some args):∃y,xs.drop k=y::xs.drop (k+1)/\args=g y/\k<xs.length:=by
 rw[qX]at h;cases hk:xs[k]? with
 |none=>rw[hk]at h;cases h
 |some y=>rw[hk]at h;obtain⟨h1,h2⟩:=i5.1 hk;exact⟨y,by rw[mL h1,h2],(yJ h).symm,h1⟩
theorem JU{E:Type}{xs:List E}{g:E->List AV}:xs.drop (xs.map g).length=[]:=by rw[p9];exact w5
end
open Go
def Sz:Shelf.Ren where
 f:=λ|125=>130|128=>160|129=>161|n=>n
 t:=λ|46=>139|3=>3|51=>193|53=>137|4=>4|5=>5|9=>9|n=>n
 g:=id
theorem uX:Lays.n125 Tryz.prog Sz:={mixed:=Eq.refl true,f125:=Eq.trans Tryz.func130 (congrArg some (Eq.refl (Body.n125 Sz))),f128:=Eq.trans Tryz.func160 (congrArg some (Eq.refl (Body.n128 Sz))),f129:=Eq.trans Tryz.func161 (congrArg some (Eq.refl (Body.n129 Sz))),t3:=Tryz.underlying3,a3:=Tryz.isAgg3,z3:=Tryz.sizeOf3,v3:=Tryz.zeroValue3,t4:=Tryz.underlying4,a4:=Tryz.isAgg4,z4:=Tryz.sizeOf4,v4:=Tryz.zeroValue4,t5:=Tryz.underlying5,a5:=Tryz.isAgg5,z5:=Tryz.sizeOf5,v5:=Tryz.zeroValue5,t9:=Tryz.underlying9,a9:=Tryz.isAgg9,z9:=Tryz.sizeOf9,v9:=Tryz.zeroValue9,t46:=Tryz.underlying139,a46:=Tryz.isAgg139,z46:=Tryz.sizeOf139,v46:=Tryz.zeroValue139,t51:=Tryz.underlying193,a51:=Tryz.isAgg193,z51:=Tryz.sizeOf193,v51:=Tryz.zeroValue193,t53:=Tryz.underlying137,a53:=Tryz.isAgg137,z53:=Tryz.sizeOf137,v53:=Tryz.zeroValue137}
def Z0:Spec|[.v (.int .u64 n)]=>some (0<=n/\n<=1000000,.i (Lib.bitLen n.toNat))|_=>none
theorem mT:AZ Tryz.prog 130 Z0:=⟨⟨Tryz.f130,Tryz.func130,by kernel_rfl,by kernel_rfl⟩,by
 intro args vc r h hv;unfold Z0 at h;split at h
 ·cases h
  intro U vs hG hM hp hr;simp only[RepL,Rep]at hr;obtain⟨y,ys,rfl,rfl,rfl⟩:=hr;refine(Any.bits_Len uX _ U.w hv.1 (by omega)).mono ?_;rintro e w' ⟨rfl,rfl⟩;exact⟨_,rfl,λb o h=>h,SameO.refl _,rfl,rfl⟩
 ·simp at h⟩
theorem qK{U σ':Cf}{b:Nat}(hw:σ'.w.heap[b]? =U.w.heap[b]?):∀(l:List Pt)(o:Nat),RepRows U 2 b o (l.map By)->RepRows σ' 2 b o (l.map By)
 |[],o,h=>by simp[RepRows]
 |p::l,o,h=>by
  simp only[eZ,RepRows,By,RepCells,Rep,pC,CP]at h⊢;obtain⟨_,⟨⟨x,h1,h2,h3⟩,⟨y,h4,h5,h6⟩,_⟩,h7⟩:=h;refine⟨trivial,⟨⟨x,?_,h2,h3⟩,⟨y,?_,h5,h6⟩,trivial⟩,qK hw l (o+2) h7⟩
  ·rw[cell_of_heap hw];exact h1
  ·rw[cell_of_heap hw];exact h4
theorem mU(l:List Pt)(f:Bool)(d:List AV):TrL []/\TrL [.ro [.sl 2 f (l.map By) d] 0]:=by
 refine⟨TrL.nil,λU σ' hf hw vs h=>?_⟩;simp only[RepL,Rep,RepCells]at h⊢;obtain⟨y,ys,rfl,⟨b,o,h1,h2,h3,⟨x,h4,h5,base,cap,h6,h7,h8,h9,h10⟩,_⟩,rfl⟩:=h;have hb:=hf b h2 (Mf h4);refine⟨y,[],rfl,⟨b,o,h1,hb,h3,⟨x,by rw[cell_of_heap (hw b h2)];exact h4,h5,base,cap,h6,h7,h8,h9,?_⟩,trivial⟩,rfl⟩;rcases h10 with h10|⟨b',o',rfl,k1,k2⟩
 ·exact .inl h10
 ·cases l with
  |nil=>exact .inl rfl
  |cons p l=>have k3:=k2;simp only[eZ,RepRows,By,RepCells]at k3;obtain⟨_,⟨⟨z,k4,_⟩,_⟩,_⟩:=k3;exact .inr ⟨b',o',rfl,hf b' k1 (Mf k4),qK (hw b' k1) _ _ k2⟩
