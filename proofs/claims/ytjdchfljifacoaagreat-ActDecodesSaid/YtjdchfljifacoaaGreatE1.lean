import Derived.Test.YtjdchfljifacoaaGreatD4
set_option linter.all false
set_option maxRecDepth 100000
set_option maxHeartbeats 8000000
namespace Go.Proofs.YtjdchfljifacoaaGreat.Am
abbrev Pt:=Int×Int
def Ao(a b c:Pt):Int:=(b.1-a.1)*(c.2-a.2)-(b.2-a.2)*(c.1-a.1)
def dst(a b:Pt):Int:=(a.1-b.1)*(a.1-b.1)+(a.2-b.2)*(a.2-b.2)
def C5(v w p:Pt):Int:=(w.1-v.1)*(p.1-v.1)+(w.2-v.2)*(p.2-v.2)
def DP(g v p:Pt):Int:=g.1*(p.1-v.1)+g.2*(p.2-v.2)
def Yt(P:List Pt)(v:Pt):Prop:=∃g:Pt,∀p∈P,p≠v->0<DP g v p
structure Edge(P:List Pt)(v w:Pt):Prop where
 ne:v≠w
 mv:v∈P
 mw:w∈P
 left:∀p∈P,0<=Ao v w p
 seg:∀p∈P,Ao v w p=0->0<=C5 v w p/\0<=C5 w v p
theorem NW(x:Int):0<=x*x:=by
 rcases Int.le_total 0 x with h|h
 ·exact kC h h
 ·exact Int.mul_nonneg_of_nonpos_of_nonpos h h
theorem nW{x:Int}(h:x*x=0):x=0:=by rcases w6.1 h with h|h<;>exact h
theorem sL(a b:Pt):0<=dst a b:=by unfold dst;have h1:=NW (a.1-b.1);have h2:=NW (a.2-b.2);omega
theorem Wp{a b:Pt}(h:dst a b=0):a=b:=by unfold dst at h;have h1:=NW (a.1-b.1);have h2:=NW (a.2-b.2);have:=nW (x:=a.1-b.1) (by omega);have:=nW (x:=a.2-b.2) (by omega);exact Prod.ext (by omega) (by omega)
theorem LL{a b:Pt}(h:a≠b):0<dst a b:=by
 have:=sL a b;have:dst a b≠0:=λe=>h (Wp e)
 omega
theorem Ob{x y:Int}(hx: -1000<=x/\x<=1000)(hy: -1000<=y/\y<=1000): -1000000<=x*y/\x*y<=1000000:=by have h1:0<=(1000-x)*(1000+y):=kC (by omega) (by omega);have h2:0<=(1000+x)*(1000-y):=kC (by omega) (by omega);have h3:0<=(1000+x)*(1000+y):=kC (by omega) (by omega);have h4:0<=(1000-x)*(1000-y):=kC (by omega) (by omega);constructor<;>grind
theorem ZD(v w p:Pt):Ao v w p*Ao v w p+C5 w v p*C5 w v p=dst v w*dst p w:=by unfold Ao C5 dst;grind
theorem Hd(a b c:Pt):Ao b c a=Ao a b c:=by unfold Ao;grind
theorem EM(a b:Pt):Ao a b a=0:=by unfold Ao;grind
theorem E4(a b:Pt):Ao a b b=0:=by unfold Ao;grind
theorem cZ(a b:Pt):Ao a a b=0:=by unfold Ao;grind
def CD(p:Pt):Prop:=(-400<=p.1/\p.1<=400)/\(-400<=p.2/\p.2<=400)
theorem Edge.ext{P:List Pt}{v w:Pt}(h:Edge P v w)(hb:∀p∈P,CD p):Yt P w:=by
 refine⟨(10000000*(v.2-w.2)+(v.1-w.1),10000000*(w.1-v.1)+(v.2-w.2)),λp hp hne=>?_⟩;have e:DP (10000000*(v.2-w.2)+(v.1-w.1),10000000*(w.1-v.1)+(v.2-w.2)) w p=10000000*Ao v w p+C5 w v p:=by unfold DP Ao C5;grind
 rw[e];have hl:=h.left p hp;rcases Int.lt_or_eq_of_le hl with hlt|heq
 ·have hv:=hb v h.mv;have hw:=hb w h.mw;have hp':=hb p hp;unfold CD at hv hw hp';have b1:=Ob (x:=v.1-w.1) (y:=p.1-w.1) (by omega) (by omega);have b2:=Ob (x:=v.2-w.2) (y:=p.2-w.2) (by omega) (by omega);have: -2000000<=C5 w v p:=by unfold C5;omega
  omega
 ·have hs:=(h.seg p hp heq.symm).2;have hz:C5 w v p≠0:=λhz=>by
   have:=ZD v w p;rw[<-heq,hz]at this;have h0:dst v w*dst p w=0:=by omega
   rcases w6.1 h0 with h0|h0
   ·exact h.ne (Wp h0)
   ·exact hne (Wp h0)
  omega
theorem ZE(g o a b c:Pt):DP g o b*Ao o a c=DP g o a*Ao o b c+DP g o c*Ao o a b:=by unfold DP Ao;grind
theorem QR{g o a b:Pt}(h:Ao o a b=0):DP g o a*C5 o a b=DP g o b*dst a o:=by
 have:(DP g o a*C5 o a b-DP g o b*dst a o)=Ao o a b*(g.1*(a.2-o.2)-g.2*(a.1-o.1)):=by unfold DP C5 dst Ao;grind
 rw[h]at this;omega
theorem sM{g o a b:Pt}(h:Ao o a b=0):DP g o a*DP g o a*dst b o=DP g o b*DP g o b*dst a o:=by
 have e1:=QR (g:=g) h;have e2:DP g o b*C5 o b a=DP g o a*dst b o:=QR (by rw[Hd,Hd]at*;unfold Ao at*;grind);have e3:C5 o b a=C5 o a b:=by unfold C5;grind
 rw[e3]at e2;grind
def QS(o n p:Pt):Pt:=if p=o then n else if n=o\/Ao o n p<0\/(Ao o n p=0/\dst o n<dst o p)then p else n
def H1(o:Pt)(P:List Pt):Pt:=P.foldl (QS o) o
def dA(o:Pt)(Q:List Pt)(n:Pt):Prop:=(n=o/\∀p∈Q,p=o)\/(n∈Q/\n≠o/\∀p∈Q,p=o\/(0<=Ao o n p/\(Ao o n p=0->dst o p<=dst o n)))
theorem IH{a b:Int}(ha:0<a)(h:0<a*b):0<b:=by
 rcases w7 0 b with hb|hb
 ·exact hb
 ·have:=kC (tU ha) (show 0<=-b by omega);rw[Int.mul_neg]at this;omega
theorem FE{a b:Int}(ha:0<a)(h:0<=a*b):0<=b:=by
 rcases w7 b 0 with hb|hb
 ·have:=uB ha (show 0< -b by omega);rw[Int.mul_neg]at this;omega
 ·exact hb
theorem XG{a b:Int}(ha:0<a)(h:a*b=0):b=0:=by
 rcases w6.1 h with h|h
 ·omega
 ·exact h
theorem jK{o n p g:Pt}{Q:List Pt}(hg:∀q∈Q++[p],q≠o->0<DP g o q)(h:dA o Q n):dA o (Q++[p]) (QS o n p):=by
 unfold QS;by_cases hp:p=o
 ·rw[dX hp];rcases h with⟨h1,h2⟩|⟨h1,h2,h3⟩
  ·exact .inl ⟨h1,λq hq=>by rcases fU.1 hq with hq|hq;exact h2 q hq;simp at hq;rw[hq,hp]⟩
  ·exact .inr ⟨by simp[h1],h2,λq hq=>by rcases fU.1 hq with hq|hq;exact h3 q hq;simp at hq;exact .inl (by rw[hq,hp])⟩
 ·rw[dW hp];have gp:=hg p (by simp) hp;rcases h with⟨h1,h2⟩|⟨h1,h2,h3⟩
  ·rw[dX (.inl h1)];refine .inr ⟨by simp,hp,λq hq=>?_⟩;rcases fU.1 hq with hq|hq
   ·exact .inl (h2 q hq)
   ·simp at hq;subst hq;exact .inr ⟨by rw[E4];omega,λ_=>by omega⟩
  ·have gn:=hg n (by simp[h1]) h2;by_cases hc:n=o\/Ao o n p<0\/(Ao o n p=0/\dst o n<dst o p)
   ·rw[dX hc];refine .inr ⟨by simp,hp,λq hq=>?_⟩;rcases fU.1 hq with hq|hq
    ·by_cases hqo:q=o
     ·exact .inl hqo
     refine .inr ?_;have gq:=hg q (by simp[hq]) hqo;rcases h3 q hq with k|⟨k1,k2⟩
     ·exact absurd k hqo
     have pl:=ZE g o p n q;have sw:Ao o p n= -Ao o n p:=by unfold Ao;grind
     rcases hc with hc|hc|⟨hc,hd⟩
     ·exact absurd hc h2
     ·have a1:0<DP g o q*Ao o p n:=uB gq (by omega);have a2:0<=DP g o p*Ao o n q:=kC (by omega) k1;have:=IH gn (b:=Ao o p q) (by omega);exact⟨by omega,λe=>by omega⟩
     ·rw[sw,hc]at pl;have a2:0<=DP g o p*Ao o n q:=kC (by omega) k1;refine⟨FE gn (b:=Ao o p q) (by omega),λe=>?_⟩;rw[e]at pl;have:=XG gp (b:=Ao o n q) (by omega);have:=k2 this;omega
    ·simp at hq;subst hq;exact .inr ⟨by rw[E4];omega,λ_=>by omega⟩
   ·rw[dW hc];refine .inr ⟨by simp[h1],h2,λq hq=>?_⟩;rcases fU.1 hq with hq|hq
    ·exact h3 q hq
    ·simp at hq;subst hq;refine .inr ⟨by omega,λe=>?_⟩;omega
theorem Yu{o g:Pt}:∀(R Q:List Pt)(n:Pt),(∀q∈Q++R,q≠o->0<DP g o q)->dA o Q n->dA o (Q++R) (R.foldl (QS o) n)
 |[],Q,n,_,h=>by simpa using h
 |p::R,Q,n,hg,h=>by
  have e:Q++p::R=(Q++[p])++R:=by simp
  rw[e]at hg⊢;exact Yu R (Q++[p]) _ hg (jK (λq hq=>hg q (by simp at hq⊢;rcases hq with h|h<;>simp[h])) h)
theorem Wq{P:List Pt}{o:Pt}(ho:o∈P)(h:Yt P o):(H1 o P=o/\∀p∈P,p=o)\/Edge P o (H1 o P):=by
 obtain⟨g,hg⟩:=h;have hs:dA o P (H1 o P):=by have:=Yu P [] o (by simpa using hg) (.inl ⟨rfl,by simp⟩);rw[kN]at this;exact this
 rcases hs with hs|⟨h1,h2,h3⟩
 ·exact .inl hs
 ·refine .inr ⟨λe=>h2 e.symm,ho,h1,λp hp=>?_,λp hp e=>?_⟩
  ·rcases h3 p hp with rfl|⟨k,_⟩
   ·rw[EM];omega
   ·exact k
  ·have dn:0<dst (H1 o P) o:=LL h2;have e2:C5 (H1 o P) o p=dst (H1 o P) o-C5 o (H1 o P) p:=by unfold C5 dst;grind
   by_cases hp':p=o
   ·subst hp';have:C5 p (H1 p P) p=0:=by unfold C5;grind
    omega
   have gp:=hg p hp hp';have gn:=hg _ h1 h2;have hd:dst o p<=dst o (H1 o P):=by
    rcases h3 p hp with k|⟨_,k⟩
    ·exact absurd k hp'
    ·exact k e
   have s1:dst o p=dst p o:=by unfold dst;grind
   have s2:dst o (H1 o P)=dst (H1 o P) o:=by unfold dst;grind
   have c1:=QR (g:=g) e;have c2:=sM (g:=g) e;have q1:=uB gp dn;have d0:=IH gn (b:=C5 o (H1 o P) p) (by omega);refine⟨by omega,?_⟩;rw[e2];generalize DP g o p=x at*;generalize DP g o (H1 o P)=y at*;generalize dst (H1 o P) o=D at*;generalize dst p o=α at*;generalize C5 o (H1 o P) p=t at*;have hxy:x<=y:=by
    rcases w7 y x with hlt|hle
    ·have a1:y*y<x*x:=by have:=Int.mul_lt_mul_of_pos_left hlt gn;have:=Int.mul_lt_mul_of_pos_right hlt gp;omega
     have a2:=Int.mul_lt_mul_of_pos_right a1 dn;have a3:y*y*α<=y*y*D:=Int.mul_le_mul_of_nonneg_left (by omega) (NW y);omega
    ·exact hle
   have a4:x*D<=y*D:=Int.mul_le_mul_of_nonneg_right hxy (by omega);have a5:0<=y*(D-t):=by rw[Int.mul_sub];omega
   exact FE gn a5
theorem eq3{A B t:Int}(ht:0<=t)(h1:t<=A)(h2:t<=B)(pa:0<A)(pb:0<B)(la:t*t=A*B):A=t/\B=t:=by
 have k1:t*t<=t*B:=Int.mul_le_mul_of_nonneg_left (by omega) (by omega);have k2:t*t<=A*t:=Int.mul_le_mul_of_nonneg_right (by omega) (by omega);have k3:0<=B*(t-A):=by rw[Int.mul_sub,Fe B A,Fe B t];omega
 have k4:0<=A*(t-B):=by rw[Int.mul_sub];omega
 have k5:=FE pb k3;have k6:=FE pa k4;omega
theorem Edge.pred{P:List Pt}{a b w:Pt}(h1:Edge P a w)(h2:Edge P b w):a=b:=by
 have l1:=h1.left b h2.mv;have l2:=h2.left a h1.mv;have e1:Ao b w a= -Ao a w b:=by unfold Ao;grind
 have z1:Ao a w b=0:=by omega
 have z2:Ao b w a=0:=by omega
 have s1:=h1.seg b h2.mv z1;have s2:=h2.seg a h1.mv z2;have la:=ZD a w b;have pa:=LL h1.ne;have pb:=LL h2.ne;have i1:C5 a w b=dst a w-C5 w a b:=by unfold C5 dst;grind
 have i2:C5 b w a=dst b w-C5 w a b:=by unfold C5 dst;grind
 have i3:dst a b=dst a w+dst b w-2*C5 w a b:=by unfold C5 dst;grind
 rw[z1]at la;generalize dst a w=A at*;generalize dst b w=B at*;generalize C5 w a b=t at*;have:=eq3 (A:=A) (B:=B) (t:=t) (by omega) (by omega) (by omega) pa pb (by omega);exact Wp (by omega)
def pa(l:List Pt)(i:Nat):Pt:=l.getD i (0,0)
theorem De{l:List Pt}{i:Nat}(h:i<l.length):pa l i=l[i]:=by unfold pa;rw[cY,dQ h];rfl
theorem Bo{l:List Pt}{i:Nat}(h:i<l.length):pa l i∈l:=by rw[De h];exact y7 h
theorem Jf{l:List Pt}{p:Pt}(h:p∈l):∃i,i<l.length/\pa l i=p:=by obtain⟨i,hi,e⟩:=List.mem_iff_getElem.1 h;exact⟨i,hi,by rw[De hi,e]⟩
theorem Qb{l:List Pt}(h:l.Nodup){i j:Nat}(hi:i<l.length)(hj:j<l.length)(e:pa l i=pa l j):i=j:=by
 rw[De hi,De hj]at e;have:=List.pairwise_iff_getElem.1 h;rcases Nat.lt_trichotomy i j with h|h|h
 ·exact absurd e (this i j hi hj h)
 ·exact h
 ·exact absurd e.symm (this j i hj hi h)
theorem I8{l m:List Pt}{i:Nat}(h:i<l.length):pa (l++m) i=pa l i:=by rw[De (by simp;omega),De h,List.getElem_append_left h]
theorem M5{l m:List Pt}{i:Nat}(h1:l.length<=i)(h:i<l.length+m.length):pa (l++m) i=pa m (i-l.length):=by rw[De (by simp;omega),De (by omega),List.getElem_append_right h1]
theorem Me:∀(l:List Pt)(P:List Pt),l.Nodup->(∀p∈l,p∈P)->l.length<=P.length
 |[],_,_,_=>by simp
 |a::l,P,h,hs=>by
  rw[List.nodup_cons]at h;have ha:=hs a (by simp);have:=Me l (P.erase a) h.2 λp hp=>(List.mem_erase_of_ne (by rintro rfl;exact h.1 hp)).2 (hs p (by simp[hp]))
  rw[List.length_erase_of_mem ha]at this;have:=List.length_pos_of_mem ha;simp;omega
def Conv(l:List Pt):Prop:=∀i k,i<l.length->k<l.length->k≠i->k≠(i+1)%l.length->0<Ao (pa l i) (pa l ((i+1)%l.length)) (pa l k)
structure HGood(P:List Pt)(f o:Pt)(out:List Pt):Prop where
 len:0<out.length
 hd:pa out 0=f
 lst:pa out (out.length-1)=o
 nd:out.Nodup
 sub:∀p∈out,p∈P
 ext:∀p∈out,Yt P p
 edge:∀i,i+1<out.length->Edge P (pa out i) (pa out (i+1))
structure HullOK(P r:List Pt):Prop where
 nd:r.Nodup
 sub:∀p∈r,p∈P
 len:0<r.length
 conv:3<=r.length->Conv r
def JO(f p:Pt):Pt:=if p.2<f.2\/(p.2=f.2/\p.1<f.1)then p else f
def NX(a:Pt)(P:List Pt):Pt:=P.foldl JO a
def Uf(f p:Pt):Prop:=f.2<p.2\/(f.2=p.2/\f.1<=p.1)
theorem Wr:∀(P:List Pt)(a:Pt),NX a P∈a::P/\∀p∈a::P,Uf (NX a P) p
 |[],a=>⟨by simp[NX],λp hp=>by simp at hp;subst hp;exact .inr ⟨rfl,Int.le_refl _⟩⟩
 |q::P,a=>by
  obtain⟨h1,h2⟩:=Wr P (JO a q);have e:NX a (q::P)=NX (JO a q) P:=rfl;rw[e];have hs:(JO a q=a\/JO a q=q)/\Uf (JO a q) a/\Uf (JO a q) q:=by unfold JO Uf;split<;>refine⟨by simp,?_,?_⟩<;>omega
  refine⟨?_,λp hp=>?_⟩
  ·rcases fP.1 h1 with h|h
   ·rcases hs.1 with k|k<;>rw[h,k]<;>simp
   ·simp[h]
  ·have h0:=h2 (JO a q) (by simp);rcases fP.1 hp with rfl|hp
   ·have:=hs.2.1;unfold Uf at*;omega
   ·rcases fP.1 hp with rfl|hp
    ·have:=hs.2.2;unfold Uf at*;omega
    ·exact h2 p (by simp[hp])
theorem sO{P:List Pt}{f:Pt}(hb:∀p∈P,CD p)(hf:f∈P)(h:∀p∈P,Uf f p):Yt P f:=by
 refine⟨(1,10000),λp hp hne=>?_⟩;have b1:=hb p hp;have b2:=hb f hf;have b3:=h p hp;have:¬(p.1=f.1/\p.2=f.2):=λe=>hne (Prod.ext e.1 e.2)
 unfold DP;unfold CD at b1 b2;unfold Uf at b3;simp only;omega
theorem jL{P:List Pt}{f:Pt}(hf:f∈P)(hx:Yt P f):HGood P f f [f]:=⟨by simp,rfl,rfl,by simp,by simp[hf],by simp[hx],λi hi=>by simp at hi⟩
section
open Go
attribute [local irreducible] Ax BO BB Bj BC Bk AY BD BK Cq
def Co(l:List Pt):List (Pt×Pt):=(List.range l.length).map λi=>(pa l i,pa l ((i+1)%l.length))
def oZ(e:Pt×Pt):List AV:=[.agg [.i e.1.1,.i e.1.2],.agg [.i e.2.1,.i e.2.2]]
theorem ZX{l:List Pt}{i:Nat}(h:i<l.length):(Co l)[i]? =some (pa l i,pa l ((i+1)%l.length)):=by unfold Co;rw[nL,List.getElem?_range h];rfl
theorem MU(l:List Pt):(Co l).length=l.length:=by unfold Co;simp
theorem kU(l:List Pt)(f:Bool)(hlen:l.length<=1000000000):T8 Tryz.prog 214 [] [.ro [.sl 2 f (l.map Cz) [.i 0,.i 0]] 0] ((Co l).map oZ):=by
 refine XS (Aj (P:=Tryz.prog)) _ x214.hf x214.hc x214.hn (by simp[x214,Ah,gs]) (kM rfl) λy V hOK hTS hY hYD=>?_
 have hS:=Aj (P:=Tryz.prog);dsimp only[x214,Ah,BW];refine go hS (fc hTS f0) ?_;refine IB (λx:Nat×Nat=>⟨[(7,.i x.1),(6,.i l.length),(5,.sl 2 f (l.map Cz) [.i 0,.i 0]),(1,.ro [.sl 2 f (l.map Cz) [.i 0,.i 0]] 0),(gs,CL x.1),(0,.clo (.yield y) [] [])],[],x.2⟩)
  (λx=>x.1<=l.length) (λx=>l.length-x.1) (0,50) ?_ ?_ ?_
 ·simp
 ·refine Le.of ?_ ?_ (by simp)<;>(simp only[go_sem,seval];try simp)
 ·rintro⟨i,c⟩ hi;simp only at hi;refine go hS (fc hTS f0) ?_;refine Sv ((i:Int)<l.length) (by simp only[go_sem,seval]<;>eq_refl) (by first|simp only[Bool.decide_or,Bool.decide_and,decide_not]|simp) (λhi1=>?_) (λhi1=>?_)
  ·have hi':i<l.length:=by omega
   have hm:(i+1)%l.length<l.length:=sF _ (by omega);have hrow:A6 (l.map Cz) [.i 0,.i 0] i=[.i (pa l i).1,.i (pa l i).2]:=QO l i;have hrow2:A6 (l.map Cz) [.i 0,.i 0] ((i+1)%l.length)=[.i (pa l ((i+1)%l.length)).1,.i (pa l ((i+1)%l.length)).2]:=QO l _;have hmod:((i:Int)+1).tmod (l.length:Int)=(((i+1)%l.length:Nat):Int):=by rw[Int.tmod_eq_emod_of_nonneg (by omega)];rfl
   have hton:((((i+1)%l.length:Nat)):Int).toNat=(i+1)%l.length:=sI _;refine go hS (fc hTS (fc hrow f0)) ?_;refine hYD 10 (args:=oZ (pa l i,pa l ((i+1)%l.length))) rfl (by simp only[go_sem,seval,hTS]<;>eq_refl) (by simp only[go_sem,seval,hTS,hrow,hrow2,hmod,hton]<;>eq_refl) (by decide) ?_ (by simp only[go_sem,seval]<;>eq_refl) (by simp only[go_sem,seval]<;>eq_refl) (by simp only[go_sem,seval]<;>eq_refl) (by simp only[go_sem,seval,Am.oZ]<;>eq_refl) ?_ (by simp only[go_sem,seval,hTS]<;>eq_refl) ?_ ?_ (by simp only[go_sem,seval,hTS]<;>eq_refl) ?_ ?_
   ·exact⟨⟨by omega,by omega⟩,by omega,by omega,by omega⟩
   ·rw[nL,ZX hi'];rfl
   ·exact yT
   ·refine go hS (fc hTS f0) ?_;refine Oo (by simp only[go_sem,seval]<;>eq_refl) ?_;refine go hS (fc hTS f0) ?_;refine JL (i+1,c+50) (by show i+1<=_;omega) (by show l.length-(i+1)<l.length-i;omega) (Le.of ?_ ?_ ?_)
    ·simp only[go_sem,seval]<;>simp
    ·simp only[go_sem,seval]
    ·simp
   ·exact yT
   ·refine go hS (fc hTS f0) ?_;refine L9 (by simp only[go_sem,seval]<;>eq_refl) ?_;refine go hS (fc hTS f0) ?_;refine Sw ?_;simp only[go_sem,seval]
  ·refine go hS (fc hTS f0) ?_;refine nP ?_;have:i=l.length:=by omega
   simp only[go_sem,seval,this,mW,MU]
def W4:Spec|[.sl z f rows d]=>some (True,.clo (.func 214) [] [.ro [.sl z f rows d] 0])|_=>none
theorem eV:AG Tryz.prog 207 W4:=⟨x207.ok,by
 intro args vc r h hv;unfold W4 at h;split at h
 ·cases h
  refine O4 (Aj (P:=Tryz.prog)) _ x207.hf x207.hc x207.hn (kM rfl) λ_=>?_
  have hS:=Aj (P:=Tryz.prog);dsimp only[x207,Ah,BW];refine go hS f0 ?_
  first|refine Ma (by simp only[go_sem,seval]<;>eq_refl) (by simp only[go_sem,seval]) (by simp only[go_sem,seval]) ?_ rfl|refine Mb (by simp only[go_sem,seval]<;>eq_refl) (by simp only[go_sem,seval]) (by simp only[go_sem,seval]) ?_ rfl
  simp only[go_sem,seval]
 ·simp at h⟩
theorem Tz{E:Type}{xs:List E}{g:E->List AV}{k:Nat}{args:List AV}(h:(xs.map g)[k]? =some args):∃y,xs.drop k=y::xs.drop (k+1)/\args=g y/\k<xs.length:=by
 rw[nL]at h;cases hk:xs[k]? with
 |none=>rw[hk]at h;cases h
 |some y=>rw[hk]at h;obtain⟨h1,h2⟩:=fO.1 hk;exact⟨y,by rw[jW h1,h2],(yJ h).symm,h1⟩
theorem W5{E:Type}{xs:List E}{g:E->List AV}:xs.drop (xs.map g).length=[]:=by rw[mW];exact sW
end
section
open Go
attribute [local irreducible] Ax BO BB Bj BC Bk AY BD BK Cq
attribute [local go_sem] W4
def A3(N:Nat)(s105:List (Int×Int)):Nat->Int->Option (Sum Unit Int)|0,_=>none|n+1,eB=>bif decide (eB<(s105.length:Int))then((A7 s105 eB).bind λ(x114,x115)=>(IO N x114 x115).bind λdm=>bif dm then(some (.inr eB))else(gd (Af (eB+1))<|A3 N s105 n (eB+1)))else(some (.inl ()))
def CI(N:Nat)(s105:List (Int×Int)):Option Int:=(A3 N s105 N 0).bind λcj=>match cj with|.inl ()=>(some (-1))|.inr gm=>(some gm)
@[go_sem] def cJ(N:Nat):Spec:=p0<|pS Aq λs105=>pL 121<|pE<|pE<|pF (CI N s105) 0 λr=>.i r
theorem XA(N:Nat):AG Tryz.prog 183 (cJ N):=by
 refine Ar x183.ok<|AF λs105=>Kn<|Ad<|Ad<|As λr h=>wx x183 (Ab (xY N)<|Aj) λ_ hS F=>?_
 dsimp only[x183,Ah,Aq];unfold CI at h;obtain⟨cj,gu,h⟩:=un h;refine go hS F ?_;refine Bz cj (λz:Nat=>⟨[],[],z⟩) (λz=>(.inl ():Sum Unit Int)) (.x 0) ?_ ?_
 ·refine Bp (λn (y:Int×Nat)=>A3 N s105 n y.1) (λy=>⟨[(0,BP s105),(1,.clo (.func 121) [] []),(7,.i (s105.length:Int)),(8,.i y.1)],[],y.2⟩) (0,2) gu (Ch F) ?_;rintro n ⟨eB,fp⟩ af;simp only[A3]at af;refine An hS F af (λ_ af=>?_) (λ_ af=>?_)
  ·obtain⟨⟨x114,x115⟩,fh,af⟩:=un af;obtain⟨ib,F⟩:=Cb Cz fh F;obtain⟨dm,ej,af⟩:=un af;replace F:=fc ej F;refine An hS F af (λ_ af=>?_) (λ_ af=>?_)
   ·obtain rfl:=yJ af;exact Ai hS F h
   ·obtain⟨ii,af⟩:=un af;exact Cd hS F (n,eB+1,fp+1+1+1+1) af
  ·exact B4 hS F (fp+1) af
 ·rintro iy rfl;exact Ai hS F h
def Bm(N:Nat)(Tj:List (Int×Int)):Option Bool:=(CI N Tj).bind λdl=>some (decide (0<=dl))
@[go_sem] def cM(N:Nat):Spec:=p0<|pS Aq λTj=>pL 121<|pE<|pE<|pF (Bm N Tj) false λr=>.b r
theorem Rg(N:Nat):AG Tryz.prog 120 (cM N):=by
 refine Ar x120.ok<|AF λTj=>Kn<|Ad<|Ad<|As λr h=>wx x120 (Ab (XA N)<|Aj) λ_ hS F=>?_
 dsimp only[x120,Ah,Aq];unfold Bm at h;obtain⟨dl,ei,h⟩:=un h;exact Ai hS (fc ei F) h
def Je(N:Nat)(bl:Int)(bj:Int)(x129:Int)(x130:Int)(x131:Int)(x132:Int):Option Bool:=(Hr N x129 x130 x131 x132 bl bj).bind λdh=>some (decide (0<dh))
@[go_sem] def AdP(N:Nat):Spec:=p0<|pG<|pI λbl=>pI λbj=>pE<|pO<|pI λx129=>pI λx130=>pE<|pO<|pI λx131=>pI λx132=>pE<|pE<|pF (Je N bl bj x129 x130 x131 x132) false λr=>.b r
theorem yA(N:Nat):AG Tryz.prog 208 (AdP N):=by
 refine Ar x208.ok<|Aw<|Aa λbl=>Aa λbj=>Ad<|Ii<|Aa λx129=>Aa λx130=>Ad<|Ii<|Aa λx131=>Aa λx132=>Ad<|Ad<|As λr h=>wx x208 (Ab (cH N)<|Aj) λ_ hS F=>?_
 dsimp only[x208,Ah];unfold Je at h;obtain⟨dh,eh,h⟩:=un h;exact Ai hS (fc eh F) h
def AQ(N:Nat)(s135:List (Int×Int))(am:Int)(ak:Int)(aj:Int)(ai:Int):Nat->Int->Option (Sum Unit Int)|0,_=>none|n+1,x147=>bif decide (x147<(s135.length:Int))then((A7 s135 x147).bind λ(x148,x149)=>(Je N x148 x149 am ak aj ai).bind λdg=>bif dg then(some (.inr x147))else(gd (Af (x147+1))<|AQ N s135 am ak aj ai n (x147+1)))else(some (.inl ()))
def CJ(N:Nat)(s135:List (Int×Int))(am:Int)(ak:Int)(aj:Int)(ai:Int):Option Int:=(AQ N s135 am ak aj ai N 0).bind λci=>match ci with|.inl ()=>(some (-1))|.inr gj=>(some gj)
@[go_sem] def cN(N:Nat):Spec:=p0<|pS Aq λs135=>pL 208<|pO<|pI λam=>pI λak=>pE<|pO<|pI λaj=>pI λai=>pE<|pE<|pE<|pF (CJ N s135 am ak aj ai) 0 λr=>.i r
theorem XB(N:Nat):AG Tryz.prog 183 (cN N):=by
 refine Ar x183.ok<|AF λs135=>Kn<|Ii<|Aa λam=>Aa λak=>Ad<|Ii<|Aa λaj=>Aa λai=>Ad<|Ad<|Ad<|As λr h=>wx x183 (Ab (yA N)<|Aj) λ_ hS F=>?_
 dsimp only[x183,Ah,Aq];unfold CJ at h;obtain⟨ci,gu,h⟩:=un h;refine go hS F ?_;refine Bz ci (λz:Nat=>⟨[],[],z⟩) (λz=>(.inl ():Sum Unit Int)) (.x 0) ?_ ?_
 ·refine Bp (λn (y:Int×Nat)=>AQ N s135 am ak aj ai n y.1) (λy=>⟨[(0,BP s135),(1,.clo (.func 208) [] [.ro [.i am,.i ak] 0,.ro [.i aj,.i ai] 0]),(7,.i (s135.length:Int)),(8,.i y.1)],[],y.2⟩) (0,2) gu (Ch F) ?_;rintro n ⟨x147,fo⟩ af;simp only[AQ]at af;refine An hS F af (λ_ af=>?_) (λ_ af=>?_)
  ·obtain⟨⟨x148,x149⟩,fg,af⟩:=un af;obtain⟨g9,F⟩:=Cb Cz fg F;obtain⟨dg,ee,af⟩:=un af;replace F:=fc ee F;refine An hS F af (λ_ af=>?_) (λ_ af=>?_)
   ·obtain rfl:=yJ af;exact Ai hS F h
   ·obtain⟨ii,af⟩:=un af;exact Cd hS F (n,x147+1,fo+1+1+1+1) af
  ·exact B4 hS F (fo+1) af
 ·rintro iw rfl;exact Ai hS F h
def B0(N:Nat)(bi:List (Int×Int))(bq:Int)(bp:Int)(bo:Int)(bn:Int):Option Bool:=(CJ N bi bq bp bo bn).bind λdb=>some (decide (0<=db))
@[go_sem] def cQ(N:Nat):Spec:=p0<|pS Aq λbi=>pL 208<|pO<|pI λbq=>pI λbp=>pE<|pO<|pI λbo=>pI λbn=>pE<|pE<|pE<|pF (B0 N bi bq bp bo bn) false λr=>.b r
theorem XC(N:Nat):AG Tryz.prog 120 (cQ N):=by
 refine Ar x120.ok<|AF λbi=>Kn<|Ii<|Aa λbq=>Aa λbp=>Ad<|Ii<|Aa λbo=>Aa λbn=>Ad<|Ad<|Ad<|As λr h=>wx x120 (Ab (XB N)<|Aj) λ_ hS F=>?_
 dsimp only[x120,Ah,Aq];unfold B0 at h;obtain⟨db,d9,h⟩:=un h;exact Ai hS (fc d9 F) h
def Dv(N:Nat)(l165:List (Int×Int))(x182:Int)(x183:Int)(x184:Int):Nat->Int->Option (Sum Unit Bool)|0,_=>none|n+1,x191=>bif decide (x191<(l165.length:Int))then((A7 l165 x191).bind λ(x192,x193)=>gd (((decide (x191≠x182))&&(decide (x191≠(x182+1).tmod (l165.length:Int))))=true->(0<=(x182+1).tmod (l165.length:Int)/\(x182+1).tmod (l165.length:Int)<(l165.length:Int)))<|gd (((decide (x191≠x182))&&(decide (x191≠(x182+1).tmod (l165.length:Int))))=true->((Hr N x183 x184 ((l165.getD ((x182+1).tmod (l165.length:Int)).toNat (0,0)).1) ((l165.getD ((x182+1).tmod (l165.length:Int)).toNat (0,0)).2) x192 x193).isSome=true))<|bif ((decide (x191≠x182))&&(decide (x191≠(x182+1).tmod (l165.length:Int))))&&(decide ((Hr N x183 x184 ((l165.getD ((x182+1).tmod (l165.length:Int)).toNat (0,0)).1) ((l165.getD ((x182+1).tmod (l165.length:Int)).toNat (0,0)).2) x192 x193).getD 0<=0))then(some (.inr false))else(gd (Af (x191+1))<|Dv N l165 x182 x183 x184 n (x191+1)))else(some (.inl ()))
def D7(N:Nat)(l165:List (Int×Int)):Nat->Int->Option (Sum Unit Bool)|0,_=>none|n+1,x182=>bif decide (x182<(l165.length:Int))then((A7 l165 x182).bind λ(x183,x184)=>gd (Af (x182+1))<|gd ((l165.length:Int)≠0)<|(Dv N l165 x182 x183 x184 N 0).bind λce=>match ce with|.inl ()=>(gd (Af (x182+1))<|D7 N l165 n (x182+1))|.inr gi=>(some (.inr gi)))else(some (.inl ()))
def Cy(N:Nat)(l165:List (Int×Int)):Option Bool:=gd ((!((decide ((l165.length:Int)<3))||(decide (8<(l165.length:Int)))))=true->((Bm N l165).isSome=true))<|bif ((decide ((l165.length:Int)<3))||(decide (8<(l165.length:Int))))||((Bm N l165).getD false)then(some false)else((D7 N l165 N 0).bind λb9=>match b9 with|.inl ()=>(some true)|.inr gh=>(some gh))
@[go_sem] def AdQ(N:Nat):Spec:=p0<|pS Aq λl165=>pE<|pF (Cy N l165) false λr=>.b r
theorem P8(N:Nat):AG Tryz.prog 119 (AdQ N):=by
 refine Ar x119.ok<|AF λl165=>Ad<|As λr h=>wx x119 (Ab (Rg N)<|Ab (cH N)<|Aj) λ_ hS F=>?_
 dsimp only[x119,Ah,Aq];unfold Cy at h;obtain⟨fq,h⟩:=un h;refine An hS F h (λ_ h=>?_) (λ_ h=>?_)
 ·exact Ai hS F h
 ·obtain⟨b9,gt,h⟩:=un h;refine go hS F ?_;refine Bz b9 (λz:Nat=>⟨[],[],z⟩) (λz=>(.inl ():Sum Unit Bool)) (.x 0) ?_ ?_
  ·refine Bp (λn (y:Int×Nat)=>D7 N l165 n y.1) (λy=>⟨[(0,BP l165),(20,BP l165),(21,.i (l165.length:Int)),(22,.i y.1)],[],y.2⟩) (0,3) gt (Ch F) ?_;rintro n ⟨x182,bf⟩ ah;simp only[D7]at ah;refine An hS F ah (λ_ ah=>?_) (λ_ ah=>?_)
   ·obtain⟨⟨x183,x184⟩,e9,ah⟩:=un ah;obtain⟨g8,F⟩:=Cb Cz e9 F;obtain⟨i7,ig,ah⟩:=un ah;obtain⟨ce,im,ah⟩:=un ah;refine go hS F ?_;refine Bz ce (λz:Nat=>⟨[(0,BP l165),(20,BP l165),(21,.i (l165.length:Int)),(22,.i x182)],[],z⟩) (λz=>(.inl ():Sum Unit Bool)) (.x 2) ?_ ?_
    ·refine Bp (λn (y:Int×Nat)=>Dv N l165 x182 x183 x184 n y.1) (λy=>⟨[(0,BP l165),(3,.i x182),(4,.box (503,bf+1+1) 0),(5,.i ((x182+1).tmod (l165.length:Int))),(20,BP l165),(21,.i (l165.length:Int)),(22,.i x182),(32,BP l165),(33,.i (l165.length:Int)),(34,.i y.1)],[(.c (503,bf+1+1) 0,.i x183),(.c (503,bf+1+1) 1,.i x184)],y.2⟩) (0,bf+1+1+1+1) im (Ch F) ?_;rintro n ⟨x191,fm⟩ an;simp only[Dv]at an;refine An hS F an (λ_ an=>?_) (λ_ an=>?_)
     ·obtain⟨⟨x192,x193⟩,e8,an⟩:=un an;obtain⟨gz,F⟩:=Cb Cz e8 F;obtain⟨i5,iz,an⟩:=un an;refine An hS F an (λ_ an=>?_) (λ_ an=>?_)
      ·obtain rfl:=yJ an;obtain rfl:=yJ ah;exact Ai hS F h
      ·obtain⟨il,an⟩:=un an;exact Cd hS F (n,x191+1,fm+1+1+1+1) an
     ·exact B4 hS F (fm+1) an
    ·rintro gv rfl;obtain⟨ij,ah⟩:=un ah;exact Cd hS F (n,x182+1,gv+1) ah
   ·exact B4 hS F (bf+1) ah
  ·rintro iv rfl;exact Ai hS F h
def EK(N:Nat)(aa:List (Int×Int)):List ((Int×Int)×(Int×Int))->Int->Option (Sum Unit Int)|[],au=>some (.inl ())|((cr,cq),(co,cn))::ys,au=>(B0 N aa cr cq co cn).bind λda=>bif !da then(some (.inr au))else(gd (Af (au+1))<|EK N aa ys (au+1))
def HH(N:Nat)(l205:List (Int×Int))(aa:List (Int×Int)):Option Int:=gd (l205.length<=1000000000)<|(EK N aa (Co l205) 0).bind λbm=>match bm with|.inl ()=>(some (-1))|.inr gg=>(some gg)
@[go_sem] def AdR(N:Nat):Spec:=p0<|pS Aq λl205=>pS Aq λaa=>pE<|pF (HH N l205 aa) 0 λr=>.i r
theorem yC(N:Nat):AG Tryz.prog 199 (AdR N):=by
 refine Ar x199.ok<|AF λl205=>AF λaa=>Ad<|As λr h=>wx x199 (Ab eV<|Ab (XC N)<|Aj) λ_ hS F=>?_
 dsimp only[x199,Ah,Aq];unfold HH at h;obtain⟨fq,h⟩:=un h;obtain⟨bm,gt,h⟩:=un h;refine go hS F ?_;refine Bz bm (λz:Nat=>⟨[(4,.box (1,1) 0)],[(.c (1,1) 0,.i 0)],z⟩) (λz=>(.inl ():Sum Unit Int)) .n ?_ ?_
 ·refine Ac6 (λy:Nat×Int×Nat=>([(.c (100,2) 0,.i y.2.1),(.c (1,1) 0,.i 0),(.c (0,1) 0,BP aa)],y.2.2)) (λy=>EK N aa ((Co l205).drop y.1) y.2.1=some bm/\y.1<=(Co l205).length) (λy=>y.1) (0,0,3) (ev F) (kU l205 false (by assumption)) x214.ok ⟨rfl,rfl⟩ (by simp[x199,Ah]) (by intro a ha;obtain⟨y,_,rfl⟩:=oY.1 ha;exact⟨rfl,rfl⟩) ⟨gt,rB _⟩ rfl ?_ ?_ ?_
  ·exact Ch F
  ·rintro l ⟨n,au,cm⟩ ⟨ah,hle⟩ args ic;obtain⟨⟨⟨cr,cq⟩,⟨co,cn⟩⟩,gw,rfl,hlt⟩:=Tz ic;simp only[gw,EK]at ah;clear ic gw;simp only[oZ,Jd];obtain⟨da,d8,ah⟩:=un ah;replace F:=fc d8 F;refine An hS F ah (λ_ ah=>?_) (λ_ ah=>?_)
   ·obtain rfl:=yJ ah;exact Ai hS F h
   ·obtain⟨ie,ah⟩:=un ah;exact grg hS F (n+1,au+1,cm+1+1+1+1+1) ah
  ·rintro⟨n,au,cm⟩ ⟨ah,hle⟩ hk;rw[show n=_ from hk,W5]at ah;simp only[EK]at ah;exact B4 hS F cm ah
 ·rintro ir rfl;exact Ai hS F h
def Hs(N:Nat)(az:List (Int×Int))(av:List (Int×Int)):Option (Int×Int×Bool):=(Cy N az).bind λb7=>gd ((!(!b7))=true->((Cy N av).isSome=true))<|bif (!b7)||(!((Cy N av).getD false))then(some (0,0,false))else((HH N az av).bind λbz=>bif decide (0<=bz)then(some (0,bz,true))else((HH N av az).bind λbw=>bif decide (0<=bw)then(some (1,bw,true))else(some (0,0,false))))
@[go_sem] def AdS(N:Nat):Spec:=p0<|pS Aq λaz=>pS Aq λav=>pE<|pF (Hs N az av) (0,0,false) λr=>.tup [.i r.1,.i r.2.1,.b r.2.2]
theorem yD(N:Nat):AG Tryz.prog 184 (AdS N):=by
 refine Ar x184.ok<|AF λaz=>AF λav=>Ad<|As λr h=>wx x184 (Ab (P8 N)<|Ab (yC N)<|Aj) λ_ hS F=>?_
 dsimp only[x184,Ah,Aq];unfold Hs at h;obtain⟨b7,d7,fq,h⟩:=un h;replace F:=fc d7 F;refine An hS F h (λ_ h=>?_) (λ_ h=>?_)
 ·exact Ai hS F h
 ·obtain⟨bz,dz,h⟩:=un h;replace F:=fc dz F;refine An hS F h (λ_ h=>?_) (λ_ h=>?_)
  ·exact Ai hS F h
  ·obtain⟨bw,dw,h⟩:=un h;replace F:=fc dw F;refine An hS F h (λ_ h=>?_) (λ_ h=>?_)
   ·exact Ai hS F h
   ·exact Ai hS F h
def EB(N:Nat)(bg:List (Int×Int))(ay:List (Int×Int)):Option Bool:=(Hs N bg ay).bind λ(gc,fr,cz)=>(Cy N bg).bind λbv=>gd (bv=true->((Cy N ay).isSome=true))<|some ((bv&&((Cy N ay).getD false))&&(!cz))
@[go_sem] def AdT(N:Nat):Spec:=p0<|pS Aq λbg=>pS Aq λay=>pE<|pF (EB N bg ay) false λr=>.b r
theorem yG(N:Nat):AG Tryz.prog 125 (AdT N):=by
 refine Ar x125.ok<|AF λbg=>AF λay=>Ad<|As λr h=>wx x125 (Ab (yD N)<|Ab (P8 N)<|Aj) λ_ hS F=>?_
 dsimp only[x125,Ah,Aq];unfold EB at h;obtain⟨⟨gc,fr,cz⟩,du,h⟩:=un h;obtain⟨bv,dt,fq,h⟩:=un h;exact Ai hS (fc dt (fc du F)) h
def GF(N:Nat)(l243:List (Int×Int))(ab:Int)(ae:Int):Nat->Int->(List (Int×Int))->Option ((List (Int×Int)))|0,_,_=>none|n+1,x256,l257=>bif decide (x256<(l243.length:Int))then((A7 l257 x256).bind λ(aq,aw)=>gd (Af (aq+ab))<|(A7 (l257.set x256.toNat (aq+ab,aw)) x256).bind λ(bh,bb)=>gd (Af (bb+ae))<|gd (Af (x256+1))<|GF N l243 ab ae n (x256+1) ((l257.set x256.toNat (aq+ab,aw)).set x256.toNat (bh,bb+ae)))else(some l257)
def FT(N:Nat)(l243:List (Int×Int))(ab:Int)(ae:Int):Option ((List (Int×Int))×Int):=(Cy N l243).bind λcy=>bif ((!cy)||(decide (40<max ab ae)))||(decide (min ab ae<(-40)))then(some ([],70))else(gd (l243≠[])<|gd ((l243.length)*16<=140737488355328)<|(GF N l243 ab ae N 0 l243).bind λck=>(Bm N ck).bind λcu=>bif cu then(some ([],70))else(some (ck,0)))
@[go_sem] def s90(N:Nat):Spec:=p0<|pS Aq λl243=>pI λab=>pI λae=>pE<|pF (FT N l243 ab ae) ([],0) λr=>.tup [BP r.1,.i r.2]
theorem AbV(N:Nat):AG Tryz.prog 90 (s90 N):=by
 refine Ar x90.ok<|AF λl243=>Aa λab=>Aa λae=>Ad<|As λr h=>wx x90 (Ab (P8 N)<|Ab (Rg N)<|Aj) λ_ hS F=>?_
 dsimp only[x90,Ah,Aq];unfold FT at h;obtain⟨cy,dq,h⟩:=un h;replace F:=fc dq F;refine An hS F h (λ_ h=>?_) (λ_ h=>?_)
 ·exact Ai hS F h
 ·refine go hS F ?_;refine GO hS 1 x87.hf x87.hc x87.hn x87.ok rfl (ev F) (ev F) ?_ rfl (ev F) (kM rfl) λhb=>?_
  ·exact Bl hS F
  dsimp only[x87,Ah];obtain⟨fq,h⟩:=un h;refine KR hS F ?_;obtain⟨i8,h⟩:=un h;obtain⟨gr,ip,h⟩:=un h;refine go hS F ?_;refine Bz gr (λz:(List (Int×Int))×Nat=>⟨[(8,.own (300,6) z.1.length)],[(.a (300,6),LK z.1)],z.2⟩) (λz=>(z.1:(List (Int×Int)))) (.x 0) ?_ ?_
  ·refine Bp (λn (y:Int×(List (Int×Int))×Nat)=>GF N l243 ab ae n y.1 y.2.1) (λy=>⟨[(1,.i ab),(2,.i ae),(8,.own (300,6) y.2.1.length),(28,.i (l243.length:Int)),(29,.i y.1)],[(.a (300,6),LK y.2.1)],y.2.2⟩) (0,l243,8) ip (Ch F) ?_;rintro n ⟨x256,l257,fj⟩ ba;simp only[GF]at ba;refine An hS F ba (λ_ ba=>?_) (λ_ ba=>?_)
   ·obtain⟨⟨aq,aw⟩,eu,ba⟩:=un ba;obtain⟨gy,F⟩:=Cb Cz eu F;obtain⟨ig,⟨bh,bb⟩,bu,ba⟩:=un ba;have br:(l257.set x256.toNat (aq+ab,aw)).getD x256.toNat (0,0)=(bh,bb):=ixs bu _;have be:=QO (l257.set x256.toNat (aq+ab,aw)) x256.toNat;rw[br]at be;simp only[List.map_set,Cz]at be;have gx:=(Ng bu).1;obtain⟨ie,i6,ba⟩:=un ba;exact Cd hS (fc be (fc br F)) (n,x256+1,(l257.set x256.toNat (aq+ab,aw)).set x256.toNat (bh,bb+ae),fj+1+1+1+1+1) ba
   ·exact B4 hS F (l257,fj+1) ba
  ·rintro⟨ck,iq⟩ rfl;obtain⟨cu,dp,h⟩:=un h;replace F:=fc dp F;refine An hS F h (λ_ h=>?_) (λ_ h=>?_)
   ·exact Ai hS F h
   ·exact Ai hS F h
end
section
open Go
end
open Go
attribute [local irreducible] Ax BO BB Bj BC Bk AY BD BK Cq
def Ef(N:Nat)(bn:Int)(af:Int)(aa:Int):Option Bool:=some ((decide (af<=bn))&&(decide (bn<=aa)))
@[go_sem] def Zv(N:Nat):Spec:=p0<|pI λbn=>pI λaf=>pI λaa=>pE<|pF (Ef N bn af aa) false λr=>.b r
theorem cR(N:Nat):AG Tryz.prog 117 (Zv N):=by
 refine Ar x117.ok<|Aa λbn=>Aa λaf=>Aa λaa=>Ad<|As λr h=>wx x117 (Aj) λ_ hS F=>?_
 dsimp only[x117,Ah];unfold Ef at h;exact Ai hS F h
def B6(N:Nat)(bu:Int)(am:Int)(bb:Int)(bl:List (Int×Int))(ak:Int)(aj:Int):Option Bool:=(Ef N bu 0 99).bind λbm=>gd (bm=true->((Ef N am 1 8).isSome=true))<|gd ((bm&&((Ef N am 1 8).getD false))=true->((Ef N bb 0 7).isSome=true))<|gd ((((((bm&&((Ef N am 1 8).getD false))&&((Ef N bb 0 7).getD false))&&(decide (0<=ak)))&&(decide (ak<aj)))&&(decide (aj<=8)))=true->((Cy N bl).isSome=true))<|some ((((((bm&&((Ef N am 1 8).getD false))&&((Ef N bb 0 7).getD false))&&(decide (0<=ak)))&&(decide (ak<aj)))&&(decide (aj<=8)))&&((Cy N bl).getD false))
@[go_sem] def Yq(N:Nat):Spec:=p0<|pG<|pI λbu=>pI λam=>pI λbb=>pS Aq λbl=>pI λak=>pI λaj=>pE<|pE<|pF (B6 N bu am bb bl ak aj) false λr=>.b r
theorem Pj(N:Nat):AG Tryz.prog 91 (Yq N):=by
 refine Ar x91.ok<|Aw<|Aa λbu=>Aa λam=>Aa λbb=>AF λbl=>Aa λak=>Aa λaj=>Ad<|Ad<|As λr h=>wx x91 (Ab (cR N)<|Ab (P8 N)<|Aj) λ_ hS F=>?_
 dsimp only[x91,Ah,Aq];unfold B6 at h;obtain⟨bm,cy,db,dg,dh,h⟩:=un h;exact Ai hS (fc cy F) h
def IP(N:Nat)(bj:Int)(bi:Int)(bh:Int)(bg:List (Int×Int))(ae:Int)(ab:Int)(br:Int)(bq:Int)(bp:Int)(bo:List (Int×Int))(ai:Int)(ah:Int):Option (Int×Int×Bool):=gd ((decide (max ae ai<min ab ah))=true->((B6 N bj bi bh bg ae ab).isSome=true))<|gd (((decide (max ae ai<min ab ah))&&((B6 N bj bi bh bg ae ab).getD false))=true->((B6 N br bq bp bo ai ah).isSome=true))<|some (max ae ai,min ab ah,((decide (max ae ai<min ab ah))&&((B6 N bj bi bh bg ae ab).getD false))&&((B6 N br bq bp bo ai ah).getD false))
@[go_sem] def Tj(N:Nat):Spec:=p0<|pG<|pI λbj=>pI λbi=>pI λbh=>pS Aq λbg=>pI λae=>pI λab=>pE<|pG<|pI λbr=>pI λbq=>pI λbp=>pS Aq λbo=>pI λai=>pI λah=>pE<|pE<|pF (IP N bj bi bh bg ae ab br bq bp bo ai ah) (0,0,false) λr=>.tup [.i r.1,.i r.2.1,.b r.2.2]
theorem yM(N:Nat):AG Tryz.prog 124 (Tj N):=by
 refine Ar x124.ok<|Aw<|Aa λbj=>Aa λbi=>Aa λbh=>AF λbg=>Aa λae=>Aa λab=>Ad<|Aw<|Aa λbr=>Aa λbq=>Aa λbp=>AF λbo=>Aa λai=>Aa λah=>Ad<|Ad<|As λr h=>wx x124 (Ab (Pj N)<|Aj) λ_ hS F=>?_
 dsimp only[x124,Ah,Aq];unfold IP at h;obtain⟨db,dg,h⟩:=un h;exact Ai hS F h
def Fy(N:Nat)(cm:Int)(ck:Int)(cj:Int)(bf:List (Int×Int))(ci:Int)(ce:Int)(b9:Int)(b7:Int)(bz:Int)(be:List (Int×Int))(bw:Int)(bv:Int):Option Bool:=(IP N cm ck cj bf ci ce b9 b7 bz be bw bv).bind λ(da,cz,co)=>gd (co=true->((EB N bf be).isSome=true))<|some (co&&((EB N bf be).getD false))
@[go_sem] def AdW(N:Nat):Spec:=p0<|pG<|pI λcm=>pI λck=>pI λcj=>pS Aq λbf=>pI λci=>pI λce=>pE<|pG<|pI λb9=>pI λb7=>pI λbz=>pS Aq λbe=>pI λbw=>pI λbv=>pE<|pE<|pF (Fy N cm ck cj bf ci ce b9 b7 bz be bw bv) false λr=>.b r
theorem cS(N:Nat):AG Tryz.prog 102 (AdW N):=by
 refine Ar x102.ok<|Aw<|Aa λcm=>Aa λck=>Aa λcj=>AF λbf=>Aa λci=>Aa λce=>Ad<|Aw<|Aa λb9=>Aa λb7=>Aa λbz=>AF λbe=>Aa λbw=>Aa λbv=>Ad<|Ad<|As λr h=>wx x102 (Ab (yM N)<|Ab (yG N)<|Aj) λ_ hS F=>?_
 dsimp only[x102,Ah,Aq];unfold Fy at h;obtain⟨⟨da,cz,co⟩,cu,h⟩:=un h;obtain⟨db,h⟩:=un h;exact Ai hS (fc cu F) h
def FR(N:Nat)(ba:Int)(az:Int)(ay:Int)(aw:List (Int×Int))(av:Int)(au:Int)(aq:Int)(an:Int):Option ((Int×Int×Int×(List (Int×Int))×Int×Int)×Int):=(FT N aw aq an).bind λ(cq,cn)=>gd ((!(decide (cn≠0)))=true->((B6 N ba az ay aw av au).isSome=true))<|bif (decide (cn≠0))||(!((B6 N ba az ay aw av au).getD false))then(some ((0,0,0,[],0,0),80))else(some ((ba,az,ay,cq,av,au),0))
@[go_sem] def s45(N:Nat):Spec:=p0<|pG<|pI λba=>pI λaz=>pI λay=>pS Aq λaw=>pI λav=>pI λau=>pE<|pI λaq=>pI λan=>pE<|pF (FR N ba az ay aw av au aq an) ((0,0,0,[],0,0),0) λr=>.tup [.agg [.i r.1.1,.i r.1.2.1,.i r.1.2.2.1,BP r.1.2.2.2.1,.i r.1.2.2.2.2.1,.i r.1.2.2.2.2.2],.i r.2]
theorem nQ(N:Nat):AG Tryz.prog 45 (s45 N):=by
 refine Ar x45.ok<|Aw<|Aa λba=>Aa λaz=>Aa λay=>AF λaw=>Aa λav=>Aa λau=>Ad<|Aa λaq=>Aa λan=>Ad<|As λr h=>wx x45 (Ab (AbV N)<|Ab (Pj N)<|Aj) λ_ hS F=>?_
 dsimp only[x45,Ah,Aq];unfold FR at h;obtain⟨⟨cq,cn⟩,cr,h⟩:=un h;obtain⟨db,h⟩:=un h;replace F:=fc cr F;refine An hS F h (λ_ h=>?_) (λ_ h=>?_)
 ·exact Ai hS F h
 ·exact Ai hS F h
