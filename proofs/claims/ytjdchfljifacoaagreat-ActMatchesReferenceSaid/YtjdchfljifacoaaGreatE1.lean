import Derived.Test.YtjdchfljifacoaaGreatD1
set_option linter.all false
set_option maxRecDepth 100000
set_option maxHeartbeats 8000000
namespace Go.Proofs.YtjdchfljifacoaaGreat.Am
section
open Go
attribute [local irreducible] Ax BO BB Bj BC Bk AY BD BK Cq
def Kr(N:Nat)(aa:Int)(s356:List UInt8):Nat->Int->Int->Option (Sum Unit ((Int×Int×Int)))|0,_,_=>none|n+1,af,ab=>bif decide (ab<9)then(gd (Af (aa+ab))<|bif decide ((s356.length:Int)<=aa+ab)then(some (.inl ()))else(gd (Af (aa+ab))<|gd (0<=aa+ab/\aa+ab<(s356.length:Int))<|gd (Af (7*ab))<|gd (0<=7*ab)<|bif decide (128<=((s356.getD (aa+ab).toNat 0).toNat:Int))then(gd (Af (ab+1))<|Kr N aa s356 n (E1 .or .u64 af (CW .shl .u64 (IntKind.wrap .u64 (E1 .and .u8 ((s356.getD (aa+ab).toNat 0).toNat:Int) 127)) (7*ab))) (ab+1))else(gd (Af (-(IntKind.wrap .i64 (E1 .and .u64 (E1 .or .u64 af (CW .shl .u64 (IntKind.wrap .u64 (E1 .and .u8 ((s356.getD (aa+ab).toNat 0).toNat:Int) 127)) (7*ab))) 1))))<|bif ((decide (((s356.getD (aa+ab).toNat 0).toNat:Int)=0))&&(decide (0<ab)))||(decide (E1 .xor .i64 (IntKind.wrap .i64 (CW .shr .u64 (E1 .or .u64 af (CW .shl .u64 (IntKind.wrap .u64 (E1 .and .u8 ((s356.getD (aa+ab).toNat 0).toNat:Int) 127)) (7*ab))) 1)) (-(IntKind.wrap .i64 (E1 .and .u64 (E1 .or .u64 af (CW .shl .u64 (IntKind.wrap .u64 (E1 .and .u8 ((s356.getD (aa+ab).toNat 0).toNat:Int) 127)) (7*ab))) 1)))<(-4611686018427387903)))then(some (.inl ()))else(gd (Af (aa+ab))<|gd (Af ((aa+ab)+1))<|some (.inr (E1 .xor .i64 (IntKind.wrap .i64 (CW .shr .u64 (E1 .or .u64 af (CW .shl .u64 (IntKind.wrap .u64 (E1 .and .u8 ((s356.getD (aa+ab).toNat 0).toNat:Int) 127)) (7*ab))) 1)) (-(IntKind.wrap .i64 (E1 .and .u64 (E1 .or .u64 af (CW .shl .u64 (IntKind.wrap .u64 (E1 .and .u8 ((s356.getD (aa+ab).toNat 0).toNat:Int) 127)) (7*ab))) 1))),(aa+ab)+1,0))))))else(some (.inl ()))
def B3(N:Nat)(s356:List UInt8)(aa:Int):Option (Int×Int×Int):=bif (decide (aa<0))||(decide ((s356.length:Int)<aa))then(some (0,0,2))else((Kr N aa s356 N 0 0).bind λai=>match ai with|.inl ()=>(some (0,0,10))|.inr aj=>(some aj))
@[go_sem] def yN(N:Nat):Spec:=p0<|(Aoo<|Aoi<|Aof<|Aog (0,0,0) λr=>.tup [.i r.1,.i r.2.1,.i r.2.2]) (B3 N)
theorem Zx(N:Nat):AG Tryz.prog 76 (yN N):=by
 refine fk (Aoq x76 (Aj)) ?_;intro s356 aa r h _ hS F;dsimp only[x76,Ah];unfold B3 at h;refine An hS F h (λ_ h=>?_) (λ_ h=>?_)
 ·exact Ai hS F h
 ·obtain⟨ai,an,h⟩:=un h;refine go hS F ?_;refine Bz ai (λz:Nat=>⟨[],[],z⟩) (λz=>(.inl ():Sum Unit ((Int×Int×Int)))) (.x 0) ?_ ?_
  ·refine Bp (λn (y:Int×Int×Nat)=>Kr N aa s356 n y.1 y.2.1) (λy=>⟨[(0,.v (.string (sB s356))),(1,.i aa),(7,.v (.int .u64 y.1)),(19,.i y.2.1)],[],y.2.2⟩) (0,0,4) an (Ch F) ?_;rintro n ⟨af,ab,ah⟩ ae;simp only[Kr]at ae;refine An hS F ae (λ_ ae=>?_) (λ_ ae=>?_)
   ·obtain⟨be,ae⟩:=un ae;refine An hS F ae (λ_ ae=>?_) (λ_ ae=>?_)
    ·exact B4 hS F (ah+1+1+1) ae
    ·obtain⟨bb,ba,az,ay,ae⟩:=un ae;refine An hS F ae (λ_ ae=>?_) (λ_ ae=>?_)
     ·obtain⟨av,ae⟩:=un ae;exact Cd hS F (n,E1 .or .u64 af (CW .shl .u64 (IntKind.wrap .u64 (E1 .and .u8 ((s356.getD (aa+ab).toNat 0).toNat:Int) 127)) (7*ab)),ab+1,ah+1+1+1+1+1+1+1) ae
     ·obtain⟨au,ae⟩:=un ae;refine An hS F ae (λ_ ae=>?_) (λ_ ae=>?_)
      ·exact B4 hS F (ah+1+1+1+1+1+1+1+1) ae
      ·obtain⟨am,ak,ae⟩:=un ae;obtain rfl:=yJ ae;exact Ai hS F h
   ·exact B4 hS F (ah+1) ae
  ·rintro aq rfl;exact Ai hS F h
end
section
open Go
attribute [local irreducible] Ax BO BB Bj BC Bk AY BD BK Cq
def Hr(N:Nat)(ae:Int)(ab:Int)(aq:Int)(an:Int)(am:Int)(ak:Int):Option Int:=gd (Af (aq-ae))<|gd (Af (ak-ab))<|gd (Af ((aq-ae)*(ak-ab)))<|gd (Af (an-ab))<|gd (Af (am-ae))<|gd (Af ((an-ab)*(am-ae)))<|gd (Af (((aq-ae)*(ak-ab))-((an-ab)*(am-ae))))<|some (((aq-ae)*(ak-ab))-((an-ab)*(am-ae)))
@[go_sem] def AdL(N:Nat):Spec:=p0<|(Aoh<|Aoi<|Aoi<|Aof<|Aoh<|Aoi<|Aoi<|Aof<|Aoh<|Aoi<|Aoi<|Aof<|Aof<|Aog 0 .i) (Hr N)
theorem cH(N:Nat):AG Tryz.prog 182 (AdL N):=by refine fk (Aoq gI (Aj)) ?_;intro ae ab aq an am ak r h _ hS F;dsimp only[gI,Ah];unfold Hr at h;obtain⟨bg,bf,be,bb,ba,az,ay,h⟩:=un h;exact Ai hS F h
def IO(N:Nat)(av:Int)(au:Int):Option Bool:=some ((decide (min av au<0))||(decide (40<max av au)))
@[go_sem] def AdM(N:Nat):Spec:=p0<|(Aoh<|Aoi<|Aoi<|Aof<|Aof<|Aog false .b) (IO N)
theorem xY(N:Nat):AG Tryz.prog 121 (AdM N):=by refine fk (Aoq AkJ (Aj)) ?_;intro av au r h _ hS F;dsimp only[AkJ,Ah];unfold IO at h;exact Ai hS F h
def HY(N:Nat)(x98:Int):Option Bool:=some (decide (x98≠x98))
@[go_sem] def AdN(N:Nat):Spec:=p0<|(Aoi<|Aof<|Aog false .b) (HY N)
theorem xZ(N:Nat):AG Tryz.prog 181 (AdN N):=by refine fk (Aoq AlU (Aj)) ?_;intro x98 r h _ hS F;dsimp only[AlU,Ah];unfold HY at h;exact Ai hS F h
def F3(N:Nat)(x99:Int)(aa:Int):Option Int:=(HY N x99).bind λah=>(HY N aa).bind λaf=>bif ah then(bif af then(some 0)else(some (-1)))else(bif af then(some 1)else(bif decide (x99<aa)then(some (-1))else(bif decide (aa<x99)then(some 1)else(some 0))))
@[go_sem] def AdO(N:Nat):Spec:=p0<|(Aoi<|Aoi<|Aof<|Aog 0 .i) (F3 N)
theorem cI(N:Nat):AG Tryz.prog 118 (AdO N):=by
 refine fk (Aoq AlE (Ab (xZ N)<|Aj)) ?_;intro x99 aa r h _ hS F;dsimp only[AlE,Ah];unfold F3 at h;obtain⟨ah,aj,af,ai,h⟩:=un h;replace F:=fc ai (fc aj F);refine An hS F h (λ_ h=>?_) (λ_ h=>?_)
 ·refine An hS F h (λ_ h=>?_) (λ_ h=>?_)
  ·exact Ai hS F h
  ·exact Ai hS F h
 ·refine An hS F h (λ_ h=>?_) (λ_ h=>?_)
  ·exact Ai hS F h
  ·refine An hS F h (λ_ h=>?_) (λ_ h=>?_)
   ·exact Ai hS F h
   ·refine An hS F h (λ_ h=>?_) (λ_ h=>?_)
    ·exact Ai hS F h
    ·exact Ai hS F h
end
abbrev Pt:=Int×Int
def Ao(a b c:Pt):Int:=(b.1-a.1)*(c.2-a.2)-(b.2-a.2)*(c.1-a.1)
def dst(a b:Pt):Int:=(a.1-b.1)*(a.1-b.1)+(a.2-b.2)*(a.2-b.2)
def C5(v w p:Pt):Int:=(w.1-v.1)*(p.1-v.1)+(w.2-v.2)*(p.2-v.2)
def DP(g v p:Pt):Int:=g.1*(p.1-v.1)+g.2*(p.2-v.2)
def Yt(P:List Pt)(v:Pt):Prop:=∃g:Pt,∀p∈P,p≠v->0<DP g v p
structure Edge(P:List Pt)(v w:Pt):Prop where
 ne:v≠w
 mv:v∈P
 mw:w∈P
 left:∀p∈P,0<=Ao v w p
 seg:∀p∈P,Ao v w p=0->0<=C5 v w p/\0<=C5 w v p
theorem NW(x:Int):0<=x*x:=by
 rcases Int.le_total 0 x with h|h
 all_goals simp_all[oJ,Int.mul_nonneg_of_nonpos_of_nonpos]
theorem nW{x:Int}(h:x*x=0):x=0:=by rcases DV.1 h with h|h<;>exact h
theorem sL(a b:Pt):0<=dst a b:=by unfold dst;have h1:=NW (a.1-b.1);have h2:=NW (a.2-b.2);omega
theorem Wp{a b:Pt}(h:dst a b=0):a=b:=by unfold dst at h;have h1:=NW (a.1-b.1);have h2:=NW (a.2-b.2);have:=nW (x:=a.1-b.1) (by omega);have:=nW (x:=a.2-b.2) (by omega);grind
theorem LL{a b:Pt}(h:a≠b):0<dst a b:=by
 have:=sL a b;have:dst a b≠0:=λe=>h (Wp e)
 omega
theorem Ob{x y:Int}(hx: -1000<=x/\x<=1000)(hy: -1000<=y/\y<=1000): -1000000<=x*y/\x*y<=1000000:=by have h1:0<=(1000-x)*(1000+y):=oJ (by omega) (by omega);have h2:0<=(1000+x)*(1000-y):=oJ (by omega) (by omega);have h3:0<=(1000+x)*(1000+y):=oJ (by omega) (by omega);have h4:0<=(1000-x)*(1000-y):=oJ (by omega) (by omega);constructor<;>grind
theorem ZD(v w p:Pt):Ao v w p*Ao v w p+C5 w v p*C5 w v p=dst v w*dst p w:=by unfold Ao C5 dst;grind
theorem Hd(a b c:Pt):Ao b c a=Ao a b c:=by unfold Ao;grind
theorem EM(a b:Pt):Ao a b a=0:=by unfold Ao;grind
theorem E4(a b:Pt):Ao a b b=0:=by unfold Ao;grind
theorem cZ(a b:Pt):Ao a a b=0:=by unfold Ao;grind
def CD(p:Pt):Prop:=(-400<=p.1/\p.1<=400)/\(-400<=p.2/\p.2<=400)
theorem Edge.ext{P:List Pt}{v w:Pt}(h:Edge P v w)(hb:∀p∈P,CD p):Yt P w:=by
 refine⟨(10000000*(v.2-w.2)+(v.1-w.1),10000000*(w.1-v.1)+(v.2-w.2)),λp hp hne=>?_⟩;have e:DP (10000000*(v.2-w.2)+(v.1-w.1),10000000*(w.1-v.1)+(v.2-w.2)) w p=10000000*Ao v w p+C5 w v p:=by unfold DP Ao C5;grind
 have hl:=h.left p hp;rcases Int.lt_or_eq_of_le hl with hlt|heq
 ·have hv:=hb v h.mv;have hw:=hb w h.mw;have hp':=hb p hp;unfold CD at hv hw hp';have b1:=Ob (x:=v.1-w.1) (y:=p.1-w.1) (by omega) (by omega);have b2:=Ob (x:=v.2-w.2) (y:=p.2-w.2) (by omega) (by omega);grind[C5]
 ·have hs:=(h.seg p hp heq.symm).2;have hz:C5 w v p≠0:=λhz=>by
   have:=ZD v w p;rw[<-heq,hz]at this;have h0:dst v w*dst p w=0:=by omega
   rcases DV.1 h0 with h0|h0
   ·exact h.ne (Wp h0)
   ·exact hne (Wp h0)
  omega
theorem ZE(g o a b c:Pt):DP g o b*Ao o a c=DP g o a*Ao o b c+DP g o c*Ao o a b:=by unfold DP Ao;grind
theorem QR{g o a b:Pt}(h:Ao o a b=0):DP g o a*C5 o a b=DP g o b*dst a o:=by grind[DP,C5,dst,Ao]
theorem sM{g o a b:Pt}(h:Ao o a b=0):DP g o a*DP g o a*dst b o=DP g o b*DP g o b*dst a o:=by
 have e1:=QR (g:=g) h;have e2:DP g o b*C5 o b a=DP g o a*dst b o:=by grind[QR,Ao]
 grind[C5]
def QS(o n p:Pt):Pt:=if p=o then n else if n=o\/Ao o n p<0\/(Ao o n p=0/\dst o n<dst o p)then p else n
def H1(o:Pt)(P:List Pt):Pt:=P.foldl (QS o) o
def dA(o:Pt)(Q:List Pt)(n:Pt):Prop:=(n=o/\∀p∈Q,p=o)\/(n∈Q/\n≠o/\∀p∈Q,p=o\/(0<=Ao o n p/\(Ao o n p=0->dst o p<=dst o n)))
theorem IH{a b:Int}(ha:0<a)(h:0<a*b):0<b:=by
 rcases Fe 0 b with hb|hb
 ·exact hb
 ·have:=oJ (w8 ha) (show 0<=-b by omega);rw[Int.mul_neg]at this;omega
theorem FE{a b:Int}(ha:0<a)(h:0<=a*b):0<=b:=by
 rcases Fe b 0 with hb|hb
 ·have:=y0 ha (show 0< -b by omega);rw[Int.mul_neg]at this;omega
 ·exact hb
theorem XG{a b:Int}(ha:0<a)(h:a*b=0):b=0:=by grind[DV]
theorem jK{o n p g:Pt}{Q:List Pt}(hg:∀q∈Q++[p],q≠o->0<DP g o q)(h:dA o Q n):dA o (Q++[p]) (QS o n p):=by
 unfold QS;by_cases hp:p=o
 ·rw[dW hp];rcases h with⟨h1,h2⟩|⟨h1,h2,h3⟩
  ·exact .inl ⟨h1,λq hq=>by rcases mU.1 hq with hq|hq;exact h2 q hq;simp at hq;rw[hq,hp]⟩
  ·exact .inr ⟨by simp[h1],h2,λq hq=>by rcases mU.1 hq with hq|hq;exact h3 q hq;simp at hq;exact .inl (by rw[hq,hp])⟩
 ·rw[dQ hp];have gp:=hg p (by simp) hp;rcases h with⟨h1,h2⟩|⟨h1,h2,h3⟩
  ·rw[dW (.inl h1)];refine .inr ⟨by simp,hp,λq hq=>?_⟩;rcases mU.1 hq with hq|hq
   ·exact .inl (h2 q hq)
   ·simp at hq;subst hq;exact .inr ⟨by rw[E4];omega,λ_=>by omega⟩
  ·have gn:=hg n (by simp[h1]) h2;by_cases hc:n=o\/Ao o n p<0\/(Ao o n p=0/\dst o n<dst o p)
   ·rw[dW hc];refine .inr ⟨by simp,hp,λq hq=>?_⟩;rcases mU.1 hq with hq|hq
    ·by_cases hqo:q=o
     ·exact .inl hqo
     refine .inr ?_;have gq:=hg q (by simp[hq]) hqo;rcases h3 q hq with k|⟨k1,k2⟩
     ·exact absurd k hqo
     have pl:=ZE g o p n q;have sw:Ao o p n= -Ao o n p:=by unfold Ao;grind
     rcases hc with hc|hc|⟨hc,hd⟩
     ·exact absurd hc h2
     ·have a1:0<DP g o q*Ao o p n:=y0 gq (by omega);have a2:0<=DP g o p*Ao o n q:=oJ (by omega) k1;have:=IH gn (b:=Ao o p q) (by omega);exact⟨by omega,λe=>by omega⟩
     grind[Ao,oJ,FE,XG]
    ·simp at hq;subst hq;exact .inr ⟨by rw[E4];omega,λ_=>by omega⟩
   ·rw[dQ hc];refine .inr ⟨by simp[h1],h2,λq hq=>?_⟩;rcases mU.1 hq with hq|hq
    ·exact h3 q hq
    ·simp at hq;subst hq;omega
theorem Yu{o g:Pt}:∀(R Q:List Pt)(n:Pt),(∀q∈Q++R,q≠o->0<DP g o q)->dA o Q n->dA o (Q++R) (R.foldl (QS o) n)
 |[],Q,n,_,h=>by simpa using h
 |p::R,Q,n,hg,h=>by
  have e:Q++p::R=(Q++[p])++R:=by simp
  rw[e]at hg⊢;exact Yu R (Q++[p]) _ hg (jK (λq hq=>hg q (by simp at hq⊢;rcases hq with h|h<;>simp[h])) h)
theorem Wq{P:List Pt}{o:Pt}(ho:o∈P)(h:Yt P o):(H1 o P=o/\∀p∈P,p=o)\/Edge P o (H1 o P):=by
 obtain⟨g,hg⟩:=h;have hs:dA o P (H1 o P):=by have:=Yu P [] o (by simpa using hg) (.inl ⟨rfl,by simp⟩);rw[pA]at this;exact this
 rcases hs with hs|⟨h1,h2,h3⟩
 ·exact .inl hs
 ·refine .inr ⟨by grind,ho,h1,λp hp=>?_,λp hp e=>?_⟩
  ·grind[EM]
  ·have dn:0<dst (H1 o P) o:=LL h2;have e2:C5 (H1 o P) o p=dst (H1 o P) o-C5 o (H1 o P) p:=by unfold C5 dst;grind
   by_cases hp':p=o
   ·grind[C5]
   have gp:=hg p hp hp';have gn:=hg _ h1 h2;have hd:dst o p<=dst o (H1 o P):=by grind
   have s1:dst o p=dst p o:=by unfold dst;grind
   have s2:dst o (H1 o P)=dst (H1 o P) o:=by unfold dst;grind
   have c1:=QR (g:=g) e;have c2:=sM (g:=g) e;have q1:=y0 gp dn;have d0:=IH gn (b:=C5 o (H1 o P) p) (by omega);refine⟨by omega,?_⟩;rw[e2];generalize DP g o p=x at*;generalize DP g o (H1 o P)=y at*;generalize dst (H1 o P) o=D at*;generalize dst p o=α at*;generalize C5 o (H1 o P) p=t at*;have hxy:x<=y:=by
    rcases Fe y x with hlt|hle
    ·have a1:y*y<x*x:=by have:=Int.mul_lt_mul_of_pos_left hlt gn;have:=Int.mul_lt_mul_of_pos_right hlt gp;omega
     have a2:=Int.mul_lt_mul_of_pos_right a1 dn;have a3:y*y*α<=y*y*D:=Int.mul_le_mul_of_nonneg_left (by omega) (NW y);omega
    ·exact hle
   have a4:x*D<=y*D:=by simp_all
   have a5:0<=y*(D-t):=by rw[Int.mul_sub];omega
   exact FE gn a5
theorem eq3{A B t:Int}(ht:0<=t)(h1:t<=A)(h2:t<=B)(pa:0<A)(pb:0<B)(la:t*t=A*B):A=t/\B=t:=by
 have k1:=Int.mul_le_mul_of_nonneg_left (by omega) (by omega);have k2:t*t<=A*t:=Int.mul_le_mul_of_nonneg_right (by omega) (by omega);have k3:0<=B*(t-A):=by rw[Int.mul_sub,Lc B A,Lc B t];omega
 have k4:0<=A*(t-B):=by rw[Int.mul_sub];omega
 have k5:=FE pb k3;have k6:=FE pa k4;omega
theorem Edge.pred{P:List Pt}{a b w:Pt}(h1:Edge P a w)(h2:Edge P b w):a=b:=by
 have l1:=h1.left b h2.mv;have l2:=h2.left a h1.mv;have e1:Ao b w a= -Ao a w b:=by unfold Ao;grind
 have z1:Ao a w b=0:=by omega
 have z2:Ao b w a=0:=by omega
 have s1:=h1.seg b h2.mv z1;have s2:=h2.seg a h1.mv z2;have la:=ZD a w b;have pa:=LL h1.ne;have pb:=LL h2.ne;have i1:C5 a w b=dst a w-C5 w a b:=by unfold C5 dst;grind
 have i2:C5 b w a=dst b w-C5 w a b:=by unfold C5 dst;grind
 have i3:dst a b=dst a w+dst b w-2*C5 w a b:=by unfold C5 dst;grind
 rw[z1]at la;generalize dst a w=A at*;generalize dst b w=B at*;generalize C5 w a b=t at*;have:=eq3 (t:=t) (by omega) (by omega) (by omega) pa pb (by omega);exact Wp (by omega)
def pa(l:List Pt)(i:Nat):Pt:=l.getD i (0,0)
theorem De{l:List Pt}{i:Nat}(h:i<l.length):pa l i=l[i]:=by grind[pa]
theorem Bo{l:List Pt}{i:Nat}(h:i<l.length):pa l i∈l:=by rw[De h];exact by grind
theorem Jf{l:List Pt}{p:Pt}(h:p∈l):∃i,i<l.length/\pa l i=p:=by obtain⟨i,hi,e⟩:=List.mem_iff_getElem.1 h;exact⟨i,hi,by rw[De hi,e]⟩
theorem Qb{l:List Pt}(h:l.Nodup){i j:Nat}(hi:i<l.length)(hj:j<l.length)(e:pa l i=pa l j):i=j:=by rw[De hi,De hj]at e;have:=List.pairwise_iff_getElem.1 h;grind
theorem I8{l m:List Pt}{i:Nat}(h:i<l.length):pa (l++m) i=pa l i:=by rw[De (by simp;omega),De h,List.getElem_append_left h]
theorem M5{l m:List Pt}{i:Nat}(h1:l.length<=i)(h:i<l.length+m.length):pa (l++m) i=pa m (i-l.length):=by rw[De (by simp;omega),De (by omega),List.getElem_append_right h1]
theorem Me:∀(l:List Pt)(P:List Pt),l.Nodup->(∀p∈l,p∈P)->l.length<=P.length
 |[],_,_,_=>by simp
 |a::l,P,h,hs=>by
  rw[List.nodup_cons]at h;have ha:=hs a (by simp);have:=Me l (P.erase a) h.2 λp hp=>by grind
  rw[List.length_erase_of_mem ha]at this;have:=List.length_pos_of_mem ha;simp;omega
def Conv(l:List Pt):Prop:=∀i k,i<l.length->k<l.length->k≠i->k≠(i+1)%l.length->0<Ao (pa l i) (pa l ((i+1)%l.length)) (pa l k)
structure HGood(P:List Pt)(f o:Pt)(out:List Pt):Prop where
 len:0<out.length
 hd:pa out 0=f
 lst:pa out (out.length-1)=o
 nd:out.Nodup
 sub:∀p∈out,p∈P
 ext:∀p∈out,Yt P p
 edge:∀i,i+1<out.length->Edge P (pa out i) (pa out (i+1))
structure HullOK(P r:List Pt):Prop where
 nd:r.Nodup
 sub:∀p∈r,p∈P
 len:0<r.length
 conv:3<=r.length->Conv r
def JO(f p:Pt):Pt:=if p.2<f.2\/(p.2=f.2/\p.1<f.1)then p else f
def NX(a:Pt)(P:List Pt):Pt:=P.foldl JO a
def Uf(f p:Pt):Prop:=f.2<p.2\/(f.2=p.2/\f.1<=p.1)
theorem Wr:∀(P:List Pt)(a:Pt),NX a P∈a::P/\∀p∈a::P,Uf (NX a P) p
 |[],a=>⟨by simp[NX],λp hp=>by simp at hp;subst hp;exact .inr ⟨rfl,Int.le_refl _⟩⟩
 |q::P,a=>by
  obtain⟨h1,h2⟩:=Wr P (JO a q);have e:NX a (q::P)=NX (JO a q) P:=rfl;have hs:(JO a q=a\/JO a q=q)/\Uf (JO a q) a/\Uf (JO a q) q:=by unfold JO Uf;split<;>refine⟨by simp,?_,?_⟩<;>omega
  refine⟨?_,λp hp=>?_⟩
  ·grind
  ·have h0:=h2 (JO a q) (by simp);grind[Uf]
theorem sO{P:List Pt}{f:Pt}(hb:∀p∈P,CD p)(hf:f∈P)(h:∀p∈P,Uf f p):Yt P f:=by refine⟨(1,10000),λp hp hne=>?_⟩;grind[DP,CD,Uf]
theorem jL{P:List Pt}{f:Pt}(hf:f∈P)(hx:Yt P f):HGood P f f [f]:=⟨by simp,rfl,rfl,by simp,by simp[hf],by simp[hx],by grind⟩
section
open Go
attribute [local irreducible] Ax BO BB Bj BC Bk AY BD BK Cq
def Co(l:List Pt):List (Pt×Pt):=(List.range l.length).map λi=>(pa l i,pa l ((i+1)%l.length))
def oZ(e:Pt×Pt):List AV:=[.agg [.i e.1.1,.i e.1.2],.agg [.i e.2.1,.i e.2.2]]
theorem ZX{l:List Pt}{i:Nat}(h:i<l.length):(Co l)[i]? =some (pa l i,pa l ((i+1)%l.length)):=by unfold Co;rw[rA,List.getElem?_range h];rfl
theorem MU(l:List Pt):(Co l).length=l.length:=by unfold Co;simp
theorem kU(l:List Pt)(f:Bool)(hlen:l.length<=1000000000):T8 Tryz.prog 214 [] [.ro [.sl 2 f (l.map Cz) [.i 0,.i 0]] 0] ((Co l).map oZ):=by
 refine XS (Aj (P:=Tryz.prog)) _ x214.hf x214.hc x214.hn (by simp[x214,Ah,gs]) (oL rfl) λy V hOK hTS hY hYD=>?_
 have hS:=Aj (P:=Tryz.prog);dsimp only[x214,Ah,BW];refine go hS (fc hTS f0) ?_;refine IB (λx:Nat×Nat=>⟨[(7,.i x.1),(6,.i l.length),(5,.sl 2 f (l.map Cz) [.i 0,.i 0]),(1,.ro [.sl 2 f (l.map Cz) [.i 0,.i 0]] 0),(gs,CL x.1),(0,.clo (.yield y) [] [])],[],x.2⟩)
  (λx=>x.1<=l.length) (λx=>l.length-x.1) (0,50) ?_ ?_ ?_
 ·simp
 ·refine Le.of ?_ ?_ (by simp)<;>(simp only[go_sem,seval];try simp)
 ·rintro⟨i,c⟩ hi;simp only at hi;refine go hS (fc hTS f0) ?_;refine Sv ((i:Int)<l.length) (by simp only[go_sem,seval]<;>eq_refl) (by first|simp only[Bool.decide_or,Bool.decide_and,decide_not]|simp) (λhi1=>?_) (λhi1=>?_)
  ·have hi':i<l.length:=by omega
   have hm:(i+1)%l.length<l.length:=tH _ (by omega);have hrow:A6 (l.map Cz) [.i 0,.i 0] i=[.i (pa l i).1,.i (pa l i).2]:=QO l i;have hrow2:A6 (l.map Cz) [.i 0,.i 0] ((i+1)%l.length)=[.i (pa l ((i+1)%l.length)).1,.i (pa l ((i+1)%l.length)).2]:=QO l _;have hmod:((i:Int)+1).tmod (l.length:Int)=(((i+1)%l.length:Nat):Int):=by rw[Int.tmod_eq_emod_of_nonneg (by omega)];rfl
   have hton:((((i+1)%l.length:Nat)):Int).toNat=(i+1)%l.length:=tK _;refine go hS (fc hTS (fc hrow f0)) ?_;refine hYD 10 (args:=oZ (pa l i,pa l ((i+1)%l.length))) rfl (by simp only[go_sem,seval,hTS]<;>eq_refl) (by simp only[go_sem,seval,hTS,hrow,hrow2,hmod,hton]<;>eq_refl) (by decide) ?_ (by simp only[go_sem,seval]<;>eq_refl) (by simp only[go_sem,seval]<;>eq_refl) (by simp only[go_sem,seval]<;>eq_refl) (by simp only[go_sem,seval,Am.oZ]<;>eq_refl) ?_ (by simp only[go_sem,seval,hTS]<;>eq_refl) ?_ ?_ (by simp only[go_sem,seval,hTS]<;>eq_refl) ?_ ?_
   ·exact⟨⟨by omega,by omega⟩,by omega,by omega,by omega⟩
   ·rw[rA,ZX hi'];rfl
   ·exact yT
   ·refine go hS (fc hTS f0) ?_;refine Oo (by simp only[go_sem,seval]<;>eq_refl) ?_;refine go hS (fc hTS f0) ?_;refine JL (i+1,c+50) (by show i+1<=_;omega) (by show l.length-(i+1)<l.length-i;omega) (Le.of ?_ ?_ ?_)
    ·simp only[go_sem,seval]<;>simp
    ·simp only[go_sem,seval]
    ·simp
   ·exact yT
   ·refine go hS (fc hTS f0) ?_;refine L9 (by simp only[go_sem,seval]<;>eq_refl) ?_;refine go hS (fc hTS f0) ?_;refine Sw ?_;simp only[go_sem,seval]
  ·refine go hS (fc hTS f0) ?_;refine nP ?_;have:i=l.length:=by omega
   simp only[go_sem,seval,this,qI,MU]
def W4:Spec|[.sl z f rows d]=>some (True,.clo (.func 214) [] [.ro [.sl z f rows d] 0])|_=>none
theorem eV:AG Tryz.prog 207 W4:=⟨x207.ok,by
 intro args vc r h hv;unfold W4 at h;split at h
 ·cases h
  refine O4 (Aj (P:=Tryz.prog)) _ x207.hf x207.hc x207.hn (oL rfl) λ_=>?_
  have hS:=Aj (P:=Tryz.prog);dsimp only[x207,Ah,BW];refine go hS f0 ?_
  first|refine Ma (by simp only[go_sem,seval]<;>eq_refl) (by simp only[go_sem,seval]) (by simp only[go_sem,seval]) ?_ rfl|refine Mb (by simp only[go_sem,seval]<;>eq_refl) (by simp only[go_sem,seval]) (by simp only[go_sem,seval]) ?_ rfl
  simp only[go_sem,seval]
 ·simp at h⟩
theorem Tz{E:Type}{xs:List E}{g:E->List AV}{k:Nat}{args:List AV}(h:(xs.map g)[k]? =some args):∃y,xs.drop k=y::xs.drop (k+1)/\args=g y/\k<xs.length:=by
 rw[rA]at h;cases hk:xs[k]? with
 |none=>rw[hk]at h;cases h
 |some y=>rw[hk]at h;obtain⟨h1,h2⟩:=jW.1 hk;exact⟨y,by rw[oH h1,h2],(yJ h).symm,h1⟩
theorem W5{E:Type}{xs:List E}{g:E->List AV}:xs.drop (xs.map g).length=[]:=by rw[qI];exact tM
end
section
open Go
attribute [local irreducible] Ax BO BB Bj BC Bk AY BD BK Cq
attribute [local go_sem] W4
def A3(N:Nat)(s105:List (Int×Int)):Nat->Int->Option (Sum Unit Int)|0,_=>none|n+1,Ajr=>bif decide (Ajr<(s105.length:Int))then((A7 s105 Ajr).bind λ(AkI,x115)=>(IO N AkI x115).bind λde=>bif de then(some (.inr Ajr))else(gd (Af (Ajr+1))<|A3 N s105 n (Ajr+1)))else(some (.inl ()))
def CI(N:Nat)(s105:List (Int×Int)):Option Int:=(A3 N s105 N 0).bind λbv=>match bv with|.inl ()=>(some (-1))|.inr gm=>(some gm)
@[go_sem] def cJ(N:Nat):Spec:=p0<|(Aon Aq<|Aok 121<|Aof<|Aof<|Aog 0 .i) (CI N)
theorem XA(N:Nat):AG Tryz.prog 183 (cJ N):=by
 refine fk (Aoq Ah3 (Ab (xY N)<|Aj)) ?_;intro s105 r h _ hS F;dsimp only[Ah3,Ah,Aq];unfold CI at h;obtain⟨bv,gu,h⟩:=un h;refine go hS F ?_;refine Bz bv (λz:Nat=>⟨[],[],z⟩) (λz=>(.inl ():Sum Unit Int)) (.x 0) ?_ ?_
 ·refine Bp (λn (y:Int×Nat)=>A3 N s105 n y.1) (λy=>⟨[(0,BP s105),(1,.clo (.func 121) [] []),(7,.i (s105.length:Int)),(8,.i y.1)],[],y.2⟩) (0,2) gu (Ch F) ?_;rintro n ⟨Ajr,fr⟩ af;simp only[A3]at af;refine An hS F af (λ_ af=>?_) (λ_ af=>?_)
  ·obtain⟨⟨AkI,x115⟩,e9,af⟩:=un af;obtain⟨ib,F⟩:=Cb Cz e9 F;obtain⟨de,ei,af⟩:=un af;replace F:=fc ei F;refine An hS F af (λ_ af=>?_) (λ_ af=>?_)
   ·obtain rfl:=yJ af;exact Ai hS F h
   ·obtain⟨ij,af⟩:=un af;exact Cd hS F (n,Ajr+1,fr+1+1+1+1) af
  ·exact B4 hS F (fr+1) af
 ·rintro i5 rfl;exact Ai hS F h
def Bm(N:Nat)(Tj:List (Int×Int)):Option Bool:=(CI N Tj).bind λdb=>some (decide (0<=db))
@[go_sem] def cM(N:Nat):Spec:=p0<|(Aon Aq<|Aok 121<|Aof<|Aof<|Aog false .b) (Bm N)
theorem Rg(N:Nat):AG Tryz.prog 120 (cM N):=by refine fk (Aoq AjV (Ab (XA N)<|Aj)) ?_;intro Tj r h _ hS F;dsimp only[AjV,Ah,Aq];unfold Bm at h;obtain⟨db,eh,h⟩:=un h;exact Ai hS (fc eh F) h
def Je(N:Nat)(dh:Int)(dg:Int)(AkM:Int)(AkN:Int)(AkO:Int)(AkP:Int):Option Bool:=(Hr N AkM AkN AkO AkP dh dg).bind λda=>some (decide (0<da))
@[go_sem] def AdP(N:Nat):Spec:=p0<|(Aoh<|Aoi<|Aoi<|Aof<|Aol<|Aoi<|Aoi<|Aof<|Aol<|Aoi<|Aoi<|Aof<|Aof<|Aog false .b) (Je N)
theorem yA(N:Nat):AG Tryz.prog 208 (AdP N):=by refine fk (Aoq Al1 (Ab (cH N)<|Aj)) ?_;intro dh dg AkM AkN AkO AkP r h _ hS F;dsimp only[Al1,Ah];unfold Je at h;obtain⟨da,ee,h⟩:=un h;exact Ai hS (fc ee F) h
def AQ(N:Nat)(s135:List (Int×Int))(au:Int)(aq:Int)(an:Int)(am:Int):Nat->Int->Option (Sum Unit Int)|0,_=>none|n+1,AjL=>bif decide (AjL<(s135.length:Int))then((A7 s135 AjL).bind λ(x148,AkQ)=>(Je N x148 AkQ au aq an am).bind λcz=>bif cz then(some (.inr AjL))else(gd (Af (AjL+1))<|AQ N s135 au aq an am n (AjL+1)))else(some (.inl ()))
def CJ(N:Nat)(s135:List (Int×Int))(au:Int)(aq:Int)(an:Int)(am:Int):Option Int:=(AQ N s135 au aq an am N 0).bind λbu=>match bu with|.inl ()=>(some (-1))|.inr gj=>(some gj)
@[go_sem] def cN(N:Nat):Spec:=p0<|(Aon Aq<|Aok 208<|Aol<|Aoi<|Aoi<|Aof<|Aol<|Aoi<|Aoi<|Aof<|Aof<|Aof<|Aog 0 .i) (CJ N)
theorem XB(N:Nat):AG Tryz.prog 183 (cN N):=by
 refine fk (Aoq Ah3 (Ab (yA N)<|Aj)) ?_;intro s135 au aq an am r h _ hS F;dsimp only[Ah3,Ah,Aq];unfold CJ at h;obtain⟨bu,gu,h⟩:=un h;refine go hS F ?_;refine Bz bu (λz:Nat=>⟨[],[],z⟩) (λz=>(.inl ():Sum Unit Int)) (.x 0) ?_ ?_
 ·refine Bp (λn (y:Int×Nat)=>AQ N s135 au aq an am n y.1) (λy=>⟨[(0,BP s135),(1,.clo (.func 208) [] [.ro [.i au,.i aq] 0,.ro [.i an,.i am] 0]),(7,.i (s135.length:Int)),(8,.i y.1)],[],y.2⟩) (0,2) gu (Ch F) ?_;rintro n ⟨AjL,fq⟩ af;simp only[AQ]at af;refine An hS F af (λ_ af=>?_) (λ_ af=>?_)
  ·obtain⟨⟨x148,AkQ⟩,e8,af⟩:=un af;obtain⟨g9,F⟩:=Cb Cz e8 F;obtain⟨cz,d9,af⟩:=un af;replace F:=fc d9 F;refine An hS F af (λ_ af=>?_) (λ_ af=>?_)
   ·obtain rfl:=yJ af;exact Ai hS F h
   ·obtain⟨ij,af⟩:=un af;exact Cd hS F (n,AjL+1,fq+1+1+1+1) af
  ·exact B4 hS F (fq+1) af
 ·rintro iz rfl;exact Ai hS F h
def B0(N:Nat)(cn:List (Int×Int))(fm:Int)(fj:Int)(fh:Int)(fg:Int):Option Bool:=(CJ N cn fm fj fh fg).bind λcy=>some (decide (0<=cy))
@[go_sem] def cQ(N:Nat):Spec:=p0<|(Aon Aq<|Aok 208<|Aol<|Aoi<|Aoi<|Aof<|Aol<|Aoi<|Aoi<|Aof<|Aof<|Aof<|Aog false .b) (B0 N)
theorem XC(N:Nat):AG Tryz.prog 120 (cQ N):=by refine fk (Aoq AjV (Ab (XB N)<|Aj)) ?_;intro cn fm fj fh fg r h _ hS F;dsimp only[AjV,Ah,Aq];unfold B0 at h;obtain⟨cy,d8,h⟩:=un h;exact Ai hS (fc d8 F) h
def Dv(N:Nat)(l165:List (Int×Int))(gI:Int)(Ah3:Int)(Ai5:Int):Nat->Int->Option (Sum Unit Bool)|0,_=>none|n+1,Ags=>bif decide (Ags<(l165.length:Int))then((A7 l165 Ags).bind λ(x192,Akl)=>gd (((decide (Ags≠gI))&&(decide (Ags≠(gI+1).tmod (l165.length:Int))))=true->(0<=(gI+1).tmod (l165.length:Int)/\(gI+1).tmod (l165.length:Int)<(l165.length:Int)))<|gd (((decide (Ags≠gI))&&(decide (Ags≠(gI+1).tmod (l165.length:Int))))=true->((Hr N Ah3 Ai5 ((l165.getD ((gI+1).tmod (l165.length:Int)).toNat (0,0)).1) ((l165.getD ((gI+1).tmod (l165.length:Int)).toNat (0,0)).2) x192 Akl).isSome=true))<|bif ((decide (Ags≠gI))&&(decide (Ags≠(gI+1).tmod (l165.length:Int))))&&(decide ((Hr N Ah3 Ai5 ((l165.getD ((gI+1).tmod (l165.length:Int)).toNat (0,0)).1) ((l165.getD ((gI+1).tmod (l165.length:Int)).toNat (0,0)).2) x192 Akl).getD 0<=0))then(some (.inr false))else(gd (Af (Ags+1))<|Dv N l165 gI Ah3 Ai5 n (Ags+1)))else(some (.inl ()))
def D7(N:Nat)(l165:List (Int×Int)):Nat->Int->Option (Sum Unit Bool)|0,_=>none|n+1,gI=>bif decide (gI<(l165.length:Int))then((A7 l165 gI).bind λ(Ah3,Ai5)=>gd (Af (gI+1))<|gd ((l165.length:Int)≠0)<|(Dv N l165 gI Ah3 Ai5 N 0).bind λbr=>match br with|.inl ()=>(gd (Af (gI+1))<|D7 N l165 n (gI+1))|.inr gi=>(some (.inr gi)))else(some (.inl ()))
def Cy(N:Nat)(l165:List (Int×Int)):Option Bool:=gd ((!((decide ((l165.length:Int)<3))||(decide (8<(l165.length:Int)))))=true->((Bm N l165).isSome=true))<|bif ((decide ((l165.length:Int)<3))||(decide (8<(l165.length:Int))))||((Bm N l165).getD false)then(some false)else((D7 N l165 N 0).bind λbq=>match bq with|.inl ()=>(some true)|.inr gh=>(some gh))
@[go_sem] def AdQ(N:Nat):Spec:=p0<|(Aon Aq<|Aof<|Aog false .b) (Cy N)
theorem P8(N:Nat):AG Tryz.prog 119 (AdQ N):=by
 refine fk (Aoq AjK (Ab (Rg N)<|Ab (cH N)<|Aj)) ?_;intro l165 r h _ hS F;dsimp only[AjK,Ah,Aq];unfold Cy at h;obtain⟨fx,h⟩:=un h;refine An hS F h (λ_ h=>?_) (λ_ h=>?_)
 ·exact Ai hS F h
 ·obtain⟨bq,gt,h⟩:=un h;refine go hS F ?_;refine Bz bq (λz:Nat=>⟨[],[],z⟩) (λz=>(.inl ():Sum Unit Bool)) (.x 0) ?_ ?_
  ·refine Bp (λn (y:Int×Nat)=>D7 N l165 n y.1) (λy=>⟨[(0,BP l165),(20,BP l165),(21,.i (l165.length:Int)),(22,.i y.1)],[],y.2⟩) (0,3) gt (Ch F) ?_;rintro n ⟨gI,bb⟩ ah;simp only[D7]at ah;refine An hS F ah (λ_ ah=>?_) (λ_ ah=>?_)
   ·obtain⟨⟨Ah3,Ai5⟩,ez,ah⟩:=un ah;obtain⟨g8,F⟩:=Cb Cz ez F;obtain⟨i9,ii,ah⟩:=un ah;obtain⟨br,iq,ah⟩:=un ah;refine go hS F ?_;refine Bz br (λz:Nat=>⟨[(0,BP l165),(20,BP l165),(21,.i (l165.length:Int)),(22,.i gI)],[],z⟩) (λz=>(.inl ():Sum Unit Bool)) (.x 2) ?_ ?_
    ·refine Bp (λn (y:Int×Nat)=>Dv N l165 gI Ah3 Ai5 n y.1) (λy=>⟨[(0,BP l165),(3,.i gI),(4,.box (503,bb+1+1) 0),(5,.i ((gI+1).tmod (l165.length:Int))),(20,BP l165),(21,.i (l165.length:Int)),(22,.i gI),(32,BP l165),(33,.i (l165.length:Int)),(34,.i y.1)],[(.c (503,bb+1+1) 0,.i Ah3),(.c (503,bb+1+1) 1,.i Ai5)],y.2⟩) (0,bb+1+1+1+1) iq (Ch F) ?_;rintro n ⟨Ags,fp⟩ ai;simp only[Dv]at ai;refine An hS F ai (λ_ ai=>?_) (λ_ ai=>?_)
     ·obtain⟨⟨x192,Akl⟩,ep,ai⟩:=un ai;obtain⟨gz,F⟩:=Cb Cz ep F;obtain⟨i7,i6,ai⟩:=un ai;refine An hS F ai (λ_ ai=>?_) (λ_ ai=>?_)
      ·obtain rfl:=yJ ai;obtain rfl:=yJ ah;exact Ai hS F h
      ·obtain⟨ip,ai⟩:=un ai;exact Cd hS F (n,Ags+1,fp+1+1+1+1) ai
     ·exact B4 hS F (fp+1) ai
    ·rintro gv rfl;obtain⟨im,ah⟩:=un ah;exact Cd hS F (n,gI+1,gv+1) ah
   ·exact B4 hS F (bb+1) ah
  ·rintro iy rfl;exact Ai hS F h
def EK(N:Nat)(aa:List (Int×Int)):List ((Int×Int)×(Int×Int))->Int->Option (Sum Unit Int)|[],ak=>some (.inl ())|((cj,ci),(ce,b9))::ys,ak=>(B0 N aa cj ci ce b9).bind λcu=>bif !cu then(some (.inr ak))else(gd (Af (ak+1))<|EK N aa ys (ak+1))
def HH(N:Nat)(l205:List (Int×Int))(aa:List (Int×Int)):Option Int:=gd (l205.length<=1000000000)<|(EK N aa (Co l205) 0).bind λbg=>match bg with|.inl ()=>(some (-1))|.inr gg=>(some gg)
@[go_sem] def AdR(N:Nat):Spec:=p0<|(Aon Aq<|Aon Aq<|Aof<|Aog 0 .i) (HH N)
theorem yC(N:Nat):AG Tryz.prog 199 (AdR N):=by
 refine fk (Aoq All (Ab eV<|Ab (XC N)<|Aj)) ?_;intro l205 aa r h _ hS F;dsimp only[All,Ah,Aq];unfold HH at h;obtain⟨fx,h⟩:=un h;obtain⟨bg,gt,h⟩:=un h;refine go hS F ?_;refine Bz bg (λz:Nat=>⟨[(4,.box (1,1) 0)],[(.c (1,1) 0,.i 0)],z⟩) (λz=>(.inl ():Sum Unit Int)) .n ?_ ?_
 ·refine Ac6 (λy:Nat×Int×Nat=>([(.c (100,2) 0,.i y.2.1),(.c (1,1) 0,.i 0),(.c (0,1) 0,BP aa)],y.2.2)) (λy=>EK N aa ((Co l205).drop y.1) y.2.1=some bg/\y.1<=(Co l205).length) (λy=>y.1) (0,0,3) (ev F) (kU l205 false (by assumption)) x214.ok ⟨rfl,rfl⟩ (by simp[All,Ah]) (by intro a ha;obtain⟨y,_,rfl⟩:=List.mem_map.1 ha;exact⟨rfl,rfl⟩) ⟨gt,tD _⟩ rfl ?_ ?_ ?_
  ·exact Ch F
  ·rintro l ⟨n,ak,bz⟩ ⟨ah,hle⟩ args ic;obtain⟨⟨⟨cj,ci⟩,⟨ce,b9⟩⟩,gw,rfl,hlt⟩:=Tz ic;simp only[gw,EK]at ah;clear ic gw;simp only[oZ,Jd];obtain⟨cu,d7,ah⟩:=un ah;replace F:=fc d7 F;refine An hS F ah (λ_ ah=>?_) (λ_ ah=>?_)
   ·obtain rfl:=yJ ah;exact Ai hS F h
   ·obtain⟨ig,ah⟩:=un ah;exact grg hS F (n+1,ak+1,bz+1+1+1+1+1) ah
  ·rintro⟨n,ak,bz⟩ ⟨ah,hle⟩ hk;rw[show n=_ from hk,W5]at ah;simp only[EK]at ah;exact B4 hS F bz ah
 ·rintro iw rfl;exact Ai hS F h
def Hs(N:Nat)(bi:List (Int×Int))(be:List (Int×Int)):Option (Int×Int×Bool):=(Cy N bi).bind λbp=>gd ((!(!bp))=true->((Cy N be).isSome=true))<|bif (!bp)||(!((Cy N be).getD false))then(some (0,0,false))else((HH N bi be).bind λbo=>bif decide (0<=bo)then(some (0,bo,true))else((HH N be bi).bind λbn=>bif decide (0<=bn)then(some (1,bn,true))else(some (0,0,false))))
@[go_sem] def AdS(N:Nat):Spec:=p0<|(Aon Aq<|Aon Aq<|Aof<|Aog (0,0,false) λr=>.tup [.i r.1,.i r.2.1,.b r.2.2]) (Hs N)
theorem yD(N:Nat):AG Tryz.prog 184 (AdS N):=by
 refine fk (Aoq Ai5 (Ab (P8 N)<|Ab (yC N)<|Aj)) ?_;intro bi be r h _ hS F;dsimp only[Ai5,Ah,Aq];unfold Hs at h;obtain⟨bp,dz,fx,h⟩:=un h;replace F:=fc dz F;refine An hS F h (λ_ h=>?_) (λ_ h=>?_)
 ·exact Ai hS F h
 ·obtain⟨bo,dw,h⟩:=un h;replace F:=fc dw F;refine An hS F h (λ_ h=>?_) (λ_ h=>?_)
  ·exact Ai hS F h
  ·obtain⟨bn,du,h⟩:=un h;replace F:=fc du F;refine An hS F h (λ_ h=>?_) (λ_ h=>?_)
   ·exact Ai hS F h
   ·exact Ai hS F h
def EB(N:Nat)(b7:List (Int×Int))(bh:List (Int×Int)):Option Bool:=(Hs N b7 bh).bind λ(ge,gc,cr)=>(Cy N b7).bind λbm=>gd (bm=true->((Cy N bh).isSome=true))<|some ((bm&&((Cy N bh).getD false))&&(!cr))
@[go_sem] def AdT(N:Nat):Spec:=p0<|(Aon Aq<|Aon Aq<|Aof<|Aog false .b) (EB N)
theorem yG(N:Nat):AG Tryz.prog 125 (AdT N):=by refine fk (Aoq AlF (Ab (yD N)<|Ab (P8 N)<|Aj)) ?_;intro b7 bh r h _ hS F;dsimp only[AlF,Ah,Aq];unfold EB at h;obtain⟨⟨ge,gc,cr⟩,dt,h⟩:=un h;obtain⟨bm,dq,fx,h⟩:=un h;exact Ai hS (fc dq (fc dt F)) h
def GF(N:Nat)(l243:List (Int×Int))(ab:Int)(ae:Int):Nat->Int->(List (Int×Int))->Option ((List (Int×Int)))|0,_,_=>none|n+1,x256,l257=>bif decide (x256<(l243.length:Int))then((A7 l257 x256).bind λ(aj,av)=>gd (Af (aj+ab))<|(A7 (l257.set x256.toNat (aj+ab,av)) x256).bind λ(bf,az)=>gd (Af (az+ae))<|gd (Af (x256+1))<|GF N l243 ab ae n (x256+1) ((l257.set x256.toNat (aj+ab,av)).set x256.toNat (bf,az+ae)))else(some l257)
def FT(N:Nat)(l243:List (Int×Int))(ab:Int)(ae:Int):Option ((List (Int×Int))×Int):=(Cy N l243).bind λcq=>bif ((!cq)||(decide (40<max ab ae)))||(decide (min ab ae<(-40)))then(some ([],70))else(gd (l243≠[])<|gd ((l243.length)*16<=140737488355328)<|(GF N l243 ab ae N 0 l243).bind λbw=>(Bm N bw).bind λco=>bif co then(some ([],70))else(some (bw,0)))
@[go_sem] def s90(N:Nat):Spec:=p0<|(Aon Aq<|Aoi<|Aoi<|Aof<|Aog ([],0) λr=>.tup [BP r.1,.i r.2]) (FT N)
theorem AbV(N:Nat):AG Tryz.prog 90 (s90 N):=by
 refine fk (Aoq x90 (Ab (P8 N)<|Ab (Rg N)<|Aj)) ?_;intro l243 ab ae r h _ hS F;dsimp only[x90,Ah,Aq];unfold FT at h;obtain⟨cq,dm,h⟩:=un h;replace F:=fc dm F;refine An hS F h (λ_ h=>?_) (λ_ h=>?_)
 ·exact Ai hS F h
 ·refine go hS F ?_;refine GO hS 1 x87.hf x87.hc x87.hn x87.ok rfl (ev F) (ev F) ?_ rfl (ev F) (oL rfl) λhb=>?_
  ·exact Bl hS F
  dsimp only[x87,Ah];obtain⟨fx,h⟩:=un h;refine KR hS F ?_;obtain⟨ja,h⟩:=un h;obtain⟨gr,ir,h⟩:=un h;refine go hS F ?_;refine Bz gr (λz:(List (Int×Int))×Nat=>⟨[(8,.own (300,6) z.1.length)],[(.a (300,6),LK z.1)],z.2⟩) (λz=>(z.1:(List (Int×Int)))) (.x 0) ?_ ?_
  ·refine Bp (λn (y:Int×(List (Int×Int))×Nat)=>GF N l243 ab ae n y.1 y.2.1) (λy=>⟨[(1,.i ab),(2,.i ae),(8,.own (300,6) y.2.1.length),(28,.i (l243.length:Int)),(29,.i y.1)],[(.a (300,6),LK y.2.1)],y.2.2⟩) (0,l243,8) ir (Ch F) ?_;rintro n ⟨x256,l257,fo⟩ ay;simp only[GF]at ay;refine An hS F ay (λ_ ay=>?_) (λ_ ay=>?_)
   ·obtain⟨⟨aj,av⟩,ej,ay⟩:=un ay;obtain⟨gy,F⟩:=Cb Cz ej F;obtain⟨ii,⟨bf,az⟩,bl,ay⟩:=un ay;have bj:(l257.set x256.toNat (aj+ab,av)).getD x256.toNat (0,0)=(bf,az):=ixs bl _;have ba:=QO (l257.set x256.toNat (aj+ab,av)) x256.toNat;rw[bj]at ba;simp only[List.map_set,Cz]at ba;have gx:=(Ng bl).1;obtain⟨ig,i8,ay⟩:=un ay;exact Cd hS (fc ba (fc bj F)) (n,x256+1,(l257.set x256.toNat (aj+ab,av)).set x256.toNat (bf,az+ae),fo+1+1+1+1+1) ay
   ·exact B4 hS F (l257,fo+1) ay
  ·rintro⟨bw,iv⟩ rfl;obtain⟨co,dl,h⟩:=un h;replace F:=fc dl F;refine An hS F h (λ_ h=>?_) (λ_ h=>?_)
   ·exact Ai hS F h
   ·exact Ai hS F h
end
section
open Go
end
open Go
attribute [local irreducible] Ax BO BB Bj BC Bk AY BD BK Cq
def Ef(N:Nat)(bq:Int)(an:Int)(ah:Int):Option Bool:=some ((decide (an<=bq))&&(decide (bq<=ah)))
@[go_sem] def Zv(N:Nat):Spec:=p0<|(Aoi<|Aoi<|Aoi<|Aof<|Aog false .b) (Ef N)
theorem cR(N:Nat):AG Tryz.prog 117 (Zv N):=by refine fk (Aoq AlD (Aj)) ?_;intro bq an ah r h _ hS F;dsimp only[AlD,Ah];unfold Ef at h;exact Ai hS F h
def B6(N:Nat)(bz:Int)(ak:Int)(bb:Int)(bn:List (Int×Int))(aj:Int)(ai:Int):Option Bool:=(Ef N bz 0 99).bind λam=>gd (am=true->((Ef N ak 1 8).isSome=true))<|gd ((am&&((Ef N ak 1 8).getD false))=true->((Ef N bb 0 7).isSome=true))<|gd ((((((am&&((Ef N ak 1 8).getD false))&&((Ef N bb 0 7).getD false))&&(decide (0<=aj)))&&(decide (aj<ai)))&&(decide (ai<=8)))=true->((Cy N bn).isSome=true))<|some ((((((am&&((Ef N ak 1 8).getD false))&&((Ef N bb 0 7).getD false))&&(decide (0<=aj)))&&(decide (aj<ai)))&&(decide (ai<=8)))&&((Cy N bn).getD false))
@[go_sem] def Yq(N:Nat):Spec:=p0<|(Aoh<|Aoi<|Aoi<|Aoi<|Aon Aq<|Aoi<|Aoi<|Aof<|Aof<|Aog false .b) (B6 N)
theorem Pj(N:Nat):AG Tryz.prog 91 (Yq N):=by refine fk (Aoq x91 (Ab (cR N)<|Ab (P8 N)<|Aj)) ?_;intro bz ak bb bn aj ai r h _ hS F;dsimp only[x91,Ah,Aq];unfold B6 at h;obtain⟨am,ci,dh,dl,dm,h⟩:=un h;exact Ai hS (fc ci F) h
def IP(N:Nat)(bj:Int)(bi:Int)(bh:Int)(bg:List (Int×Int))(ab:Int)(aa:Int)(bw:Int)(bv:Int)(bu:Int)(br:List (Int×Int))(af:Int)(ae:Int):Option (Int×Int×Bool):=gd ((decide (max ab af<min aa ae))=true->((B6 N bj bi bh bg ab aa).isSome=true))<|gd (((decide (max ab af<min aa ae))&&((B6 N bj bi bh bg ab aa).getD false))=true->((B6 N bw bv bu br af ae).isSome=true))<|some (max ab af,min aa ae,((decide (max ab af<min aa ae))&&((B6 N bj bi bh bg ab aa).getD false))&&((B6 N bw bv bu br af ae).getD false))
@[go_sem] def Tj(N:Nat):Spec:=p0<|(Aoh<|Aoi<|Aoi<|Aoi<|Aon Aq<|Aoi<|Aoi<|Aof<|Aoh<|Aoi<|Aoi<|Aoi<|Aon Aq<|Aoi<|Aoi<|Aof<|Aof<|Aog (0,0,false) λr=>.tup [.i r.1,.i r.2.1,.b r.2.2]) (IP N)
theorem yM(N:Nat):AG Tryz.prog 124 (Tj N):=by refine fk (Aoq AkL (Ab (Pj N)<|Aj)) ?_;intro bj bi bh bg ab aa bw bv bu br af ae r h _ hS F;dsimp only[AkL,Ah,Aq];unfold IP at h;obtain⟨dh,dl,h⟩:=un h;exact Ai hS F h
def Fy(N:Nat)(db:Int)(da:Int)(cz:Int)(bf:List (Int×Int))(cy:Int)(cu:Int)(cr:Int)(cq:Int)(co:Int)(be:List (Int×Int))(cn:Int)(cj:Int):Option Bool:=(IP N db da cz bf cy cu cr cq co be cn cj).bind λ(dg,de,bp)=>gd (bp=true->((EB N bf be).isSome=true))<|some (bp&&((EB N bf be).getD false))
@[go_sem] def AdW(N:Nat):Spec:=p0<|(Aoh<|Aoi<|Aoi<|Aoi<|Aon Aq<|Aoi<|Aoi<|Aof<|Aoh<|Aoi<|Aoi<|Aoi<|Aon Aq<|Aoi<|Aoi<|Aof<|Aof<|Aog false .b) (Fy N)
theorem cS(N:Nat):AG Tryz.prog 102 (AdW N):=by refine fk (Aoq Alx (Ab (yM N)<|Ab (yG N)<|Aj)) ?_;intro db da cz bf cy cu cr cq co be cn cj r h _ hS F;dsimp only[Alx,Ah,Aq];unfold Fy at h;obtain⟨⟨dg,de,bp⟩,ce,h⟩:=un h;obtain⟨dh,h⟩:=un h;exact Ai hS (fc ce F) h
def FR(N:Nat)(ba:Int)(az:Int)(ay:Int)(av:List (Int×Int))(au:Int)(aq:Int)(bm:Int)(bl:Int):Option ((Int×Int×Int×(List (Int×Int))×Int×Int)×Int):=(FT N av bm bl).bind λ(b7,bo)=>gd ((!(decide (bo≠0)))=true->((B6 N ba az ay av au aq).isSome=true))<|bif (decide (bo≠0))||(!((B6 N ba az ay av au aq).getD false))then(some ((0,0,0,[],0,0),80))else(some ((ba,az,ay,b7,au,aq),0))
@[go_sem] def s45(N:Nat):Spec:=p0<|(Aoh<|Aoi<|Aoi<|Aoi<|Aon Aq<|Aoi<|Aoi<|Aof<|Aoi<|Aoi<|Aof<|Aog ((0,0,0,[],0,0),0) λr=>.tup [.agg [.i r.1.1,.i r.1.2.1,.i r.1.2.2.1,BP r.1.2.2.2.1,.i r.1.2.2.2.2.1,.i r.1.2.2.2.2.2],.i r.2]) (FR N)
theorem nQ(N:Nat):AG Tryz.prog 45 (s45 N):=by
 refine fk (Aoq x45 (Ab (AbV N)<|Ab (Pj N)<|Aj)) ?_;intro ba az ay av au aq bm bl r h _ hS F;dsimp only[x45,Ah,Aq];unfold FR at h;obtain⟨⟨b7,bo⟩,b9,h⟩:=un h;obtain⟨dh,h⟩:=un h;replace F:=fc b9 F;refine An hS F h (λ_ h=>?_) (λ_ h=>?_)
 ·exact Ai hS F h
 ·exact Ai hS F h
