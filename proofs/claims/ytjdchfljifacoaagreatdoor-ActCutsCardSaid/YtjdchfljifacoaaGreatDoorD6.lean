import Derived.Test.YtjdchfljifacoaaGreatDoorD1
set_option linter.all false
set_option maxRecDepth 100000
set_option maxHeartbeats 8000000
namespace Go.Proofs.YtjdchfljifacoaaGreatDoor.Am
section
open Go
attribute [local irreducible] Aq BD Bv A8 Bq Ba AQ Bw By Ck
def QV(x:Int):List AV:=[.i x]
def jA:List AV->Int|[.v (.int _ a1)]=>a1|_=>0
theorem Ab7(x:Int):jA (QV x)=x:=by rfl
theorem Ab8(R:List Int):(R.map QV).map jA=R:=by
 induction R with
 |nil=>rfl
 |cons r R ih=>rw[w5,w5,ih,Ab7]
def Ug:Rw Int:=⟨1,QV,jA,[.i 0]⟩
def Fm(l:List Int):AV:=.sl 1 false (l.map QV) [.i 0]
def A_i(l:List Int):AV:=.sl 1 true (l.map QV) [.i 0]
attribute [go_sem] Ug Fm A_i QV jA Ab8
def DH(N:Nat)(ae:Int)(ab:Int)(ak:Int)(aj:Int)(ai:Int)(ah:Int):Option Int:=gd (Ai (ak-ae))<|gd (Ai (ah-ab))<|gd (Ai ((ak-ae)*(ah-ab)))<|gd (Ai (aj-ab))<|gd (Ai (ai-ae))<|gd (Ai ((aj-ab)*(ai-ae)))<|gd (Ai (((ak-ae)*(ah-ab))-((aj-ab)*(ai-ae))))<|some (((ak-ae)*(ah-ab))-((aj-ab)*(ai-ae)))
@[go_sem] def Ab9(N:Nat):Spec:=p0<|(qG<|qI<|qI<|qE<|qG<|qI<|qI<|qE<|qG<|qI<|qI<|qE<|qE<|qF 0 .i) (DH N)
theorem Ok(N:Nat):Au Tryz.prog 66 (Ab9 N):=by refine fk (wX Ua (Ae)) ?_;intro ae ab ak aj ai ah r h _ hS F;dsimp only[Ua,Ad];unfold DH at h;obtain⟨ce,b9,bq,b7,bz,bw,bv,h⟩:=un h;exact Ah hS F h
def Hm(N:Nat)(au:Int)(aq:Int):Option Bool:=some ((decide (min au aq<0))||(decide (40<max au aq)))
@[go_sem] def Aca(N:Nat):Spec:=p0<|(qG<|qI<|qI<|qE<|qE<|qF false .b) (Hm N)
theorem uO(N:Nat):Au Tryz.prog 87 (Aca N):=by refine fk (wX Y3 (Ae)) ?_;intro au aq r h _ hS F;dsimp only[Y3,Ad];unfold Hm at h;exact Ah hS F h
def Gv(N:Nat)(x65:Int):Option Bool:=some (decide (x65≠x65))
@[go_sem] def Acb(N:Nat):Spec:=p0<|(qI<|qE<|qF false .b) (Gv N)
theorem uP(N:Nat):Au Tryz.prog 85 (Acb N):=by refine fk (wX Y2 (Ae)) ?_;intro x65 r h _ hS F;dsimp only[Y2,Ad];unfold Gv at h;exact Ah hS F h
def DM(N:Nat)(Ua:Int)(am:Int):Option Int:=(Gv N Ua).bind λbi=>(Gv N am).bind λan=>bif bi then(bif an then(some 0)else(some (-1)))else(bif an then(some 1)else(bif decide (Ua<am)then(some (-1))else(bif decide (am<Ua)then(some 1)else(some 0))))
@[go_sem] def Acc(N:Nat):Spec:=p0<|(qI<|qI<|qE<|qF 0 .i) (DM N)
theorem Uh(N:Nat):Au Tryz.prog 62 (Acc N):=by
 refine fk (wX x62 (Aa (uP N)<|Ae)) ?_;intro Ua am r h _ hS F;dsimp only[x62,Ad];unfold DM at h;obtain⟨bi,bb,an,ba,h⟩:=un h;replace F:=fc ba (fc bb F);refine An hS F h (λ_ h=>?_) (λ_ h=>?_)
 ·refine An hS F h (λ_ h=>?_) (λ_ h=>?_)
  ·exact Ah hS F h
  ·exact Ah hS F h
 ·refine An hS F h (λ_ h=>?_) (λ_ h=>?_)
  ·exact Ah hS F h
  ·refine An hS F h (λ_ h=>?_) (λ_ h=>?_)
   ·exact Ah hS F h
   ·refine An hS F h (λ_ h=>?_) (λ_ h=>?_)
    ·exact Ah hS F h
    ·exact Ah hS F h
def EU(N:Nat)(vals72:List Int):Nat->Int->Option (Sum Unit Int)|0,_=>none|n+1,af=>bif decide (af<(vals72.length:Int))then((Bz vals72 af).bind λx78=>bif decide (x78≠0)then(some (.inr x78))else(gd (Ai (af+1))<|EU N vals72 n (af+1)))else(some (.inl ()))
def Jo(N:Nat)(vals72:List Int):Option Int:=(EU N vals72 N 0).bind λav=>match av with|.inl ()=>(some 0)|.inr bp=>(some bp)
@[go_sem] def Aam(N:Nat):Spec:=p0<|(qS Ug<|qE<|qF 0 .i) (Jo N)
theorem mO(N:Nat):Au Tryz.prog 92 (Aam N):=by
 refine fk (wX x92 (Ae)) ?_;intro vals72 r h _ hS F;dsimp only[x92,Ad,Ug];unfold Jo at h;obtain⟨av,bu,h⟩:=un h;refine go hS F ?_;refine BU av (λz:Nat=>⟨[(3,.i 0)],[],z⟩) (λz=>(.inl ():Sum Unit Int)) (.x 0) ?_ ?_
 ·refine BO (λn (y:Int×Nat)=>EU N vals72 n y.1) (λy=>⟨[(3,.i 0),(6,Fm vals72),(7,.i (vals72.length:Int)),(8,.i y.1)],[],y.2⟩) (0,3) bu (CB F) ?_;rintro n ⟨af,bo⟩ aa;simp only[EU]at aa;refine An hS F aa (λ_ aa=>?_) (λ_ aa=>?_)
  ·obtain⟨x78,be,aa⟩:=un aa;obtain⟨br,F⟩:=CH QV be F;refine An hS F aa (λ_ aa=>?_) (λ_ aa=>?_)
   ·obtain rfl:=yJ aa;exact Ah hS F h
   ·obtain⟨bq,aa⟩:=un aa;exact CS hS F (n,af+1,bo+1+1+1+1) aa
  ·exact Cu hS F (bo+1) aa
 ·rintro ci rfl;exact Ah hS F h
def Dh(N:Nat)(bn:Int)(bm:Int)(bl:Int)(bj:Int):Option Int:=(DM N bn bl).bind λbh=>(DM N bm bj).bind λbg=>(Jo N [bh,bg]).bind λbf=>some bf
@[go_sem] def Aan(N:Nat):Spec:=p0<|(qG<|qI<|qI<|qE<|qG<|qI<|qI<|qE<|qE<|qF 0 .i) (Dh N)
theorem Pg(N:Nat):Au Tryz.prog 68 (Aan N):=by refine fk (wX x68 (Aa (Uh N)<|Aa (mO N)<|Ae)) ?_;intro bn bm bl bj r h _ hS F;dsimp only[x68,Ad];unfold Dh at h;obtain⟨bh,az,bg,ay,bf,aw,h⟩:=un h;exact Ah hS (fc aw (fc ay (fc az F))) h
end
abbrev Pt:=Int×Int
def Aw(a b c:Pt):Int:=(b.1-a.1)*(c.2-a.2)-(b.2-a.2)*(c.1-a.1)
def dst(a b:Pt):Int:=(a.1-b.1)*(a.1-b.1)+(a.2-b.2)*(a.2-b.2)
def E5(v w p:Pt):Int:=(w.1-v.1)*(p.1-v.1)+(w.2-v.2)*(p.2-v.2)
def ES(g v p:Pt):Int:=g.1*(p.1-v.1)+g.2*(p.2-v.2)
def Zi(P:List Pt)(v:Pt):Prop:=∃g:Pt,∀p∈P,p≠v->0<ES g v p
structure Edge(P:List Pt)(v w:Pt):Prop where
 ne:v≠w
 mv:v∈P
 mw:w∈P
 left:∀p∈P,0<=Aw v w p
 seg:∀p∈P,Aw v w p=0->0<=E5 v w p/\0<=E5 w v p
theorem Nz(x:Int):0<=x*x:=by
 rcases Int.le_total 0 x with h|h
 all_goals simp_all[z8,Int.mul_nonneg_of_nonpos_of_nonpos]
theorem jF{x:Int}(h:x*x=0):x=0:=by rcases A40.1 h with h|h<;>exact h
theorem nC(a b:Pt):0<=dst a b:=by unfold dst;have h1:=Nz (a.1-b.1);have h2:=Nz (a.2-b.2);omega
theorem XH{a b:Pt}(h:dst a b=0):a=b:=by unfold dst at h;have h1:=Nz (a.1-b.1);have h2:=Nz (a.2-b.2);have:=jF (x:=a.1-b.1) (by omega);have:=jF (x:=a.2-b.2) (by omega);grind
theorem Pi{a b:Pt}(h:a≠b):0<dst a b:=by
 have:=nC a b;have:dst a b≠0:=λe=>h (XH e)
 omega
theorem Oo{x y:Int}(hx: -1000<=x/\x<=1000)(hy: -1000<=y/\y<=1000): -1000000<=x*y/\x*y<=1000000:=by have h1:0<=(1000-x)*(1000+y):=z8 (by omega) (by omega);have h2:0<=(1000+x)*(1000-y):=z8 (by omega) (by omega);have h3:0<=(1000+x)*(1000+y):=z8 (by omega) (by omega);have h4:0<=(1000-x)*(1000-y):=z8 (by omega) (by omega);constructor<;>grind
theorem vC(v w p:Pt):Aw v w p*Aw v w p+E5 w v p*E5 w v p=dst v w*dst p w:=by unfold Aw E5 dst;grind
theorem JU(a b c:Pt):Aw b c a=Aw a b c:=by unfold Aw;grind
theorem Kx(a b:Pt):Aw a b a=0:=by unfold Aw;grind
theorem HY(a b:Pt):Aw a b b=0:=by unfold Aw;grind
theorem Zj(a b:Pt):Aw a a b=0:=by unfold Aw;grind
def CN(p:Pt):Prop:=(-400<=p.1/\p.1<=400)/\(-400<=p.2/\p.2<=400)
theorem Edge.ext{P:List Pt}{v w:Pt}(h:Edge P v w)(hb:∀p∈P,CN p):Zi P w:=by
 refine⟨(10000000*(v.2-w.2)+(v.1-w.1),10000000*(w.1-v.1)+(v.2-w.2)),λp hp hne=>?_⟩;have e:ES (10000000*(v.2-w.2)+(v.1-w.1),10000000*(w.1-v.1)+(v.2-w.2)) w p=10000000*Aw v w p+E5 w v p:=by unfold ES Aw E5;grind
 have hl:=h.left p hp;rcases Int.lt_or_eq_of_le hl with hlt|heq
 ·have hv:=hb v h.mv;have hw:=hb w h.mw;have hp':=hb p hp;unfold CN at hv hw hp';have b1:=Oo (x:=v.1-w.1) (y:=p.1-w.1) (by omega) (by omega);have b2:=Oo (x:=v.2-w.2) (y:=p.2-w.2) (by omega) (by omega);grind[E5]
 ·have hs:=(h.seg p hp heq.symm).2;have hz:E5 w v p≠0:=λhz=>by
   have:=vC v w p;rw[<-heq,hz]at this;have h0:dst v w*dst p w=0:=by omega
   rcases A40.1 h0 with h0|h0
   ·exact h.ne (XH h0)
   ·exact hne (XH h0)
  omega
theorem jG(g o a b c:Pt):ES g o b*Aw o a c=ES g o a*Aw o b c+ES g o c*Aw o a b:=by unfold ES Aw;grind
theorem RE{g o a b:Pt}(h:Aw o a b=0):ES g o a*E5 o a b=ES g o b*dst a o:=by grind[ES,E5,dst,Aw]
theorem nD{g o a b:Pt}(h:Aw o a b=0):ES g o a*ES g o a*dst b o=ES g o b*ES g o b*dst a o:=by
 have e1:=RE (g:=g) h;have e2:ES g o b*E5 o b a=ES g o a*dst b o:=by grind[RE,Aw]
 grind[E5]
def Pj(o n p:Pt):Pt:=if p=o then n else if n=o\/Aw o n p<0\/(Aw o n p=0/\dst o n<dst o p)then p else n
def JJ(o:Pt)(P:List Pt):Pt:=P.foldl (Pj o) o
def Zk(o:Pt)(Q:List Pt)(n:Pt):Prop:=(n=o/\∀p∈Q,p=o)\/(n∈Q/\n≠o/\∀p∈Q,p=o\/(0<=Aw o n p/\(Aw o n p=0->dst o p<=dst o n)))
theorem Lc{a b:Int}(ha:0<a)(h:0<a*b):0<b:=by
 rcases A41 0 b with hb|hb
 ·exact hb
 ·have:=z8 (A29 ha) (show 0<=-b by omega);rw[Int.mul_neg]at this;omega
theorem IY{a b:Int}(ha:0<a)(h:0<=a*b):0<=b:=by
 rcases A41 b 0 with hb|hb
 ·have:=A35 ha (show 0< -b by omega);rw[Int.mul_neg]at this;omega
 ·exact hb
theorem Vx{a b:Int}(ha:0<a)(h:a*b=0):b=0:=by grind[A40]
theorem dV{o n p g:Pt}{Q:List Pt}(hg:∀q∈Q++[p],q≠o->0<ES g o q)(h:Zk o Q n):Zk o (Q++[p]) (Pj o n p):=by
 unfold Pj;by_cases hp:p=o
 ·rw[t8 hp];rcases h with⟨h1,h2⟩|⟨h1,h2,h3⟩
  ·exact .inl ⟨h1,λq hq=>by rcases y7.1 hq with hq|hq;exact h2 q hq;simp at hq;rw[hq,hp]⟩
  ·exact .inr ⟨by simp[h1],h2,λq hq=>by rcases y7.1 hq with hq|hq;exact h3 q hq;simp at hq;exact .inl (by rw[hq,hp])⟩
 ·rw[t7 hp];have gp:=hg p (by simp) hp;rcases h with⟨h1,h2⟩|⟨h1,h2,h3⟩
  ·rw[t8 (.inl h1)];refine .inr ⟨by simp,hp,λq hq=>?_⟩;rcases y7.1 hq with hq|hq
   ·exact .inl (h2 q hq)
   ·simp at hq;subst hq;exact .inr ⟨by rw[HY];omega,λ_=>by omega⟩
  ·have gn:=hg n (by simp[h1]) h2;by_cases hc:n=o\/Aw o n p<0\/(Aw o n p=0/\dst o n<dst o p)
   ·rw[t8 hc];refine .inr ⟨by simp,hp,λq hq=>?_⟩;rcases y7.1 hq with hq|hq
    ·by_cases hqo:q=o
     ·exact .inl hqo
     refine .inr ?_;have gq:=hg q (by simp[hq]) hqo;rcases h3 q hq with k|⟨k1,k2⟩
     ·exact absurd k hqo
     have pl:=jG g o p n q;have sw:Aw o p n= -Aw o n p:=by unfold Aw;grind
     rcases hc with hc|hc|⟨hc,hd⟩
     ·exact absurd hc h2
     ·have a1:0<ES g o q*Aw o p n:=A35 gq (by omega);have a2:0<=ES g o p*Aw o n q:=z8 (by omega) k1;have:=Lc gn (b:=Aw o p q) (by omega);exact⟨by omega,λe=>by omega⟩
     grind[Aw,z8,IY,Vx]
    ·simp at hq;subst hq;exact .inr ⟨by rw[HY];omega,λ_=>by omega⟩
   ·rw[t7 hc];refine .inr ⟨by simp[h1],h2,λq hq=>?_⟩;rcases y7.1 hq with hq|hq
    ·exact h3 q hq
    ·simp at hq;subst hq;omega
theorem Wu{o g:Pt}:∀(R Q:List Pt)(n:Pt),(∀q∈Q++R,q≠o->0<ES g o q)->Zk o Q n->Zk o (Q++R) (R.foldl (Pj o) n)
 |[],Q,n,_,h=>by simpa using h
 |p::R,Q,n,hg,h=>by
  have e:Q++p::R=(Q++[p])++R:=by simp
  rw[e]at hg⊢;exact Wu R (Q++[p]) _ hg (dV (λq hq=>hg q (by simp at hq⊢;rcases hq with h|h<;>simp[h])) h)
theorem dW{P:List Pt}{o:Pt}(ho:o∈P)(h:Zi P o):(JJ o P=o/\∀p∈P,p=o)\/Edge P o (JJ o P):=by
 obtain⟨g,hg⟩:=h;have hs:Zk o P (JJ o P):=by have:=Wu P [] o (by simpa using hg) (.inl ⟨rfl,by simp⟩);rw[A02]at this;exact this
 rcases hs with hs|⟨h1,h2,h3⟩
 ·exact .inl hs
 ·refine .inr ⟨by grind,ho,h1,λp hp=>?_,λp hp e=>?_⟩
  ·grind[Kx]
  ·have dn:0<dst (JJ o P) o:=Pi h2;have e2:E5 (JJ o P) o p=dst (JJ o P) o-E5 o (JJ o P) p:=by unfold E5 dst;grind
   by_cases hp':p=o
   ·grind[E5]
   have gp:=hg p hp hp';have gn:=hg _ h1 h2;have hd:dst o p<=dst o (JJ o P):=by grind
   have s1:dst o p=dst p o:=by unfold dst;grind
   have s2:dst o (JJ o P)=dst (JJ o P) o:=by unfold dst;grind
   have c1:=RE (g:=g) e;have c2:=nD (g:=g) e;have q1:=A35 gp dn;have d0:=Lc gn (b:=E5 o (JJ o P) p) (by omega);refine⟨by omega,?_⟩;rw[e2];generalize ES g o p=x at*;generalize ES g o (JJ o P)=y at*;generalize dst (JJ o P) o=D at*;generalize dst p o=α at*;generalize E5 o (JJ o P) p=t at*;have hxy:x<=y:=by
    rcases A41 y x with hlt|hle
    ·have a1:y*y<x*x:=by have:=Int.mul_lt_mul_of_pos_left hlt gn;have:=Int.mul_lt_mul_of_pos_right hlt gp;omega
     have a2:=Int.mul_lt_mul_of_pos_right a1 dn;have a3:y*y*α<=y*y*D:=Int.mul_le_mul_of_nonneg_left (by omega) (Nz y);omega
    ·exact hle
   have a4:x*D<=y*D:=by simp_all
   have a5:0<=y*(D-t):=by rw[Int.mul_sub];omega
   exact IY gn a5
theorem eq3{A B t:Int}(ht:0<=t)(h1:t<=A)(h2:t<=B)(pa:0<A)(pb:0<B)(la:t*t=A*B):A=t/\B=t:=by
 have k1:=Int.mul_le_mul_of_nonneg_left (by omega) (by omega);have k2:t*t<=A*t:=Int.mul_le_mul_of_nonneg_right (by omega) (by omega);have k3:0<=B*(t-A):=by rw[Int.mul_sub,Int.mul_comm B A,Int.mul_comm B t];omega
 have k4:0<=A*(t-B):=by rw[Int.mul_sub];omega
 have k5:=IY pb k3;have k6:=IY pa k4;omega
theorem Edge.pred{P:List Pt}{a b w:Pt}(h1:Edge P a w)(h2:Edge P b w):a=b:=by
 have l1:=h1.left b h2.mv;have l2:=h2.left a h1.mv;have e1:Aw b w a= -Aw a w b:=by unfold Aw;grind
 have z1:Aw a w b=0:=by omega
 have z2:Aw b w a=0:=by omega
 have s1:=h1.seg b h2.mv z1;have s2:=h2.seg a h1.mv z2;have la:=vC a w b;have pa:=Pi h1.ne;have pb:=Pi h2.ne;have i1:E5 a w b=dst a w-E5 w a b:=by unfold E5 dst;grind
 have i2:E5 b w a=dst b w-E5 w a b:=by unfold E5 dst;grind
 have i3:dst a b=dst a w+dst b w-2*E5 w a b:=by unfold E5 dst;grind
 rw[z1]at la;generalize dst a w=A at*;generalize dst b w=B at*;generalize E5 w a b=t at*;have:=eq3 (t:=t) (by omega) (by omega) (by omega) pa pb (by omega);exact XH (by omega)
def pa(l:List Pt)(i:Nat):Pt:=l.getD i (0,0)
theorem Fc{l:List Pt}{i:Nat}(h:i<l.length):pa l i=l[i]:=by grind[pa]
theorem B4{l:List Pt}{i:Nat}(h:i<l.length):pa l i∈l:=by rw[Fc h];exact by grind
theorem NA{l:List Pt}{p:Pt}(h:p∈l):∃i,i<l.length/\pa l i=p:=by obtain⟨i,hi,e⟩:=List.mem_iff_getElem.1 h;exact⟨i,hi,by rw[Fc hi,e]⟩
theorem vD{l:List Pt}(h:l.Nodup){i j:Nat}(hi:i<l.length)(hj:j<l.length)(e:pa l i=pa l j):i=j:=by rw[Fc hi,Fc hj]at e;have:=List.pairwise_iff_getElem.1 h;grind
theorem MK{l m:List Pt}{i:Nat}(h:i<l.length):pa (l++m) i=pa l i:=by rw[Fc (by simp;omega),Fc h,List.getElem_append_left h]
theorem Wv{l m:List Pt}{i:Nat}(h1:l.length<=i)(h:i<l.length+m.length):pa (l++m) i=pa m (i-l.length):=by rw[Fc (by simp;omega),Fc (by omega),List.getElem_append_right h1]
theorem Sx:∀(l:List Pt)(P:List Pt),l.Nodup->(∀p∈l,p∈P)->l.length<=P.length
 |[],_,_,_=>by simp
 |a::l,P,h,hs=>by
  rw[List.nodup_cons]at h;have ha:=hs a (by simp);have:=Sx l (P.erase a) h.2 λp hp=>by grind
  rw[List.length_erase_of_mem ha]at this;have:=List.length_pos_of_mem ha;simp;omega
def Conv(l:List Pt):Prop:=∀i k,i<l.length->k<l.length->k≠i->k≠(i+1)%l.length->0<Aw (pa l i) (pa l ((i+1)%l.length)) (pa l k)
structure HGood(P:List Pt)(f o:Pt)(out:List Pt):Prop where
 len:0<out.length
 hd:pa out 0=f
 lst:pa out (out.length-1)=o
 nd:out.Nodup
 sub:∀p∈out,p∈P
 ext:∀p∈out,Zi P p
 edge:∀i,i+1<out.length->Edge P (pa out i) (pa out (i+1))
structure HullOK(P r:List Pt):Prop where
 nd:r.Nodup
 sub:∀p∈r,p∈P
 len:0<r.length
 conv:3<=r.length->Conv r
def Ig(f p:Pt):Pt:=if p.2<f.2\/(p.2=f.2/\p.1<f.1)then p else f
def Oq(a:Pt)(P:List Pt):Pt:=P.foldl Ig a
def Up(f p:Pt):Prop:=f.2<p.2\/(f.2=p.2/\f.1<=p.1)
theorem Uq:∀(P:List Pt)(a:Pt),Oq a P∈a::P/\∀p∈a::P,Up (Oq a P) p
 |[],a=>⟨by simp[Oq],λp hp=>by simp at hp;subst hp;exact .inr ⟨rfl,Int.le_refl _⟩⟩
 |q::P,a=>by
  obtain⟨h1,h2⟩:=Uq P (Ig a q);have e:Oq a (q::P)=Oq (Ig a q) P:=rfl;have hs:(Ig a q=a\/Ig a q=q)/\Up (Ig a q) a/\Up (Ig a q) q:=by unfold Ig Up;split<;>refine⟨by simp,?_,?_⟩<;>omega
  refine⟨?_,λp hp=>?_⟩
  ·grind
  ·have h0:=h2 (Ig a q) (by simp);grind[Up]
theorem nE{P:List Pt}{f:Pt}(hb:∀p∈P,CN p)(hf:f∈P)(h:∀p∈P,Up f p):Zi P f:=by refine⟨(1,10000),λp hp hne=>?_⟩;grind[ES,CN,Up]
theorem dX{P:List Pt}{f:Pt}(hf:f∈P)(hx:Zi P f):HGood P f f [f]:=⟨by simp,rfl,rfl,by simp,by simp[hf],by simp[hx],by grind⟩
section
open Go
attribute [local irreducible] Aq BD Bv A8 Bq Ba AQ Bw By Ck
def BA(l:List Pt):List (Pt×Pt):=(List.range l.length).map λi=>(pa l i,pa l ((i+1)%l.length))
def SH(e:Pt×Pt):List AV:=[.agg [.i e.1.1,.i e.1.2],.agg [.i e.2.1,.i e.2.2]]
theorem XS{l:List Pt}{i:Nat}(h:i<l.length):(BA l)[i]? =some (pa l i,pa l ((i+1)%l.length)):=by unfold BA;rw[A07,List.getElem?_range h];rfl
theorem Jv(l:List Pt):(BA l).length=l.length:=by unfold BA;simp
theorem LR(l:List Pt)(f:Bool)(hlen:l.length<=1000000000):TU Tryz.prog 88 [] [.ro [.sl 2 f (l.map Ce) [.i 0,.i 0]] 0] ((BA l).map SH):=by
 refine VK (Ae (P:=Tryz.prog)) _ x88.hf x88.hc x88.hn (by simp[x88,Ad,gs]) (A01 rfl) λy V hOK hTS hY hYD=>?_
 have hS:=Ae (P:=Tryz.prog);dsimp only[x88,Ad,B3];refine go hS (fc hTS f0) ?_;refine Hf (λx:Nat×Nat=>⟨[(7,.i x.1),(6,.i l.length),(5,.sl 2 f (l.map Ce) [.i 0,.i 0]),(1,.ro [.sl 2 f (l.map Ce) [.i 0,.i 0]] 0),(gs,CD x.1),(0,.clo (.yield y) [] [])],[],x.2⟩)
  (λx=>x.1<=l.length) (λx=>l.length-x.1) (0,50) ?_ ?_ ?_
 ·simp
 ·refine Le.of ?_ ?_ (by simp)<;>(simp only[go_sem,seval];try simp)
 ·rintro⟨i,c⟩ hi;simp only at hi;refine go hS (fc hTS f0) ?_;refine QP ((i:Int)<l.length) (by simp only[go_sem,seval]<;>eq_refl) (by first|simp only[Bool.decide_or,Bool.decide_and,decide_not]|simp) (λhi1=>?_) (λhi1=>?_)
  ·have hi':i<l.length:=by omega
   have hm:(i+1)%l.length<l.length:=A17 _ (by omega);have hrow:DJ (l.map Ce) [.i 0,.i 0] i=[.i (pa l i).1,.i (pa l i).2]:=Pf l i;have hrow2:DJ (l.map Ce) [.i 0,.i 0] ((i+1)%l.length)=[.i (pa l ((i+1)%l.length)).1,.i (pa l ((i+1)%l.length)).2]:=Pf l _;have hmod:((i:Int)+1).tmod (l.length:Int)=(((i+1)%l.length:Nat):Int):=by rw[Int.tmod_eq_emod_of_nonneg (by omega)];rfl
   have hton:((((i+1)%l.length:Nat)):Int).toNat=(i+1)%l.length:=A19 _;refine go hS (fc hTS (fc hrow f0)) ?_;refine hYD 10 (args:=SH (pa l i,pa l ((i+1)%l.length))) rfl (by simp only[go_sem,seval,hTS]<;>eq_refl) (by simp only[go_sem,seval,hTS,hrow,hrow2,hmod,hton]<;>eq_refl) (by decide) ?_ (by simp only[go_sem,seval]<;>eq_refl) (by simp only[go_sem,seval]<;>eq_refl) (by simp only[go_sem,seval]<;>eq_refl) (by simp only[go_sem,seval,Am.SH]<;>eq_refl) ?_ (by simp only[go_sem,seval,hTS]<;>eq_refl) ?_ ?_ (by simp only[go_sem,seval,hTS]<;>eq_refl) ?_ ?_
   ·exact⟨⟨by omega,by omega⟩,by omega,by omega,by omega⟩
   ·rw[A07,XS hi'];rfl
   ·exact yT
   ·refine go hS (fc hTS f0) ?_;refine ME (by simp only[go_sem,seval]<;>eq_refl) ?_;refine go hS (fc hTS f0) ?_;refine Id (i+1,c+50) (by show i+1<=_;omega) (by show l.length-(i+1)<l.length-i;omega) (Le.of ?_ ?_ ?_)
    ·simp only[go_sem,seval]<;>simp
    ·simp only[go_sem,seval]
    ·simp
   ·exact yT
   ·refine go hS (fc hTS f0) ?_;refine Kr (by simp only[go_sem,seval]<;>eq_refl) ?_;refine go hS (fc hTS f0) ?_;refine QQ ?_;simp only[go_sem,seval]
  ·refine go hS (fc hTS f0) ?_;refine iS ?_;have:i=l.length:=by omega
   simp only[go_sem,seval,this,A04,Jv]
def Rj:Spec|[.sl z f rows d]=>some (True,.clo (.func 88) [] [.ro [.sl z f rows d] 0])|_=>none
theorem Mi:Au Tryz.prog 65 Rj:=⟨x65.ok,by
 intro args vc r h hv;unfold Rj at h;split at h
 ·cases h
  refine Nf (Ae (P:=Tryz.prog)) _ x65.hf x65.hc x65.hn (A01 rfl) λ_=>?_
  have hS:=Ae (P:=Tryz.prog);dsimp only[x65,Ad,B3];refine go hS f0 ?_
  first|refine Ks (by simp only[go_sem,seval]<;>eq_refl) (by simp only[go_sem,seval]) (by simp only[go_sem,seval]) ?_ rfl|refine Kt (by simp only[go_sem,seval]<;>eq_refl) (by simp only[go_sem,seval]) (by simp only[go_sem,seval]) ?_ rfl
  simp only[go_sem,seval]
 ·simp at h⟩
theorem JZ{E:Type}{xs:List E}{g:E->List AV}{k:Nat}{args:List AV}(h:(xs.map g)[k]? =some args):∃y,xs.drop k=y::xs.drop (k+1)/\args=g y/\k<xs.length:=by
 rw[A07]at h;cases hk:xs[k]? with
 |none=>rw[hk]at h;cases h
 |some y=>rw[hk]at h;obtain⟨h1,h2⟩:=y5.1 hk;exact⟨y,by rw[z7 h1,h2],(yJ h).symm,h1⟩
theorem J0{E:Type}{xs:List E}{g:E->List AV}:xs.drop (xs.map g).length=[]:=by rw[A04];exact List.drop_length
end
open Go
attribute [local irreducible] Aq BD Bv A8 Bq Ba AQ Bw By Ck
attribute [local go_sem] Rj
def AN(N:Nat)(s95:List (Int×Int)):Nat->Int->Option (Sum Unit Int)|0,_=>none|n+1,Mu=>bif decide (Mu<(s95.length:Int))then((Bz s95 Mu).bind λ(Uc,Ud)=>(Hm N Uc Ud).bind λfh=>bif fh then(some (.inr Mu))else(gd (Ai (Mu+1))<|AN N s95 n (Mu+1)))else(some (.inl ()))
def Cm(N:Nat)(s95:List (Int×Int)):Option Int:=(AN N s95 N 0).bind λcu=>match cu with|.inl ()=>(some (-1))|.inr ja=>(some ja)
@[go_sem] def Y7(N:Nat):Spec:=p0<|(qS Aj<|qL 87<|qE<|qE<|qF 0 .i) (Cm N)
theorem Vp(N:Nat):Au Tryz.prog 144 (Y7 N):=by
 refine fk (wX Xv (Aa (uO N)<|Ae)) ?_;intro s95 r h _ hS F;dsimp only[Xv,Ad,Aj];unfold Cm at h;obtain⟨cu,jf,h⟩:=un h;refine go hS F ?_;refine BU cu (λz:Nat=>⟨[],[],z⟩) (λz=>(.inl ():Sum Unit Int)) (.x 0) ?_ ?_
 ·refine BO (λn (y:Int×Nat)=>AN N s95 n y.1) (λy=>⟨[(0,BK s95),(1,.clo (.func 87) [] []),(7,.i (s95.length:Int)),(8,.i y.1)],[],y.2⟩) (0,2) jf (CB F) ?_;rintro n ⟨Mu,iz⟩ ai;simp only[AN]at ai;refine An hS F ai (λ_ ai=>?_) (λ_ ai=>?_)
  ·obtain⟨⟨Uc,Ud⟩,ii,ai⟩:=un ai;obtain⟨jo,F⟩:=CH Ce ii F;obtain⟨fh,gy,ai⟩:=un ai;replace F:=fc gy F;refine An hS F ai (λ_ ai=>?_) (λ_ ai=>?_)
   ·obtain rfl:=yJ ai;exact Ah hS F h
   ·obtain⟨jt,ai⟩:=un ai;exact CS hS F (n,Mu+1,iz+1+1+1+1) ai
  ·exact Cu hS F (iz+1) ai
 ·rintro j8 rfl;exact Ah hS F h
def A7(N:Nat)(Xz:List (Int×Int)):Option Bool:=(Cm N Xz).bind λfg=>some (decide (0<=fg))
@[go_sem] def Y8(N:Nat):Spec:=p0<|(qS Aj<|qL 87<|qE<|qE<|qF false .b) (A7 N)
theorem PF(N:Nat):Au Tryz.prog 86 (Y8 N):=by refine fk (wX Ub (Aa (Vp N)<|Ae)) ?_;intro Xz r h _ hS F;dsimp only[Ub,Ad,Aj];unfold A7 at h;obtain⟨fg,gx,h⟩:=un h;exact Ah hS (fc gx F) h
def HJ(N:Nat)(fm:Int)(fj:Int)(JR:Int)(Oi:Int)(x121:Int)(Oj:Int):Option Bool:=(DH N JR Oi x121 Oj fm fj).bind λe9=>some (decide (0<e9))
@[go_sem] def Acd(N:Nat):Spec:=p0<|(qG<|qI<|qI<|qE<|qO<|qI<|qI<|qE<|qO<|qI<|qI<|qE<|qE<|qF false .b) (HJ N)
theorem uQ(N:Nat):Au Tryz.prog 147 (Acd N):=by refine fk (wX uC (Aa (Ok N)<|Ae)) ?_;intro fm fj JR Oi x121 Oj r h _ hS F;dsimp only[uC,Ad];unfold HJ at h;obtain⟨e9,gw,h⟩:=un h;exact Ah hS (fc gw F) h
def AB(N:Nat)(s125:List (Int×Int))(bh:Int)(bg:Int)(bf:Int)(be:Int):Nat->Int->Option (Sum Unit Int)|0,_=>none|n+1,x137=>bif decide (x137<(s125.length:Int))then((Bz s125 x137).bind λ(x138,x139)=>(HJ N x138 x139 bh bg bf be).bind λe8=>bif e8 then(some (.inr x137))else(gd (Ai (x137+1))<|AB N s125 bh bg bf be n (x137+1)))else(some (.inl ()))
def Cn(N:Nat)(s125:List (Int×Int))(bh:Int)(bg:Int)(bf:Int)(be:Int):Option Int:=(AB N s125 bh bg bf be N 0).bind λcr=>match cr with|.inl ()=>(some (-1))|.inr i9=>(some i9)
@[go_sem] def Y9(N:Nat):Spec:=p0<|(qS Aj<|qL 147<|qO<|qI<|qI<|qE<|qO<|qI<|qI<|qE<|qE<|qE<|qF 0 .i) (Cn N)
theorem Vq(N:Nat):Au Tryz.prog 144 (Y9 N):=by
 refine fk (wX Xv (Aa (uQ N)<|Ae)) ?_;intro s125 bh bg bf be r h _ hS F;dsimp only[Xv,Ad,Aj];unfold Cn at h;obtain⟨cr,jf,h⟩:=un h;refine go hS F ?_;refine BU cr (λz:Nat=>⟨[],[],z⟩) (λz=>(.inl ():Sum Unit Int)) (.x 0) ?_ ?_
 ·refine BO (λn (y:Int×Nat)=>AB N s125 bh bg bf be n y.1) (λy=>⟨[(0,BK s125),(1,.clo (.func 147) [] [.ro [.i bh,.i bg] 0,.ro [.i bf,.i be] 0]),(7,.i (s125.length:Int)),(8,.i y.1)],[],y.2⟩) (0,2) jf (CB F) ?_;rintro n ⟨x137,iy⟩ ai;simp only[AB]at ai;refine An hS F ai (λ_ ai=>?_) (λ_ ai=>?_)
  ·obtain⟨⟨x138,x139⟩,ig,ai⟩:=un ai;obtain⟨jn,F⟩:=CH Ce ig F;obtain⟨e8,gu,ai⟩:=un ai;replace F:=fc gu F;refine An hS F ai (λ_ ai=>?_) (λ_ ai=>?_)
   ·obtain rfl:=yJ ai;exact Ah hS F h
   ·obtain⟨jt,ai⟩:=un ai;exact CS hS F (n,x137+1,iy+1+1+1+1) ai
  ·exact Cu hS F (iy+1) ai
 ·rintro j7 rfl;exact Ah hS F h
def BF(N:Nat)(d9:List (Int×Int))(iq:Int)(ip:Int)(im:Int)(ij:Int):Option Bool:=(Cn N d9 iq ip im ij).bind λez=>some (decide (0<=ez))
@[go_sem] def Za(N:Nat):Spec:=p0<|(qS Aj<|qL 147<|qO<|qI<|qI<|qE<|qO<|qI<|qI<|qE<|qE<|qE<|qF false .b) (BF N)
theorem Vr(N:Nat):Au Tryz.prog 86 (Za N):=by refine fk (wX Ub (Aa (Vq N)<|Ae)) ?_;intro d9 iq ip im ij r h _ hS F;dsimp only[Ub,Ad,Aj];unfold BF at h;obtain⟨ez,gt,h⟩:=un h;exact Ah hS (fc gt F) h
def C4(N:Nat)(l155:List (Int×Int))(E4:Int)(Nv:Int)(Nw:Int):Nat->Int->Option (Sum Unit Bool)|0,_=>none|n+1,JS=>bif decide (JS<(l155.length:Int))then((Bz l155 JS).bind λ(RC,RD)=>gd (((decide (JS≠E4))&&(decide (JS≠(E4+1).tmod (l155.length:Int))))=true->(0<=(E4+1).tmod (l155.length:Int)/\(E4+1).tmod (l155.length:Int)<(l155.length:Int)))<|gd (((decide (JS≠E4))&&(decide (JS≠(E4+1).tmod (l155.length:Int))))=true->((DH N Nv Nw ((l155.getD ((E4+1).tmod (l155.length:Int)).toNat (0,0)).1) ((l155.getD ((E4+1).tmod (l155.length:Int)).toNat (0,0)).2) RC RD).isSome=true))<|bif ((decide (JS≠E4))&&(decide (JS≠(E4+1).tmod (l155.length:Int))))&&(decide ((DH N Nv Nw ((l155.getD ((E4+1).tmod (l155.length:Int)).toNat (0,0)).1) ((l155.getD ((E4+1).tmod (l155.length:Int)).toNat (0,0)).2) RC RD).getD 0<=0))then(some (.inr false))else(gd (Ai (JS+1))<|C4 N l155 E4 Nv Nw n (JS+1)))else(some (.inl ()))
def DB(N:Nat)(l155:List (Int×Int)):Nat->Int->Option (Sum Unit Bool)|0,_=>none|n+1,E4=>bif decide (E4<(l155.length:Int))then((Bz l155 E4).bind λ(Nv,Nw)=>gd (Ai (E4+1))<|gd ((l155.length:Int)≠0)<|(C4 N l155 E4 Nv Nw N 0).bind λcq=>match cq with|.inl ()=>(gd (Ai (E4+1))<|DB N l155 n (E4+1))|.inr i8=>(some (.inr i8)))else(some (.inl ()))
def Bt(N:Nat)(l155:List (Int×Int)):Option Bool:=gd ((!((decide ((l155.length:Int)<3))||(decide (8<(l155.length:Int)))))=true->((A7 N l155).isSome=true))<|bif ((decide ((l155.length:Int)<3))||(decide (8<(l155.length:Int))))||((A7 N l155).getD false)then(some false)else((DB N l155 N 0).bind λco=>match co with|.inl ()=>(some true)|.inr i7=>(some i7))
@[go_sem] def Ace(N:Nat):Spec:=p0<|(qS Aj<|qE<|qF false .b) (Bt N)
theorem Kw(N:Nat):Au Tryz.prog 64 (Ace N):=by
 refine fk (wX x64 (Aa (PF N)<|Aa (Ok N)<|Ae)) ?_;intro l155 r h _ hS F;dsimp only[x64,Ad,Aj];unfold Bt at h;obtain⟨dl,h⟩:=un h;refine An hS F h (λ_ h=>?_) (λ_ h=>?_)
 ·exact Ah hS F h
 ·obtain⟨co,da,h⟩:=un h;refine go hS F ?_;refine BU co (λz:Nat=>⟨[],[],z⟩) (λz=>(.inl ():Sum Unit Bool)) (.x 0) ?_ ?_
  ·refine BO (λn (y:Int×Nat)=>DB N l155 n y.1) (λy=>⟨[(0,BK l155),(20,BK l155),(21,.i (l155.length:Int)),(22,.i y.1)],[],y.2⟩) (0,3) da (CB F) ?_;rintro n ⟨E4,bo⟩ aa;simp only[DB]at aa;refine An hS F aa (λ_ aa=>?_) (λ_ aa=>?_)
   ·obtain⟨⟨Nv,Nw⟩,ic,aa⟩:=un aa;obtain⟨jm,F⟩:=CH Ce ic F;obtain⟨j9,js,aa⟩:=un aa;obtain⟨cq,jw,aa⟩:=un aa;refine go hS F ?_;refine BU cq (λz:Nat=>⟨[(0,BK l155),(20,BK l155),(21,.i (l155.length:Int)),(22,.i E4)],[],z⟩) (λz=>(.inl ():Sum Unit Bool)) (.x 2) ?_ ?_
    ·refine BO (λn (y:Int×Nat)=>C4 N l155 E4 Nv Nw n y.1) (λy=>⟨[(0,BK l155),(3,.i E4),(4,.box (503,bo+1+1) 0),(5,.i ((E4+1).tmod (l155.length:Int))),(20,BK l155),(21,.i (l155.length:Int)),(22,.i E4),(32,BK l155),(33,.i (l155.length:Int)),(34,.i y.1)],[(.c (503,bo+1+1) 0,.i Nv),(.c (503,bo+1+1) 1,.i Nw)],y.2⟩) (0,bo+1+1+1+1) jw (CB F) ?_;rintro n ⟨JS,iw⟩ aw;simp only[C4]at aw;refine An hS F aw (λ_ aw=>?_) (λ_ aw=>?_)
     ·obtain⟨⟨RC,RD⟩,ib,aw⟩:=un aw;obtain⟨jl,F⟩:=CH Ce ib F;obtain⟨jq,jp,aw⟩:=un aw;refine An hS F aw (λ_ aw=>?_) (λ_ aw=>?_)
      ·obtain rfl:=yJ aw;obtain rfl:=yJ aa;exact Ah hS F h
      ·obtain⟨je,aw⟩:=un aw;exact CS hS F (n,JS+1,iw+1+1+1+1) aw
     ·exact Cu hS F (iw+1) aw
    ·rintro jg rfl;obtain⟨jd,aa⟩:=un aa;exact CS hS F (n,E4+1,jg+1) aa
   ·exact Cu hS F (bo+1) aa
  ·rintro j6 rfl;exact Ah hS F h
def D9(N:Nat)(l195:List (Int×Int)):List ((Int×Int)×(Int×Int))->Int->Option Int|[],af=>some af|((d5,dz),(dy,dx))::ys,af=>(Bz l195 0).bind λ(d8,d7)=>(DH N d8 d7 d5 dz dy dx).bind λbr=>gd (Ai (af+br))<|D9 N l195 ys (af+br)
def Hn(N:Nat)(l195:List (Int×Int)):Option Int:=(Bt N l195).bind λeu=>bif !eu then(some 0)else(gd (l195.length<=1000000000)<|(D9 N l195 (BA l195) 0).bind λbm=>some bm)
@[go_sem] def Aao(N:Nat):Spec:=p0<|(qS Aj<|qE<|qF 0 .i) (Hn N)
theorem mQ(N:Nat):Au Tryz.prog 70 (Aao N):=by
 refine fk (wX YY (Aa (Kw N)<|Aa Mi<|Aa (Ok N)<|Ae)) ?_;intro l195 r h _ hS F;dsimp only[YY,Ad,Aj];unfold Hn at h;obtain⟨eu,gr,h⟩:=un h;replace F:=fc gr F;refine An hS F h (λ_ h=>?_) (λ_ h=>?_)
 ·exact Ah hS F h
 ·obtain⟨dl,h⟩:=un h;obtain⟨fp,da,h⟩:=un h;refine go hS F ?_;refine BU fp (λz:Int×Nat=>⟨[(3,.box (300,3) 0)],[(.c (300,3) 0,.i z.1)],z.2⟩) (λz=>(z.1:Int)) .n ?_ ?_
  ·refine Nr (λy:Nat×Int×Nat=>([(.c (300,3) 0,.i y.2.1),(.c (0,1) 0,BK l195)],y.2.2)) (λy=>D9 N l195 ((BA l195).drop y.1) y.2.1=some fp/\y.1<=(BA l195).length) (λy=>y.1) (0,0,4) (ev F) (LR l195 false (by assumption)) x88.ok ⟨rfl,rfl⟩ (by simp[YY,Ad]) (by intro a ha;obtain⟨y,_,rfl⟩:=List.mem_map.1 ha;exact⟨rfl,rfl⟩) ⟨da,A16 _⟩ rfl ?_ ?_ ?_
   ·exact CB F
   ·rintro l ⟨n,af,dg⟩ ⟨aa,hle⟩ args ce;obtain⟨⟨⟨d5,dz⟩,⟨dy,dx⟩⟩,bz,rfl,hlt⟩:=JZ ce;simp only[bz,D9]at aa;clear ce bz;simp only[SH,Gq];obtain⟨⟨d8,d7⟩,g9,aa⟩:=un aa;obtain⟨jk,F⟩:=V4 0 Ce g9 F;obtain⟨br,gm,jc,aa⟩:=un aa;exact TP hS (fc gm F) (n+1,af+br,dg+1+1+1) aa
   ·rintro⟨n,af,dg⟩ ⟨aa,hle⟩ hk;rw[show n=_ from hk,J0]at aa;simp only[D9]at aa;exact Cu hS F (af,dg) aa
  ·rintro⟨bm,j5⟩ rfl;exact Ah hS F h
def Ds(N:Nat)(l224:List (Int×Int)):List ((Int×Int)×(Int×Int))->Int->Int->Option (Int×Int)|[],an,av=>some (an,av)|((am,ak),(az,ay))::ys,an,av=>(Bz l224 0).bind λ(au,aq)=>(DH N au aq am ak az ay).bind λaj=>gd (Ai (au+am))<|gd (Ai ((au+am)+az))<|gd (Ai (aj*((au+am)+az)))<|gd (Ai (av+(aj*((au+am)+az))))<|gd (Ai (aq+ak))<|gd (Ai ((aq+ak)+ay))<|gd (Ai (aj*((aq+ak)+ay)))<|gd (Ai (an+(aj*((aq+ak)+ay))))<|Ds N l224 ys (an+(aj*((aq+ak)+ay))) (av+(aj*((au+am)+az)))
def Gw(N:Nat)(l224:List (Int×Int)):Option (Int×Int):=(Bt N l224).bind λep=>bif !ep then(some (0,0))else(gd (l224.length<=1000000000)<|(Ds N l224 (BA l224) 0 0).bind λ(dw,d6)=>some (d6,dw))
@[go_sem] def Aap(N:Nat):Spec:=p0<|(qS Aj<|qE<|qF (0,0) λr=>.tup [.i r.1,.i r.2]) (Gw N)
theorem mR(N:Nat):Au Tryz.prog 42 (Aap N):=by
 refine fk (wX Wo (Aa (Kw N)<|Aa Mi<|Aa (Ok N)<|Ae)) ?_;intro l224 r h _ hS F;dsimp only[Wo,Ad,Aj];unfold Gw at h;obtain⟨ep,gj,h⟩:=un h;replace F:=fc gj F;refine An hS F h (λ_ h=>?_) (λ_ h=>?_)
 ·exact Ah hS F h
 ·obtain⟨dl,h⟩:=un h;obtain⟨fo,da,h⟩:=un h;refine go hS F ?_;refine BU fo (λz:Int×Int×Nat=>⟨[(2,.box (1,1) 0),(3,.box (2,1) 0)],[(.c (2,1) 0,.i z.1),(.c (1,1) 0,.i z.2.1)],z.2.2⟩) (λz=>((z.1,z.2.1):Int×Int)) .n ?_ ?_
  ·refine Nr (λy:Nat×Int×Int×Nat=>([(.c (2,1) 0,.i y.2.1),(.c (1,1) 0,.i y.2.2.1),(.c (0,1) 0,BK l224)],y.2.2.2)) (λy=>Ds N l224 ((BA l224).drop y.1) y.2.1 y.2.2.1=some fo/\y.1<=(BA l224).length) (λy=>y.1) (0,0,0,3) (ev F) (LR l224 false (by assumption)) x88.ok ⟨rfl,rfl⟩ (by simp[Wo,Ad]) (by intro a ha;obtain⟨y,_,rfl⟩:=List.mem_map.1 ha;exact⟨rfl,rfl⟩) ⟨da,A16 _⟩ rfl ?_ ?_ ?_
   ·exact CB F
   ·rintro l ⟨n,an,av,de⟩ ⟨aa,hle⟩ args ce;obtain⟨⟨⟨am,ak⟩,⟨az,ay⟩⟩,bz,rfl,hlt⟩:=JZ ce;simp only[bz,Ds]at aa;clear ce bz;simp only[SH,Gq];obtain⟨⟨au,aq⟩,g8,aa⟩:=un aa;obtain⟨jj,F⟩:=V4 0 Ce g8 F;obtain⟨aj,gi,jc,jr,jq,jp,je,jd,jv,ju,aa⟩:=un aa;exact TP hS (fc gi F) (n+1,an+(aj*((aq+ak)+ay)),av+(aj*((au+am)+az)),de+1+1+1+1+1) aa
   ·rintro⟨n,an,av,de⟩ ⟨aa,hle⟩ hk;rw[show n=_ from hk,J0]at aa;simp only[Ds]at aa;exact Cu hS F (an,av,de) aa
  ·rintro⟨dw,d6,j4⟩ rfl;exact Ah hS F h
def Ea(N:Nat)(ab:List (Int×Int)):List ((Int×Int)×(Int×Int))->Int->Option (Sum Unit Int)|[],bb=>some (.inl ())|((du,dt),(dq,dm))::ys,bb=>(BF N ab du dt dq dm).bind λel=>bif !el then(some (.inr bb))else(gd (Ai (bb+1))<|Ea N ab ys (bb+1))
def Gf(N:Nat)(l256:List (Int×Int))(ab:List (Int×Int)):Option Int:=gd (l256.length<=1000000000)<|(Ea N ab (BA l256) 0).bind λbu=>match bu with|.inl ()=>(some (-1))|.inr i6=>(some i6)
@[go_sem] def Acf(N:Nat):Spec:=p0<|(qS Aj<|qS Aj<|qE<|qF 0 .i) (Gf N)
theorem uR(N:Nat):Au Tryz.prog 93 (Acf N):=by
 refine fk (wX tE (Aa Mi<|Aa (Vr N)<|Ae)) ?_;intro l256 ab r h _ hS F;dsimp only[tE,Ad,Aj];unfold Gf at h;obtain⟨dl,h⟩:=un h;obtain⟨bu,da,h⟩:=un h;refine go hS F ?_;refine BU bu (λz:Nat=>⟨[(4,.box (1,1) 0)],[(.c (1,1) 0,.i 0)],z⟩) (λz=>(.inl ():Sum Unit Int)) .n ?_ ?_
 ·refine Nr (λy:Nat×Int×Nat=>([(.c (100,2) 0,.i y.2.1),(.c (1,1) 0,.i 0),(.c (0,1) 0,BK ab)],y.2.2)) (λy=>Ea N ab ((BA l256).drop y.1) y.2.1=some bu/\y.1<=(BA l256).length) (λy=>y.1) (0,0,3) (ev F) (LR l256 false (by assumption)) x88.ok ⟨rfl,rfl⟩ (by simp[tE,Ad]) (by intro a ha;obtain⟨y,_,rfl⟩:=List.mem_map.1 ha;exact⟨rfl,rfl⟩) ⟨da,A16 _⟩ rfl ?_ ?_ ?_
  ·exact CB F
  ·rintro l ⟨n,bb,db⟩ ⟨aa,hle⟩ args ce;obtain⟨⟨⟨du,dt⟩,⟨dq,dm⟩⟩,bz,rfl,hlt⟩:=JZ ce;simp only[bz,Ea]at aa;clear ce bz;simp only[SH,Gq];obtain⟨el,gh,aa⟩:=un aa;replace F:=fc gh F;refine An hS F aa (λ_ aa=>?_) (λ_ aa=>?_)
   ·obtain rfl:=yJ aa;exact Ah hS F h
   ·obtain⟨jc,aa⟩:=un aa;exact TP hS F (n+1,bb+1,db+1+1+1+1+1) aa
  ·rintro⟨n,bb,db⟩ ⟨aa,hle⟩ hk;rw[show n=_ from hk,J0]at aa;simp only[Ea]at aa;exact Cu hS F db aa
 ·rintro jz rfl;exact Ah hS F h
def F7(N:Nat)(bw:List (Int×Int))(bp:List (Int×Int)):Option (Int×Int×Bool):=(Bt N bw).bind λcn=>gd ((!(!cn))=true->((Bt N bp).isSome=true))<|bif (!cn)||(!((Bt N bp).getD false))then(some (0,0,false))else((Gf N bw bp).bind λck=>bif decide (0<=ck)then(some (0,ck,true))else((Gf N bp bw).bind λcj=>bif decide (0<=cj)then(some (1,cj,true))else(some (0,0,false))))
@[go_sem] def Acg(N:Nat):Spec:=p0<|(qS Aj<|qS Aj<|qE<|qF (0,0,false) λr=>.tup [.i r.1,.i r.2.1,.b r.2.2]) (F7 N)
theorem uS(N:Nat):Au Tryz.prog 69 (Acg N):=by
 refine fk (wX x69 (Aa (Kw N)<|Aa (uR N)<|Ae)) ?_;intro bw bp r h _ hS F;dsimp only[x69,Ad,Aj];unfold F7 at h;obtain⟨cn,gg,dl,h⟩:=un h;replace F:=fc gg F;refine An hS F h (λ_ h=>?_) (λ_ h=>?_)
 ·exact Ah hS F h
 ·obtain⟨ck,ge,h⟩:=un h;replace F:=fc ge F;refine An hS F h (λ_ h=>?_) (λ_ h=>?_)
  ·exact Ah hS F h
  ·obtain⟨cj,gc,h⟩:=un h;replace F:=fc gc F;refine An hS F h (λ_ h=>?_) (λ_ h=>?_)
   ·exact Ah hS F h
   ·exact Ah hS F h
def CX(N:Nat)(dh:List (Int×Int))(bv:List (Int×Int)):Option Bool:=(F7 N dh bv).bind λ(i5,i4,ej)=>(Bt N dh).bind λci=>gd (ci=true->((Bt N bv).isSome=true))<|some ((ci&&((Bt N bv).getD false))&&(!ej))
@[go_sem] def s125(N:Nat):Spec:=p0<|(qS Aj<|qS Aj<|qE<|qF false .b) (CX N)
theorem Zb(N:Nat):Au Tryz.prog 39 (s125 N):=by refine fk (wX YS (Aa (uS N)<|Aa (Kw N)<|Ae)) ?_;intro dh bv r h _ hS F;dsimp only[YS,Ad,Aj];unfold CX at h;obtain⟨⟨i5,i4,ej⟩,fy,h⟩:=un h;obtain⟨ci,fx,dl,h⟩:=un h;exact Ah hS (fc fx (fc fy F)) h
def Fu(N:Nat)(l294:List (Int×Int))(ae:Int)(ah:Int):Nat->Int->(List (Int×Int))->Option ((List (Int×Int)))|0,_,_=>none|n+1,x307,l308=>bif decide (x307<(l294.length:Int))then((Bz l308 x307).bind λ(ba,bi)=>gd (Ai (ba+ae))<|(Bz (l308.set x307.toNat (ba+ae,bi)) x307).bind λ(bq,bl)=>gd (Ai (bl+ah))<|gd (Ai (x307+1))<|Fu N l294 ae ah n (x307+1) ((l308.set x307.toNat (ba+ae,bi)).set x307.toNat (bq,bl+ah)))else(some l308)
def GY(N:Nat)(l294:List (Int×Int))(ae:Int)(ah:Int):Option ((List (Int×Int))×Int):=(Bt N l294).bind λeh=>bif ((!eh)||(decide (40<max ae ah)))||(decide (min ae ah<(-40)))then(some ([],70))else(gd (l294≠[])<|gd ((l294.length)*16<=140737488355328)<|(Fu N l294 ae ah N 0 l294).bind λcy=>(A7 N cy).bind λee=>bif ee then(some ([],70))else(some (cy,0)))
@[go_sem] def s90(N:Nat):Spec:=p0<|(qS Aj<|qI<|qI<|qE<|qF ([],0) λr=>.tup [BK r.1,.i r.2]) (GY N)
theorem Aaq(N:Nat):Au Tryz.prog 156 (s90 N):=by
 refine fk (wX uH (Aa (Kw N)<|Aa (PF N)<|Ae)) ?_;intro l294 ae ah r h _ hS F;dsimp only[uH,Ad,Aj];unfold GY at h;obtain⟨eh,fr,h⟩:=un h;replace F:=fc fr F;refine An hS F h (λ_ h=>?_) (λ_ h=>?_)
 ·exact Ah hS F h
 ·refine go hS F ?_;refine C3 hS 1 x35.hf x35.hc x35.hn x35.ok rfl (ev F) (ev F) ?_ rfl (ev F) (A01 rfl) λhb=>?_
  ·exact AS hS F
  dsimp only[x35,Ad];obtain⟨dl,h⟩:=un h;refine Gn hS F ?_;obtain⟨ka,h⟩:=un h;obtain⟨jb,jx,h⟩:=un h;refine go hS F ?_;refine BU jb (λz:(List (Int×Int))×Nat=>⟨[(8,.own (300,6) z.1.length)],[(.a (300,6),P8 z.1)],z.2⟩) (λz=>(z.1:(List (Int×Int)))) (.x 0) ?_ ?_
  ·refine BO (λn (y:Int×(List (Int×Int))×Nat)=>Fu N l294 ae ah n y.1 y.2.1) (λy=>⟨[(1,.i ae),(2,.i ah),(8,.own (300,6) y.2.1.length),(28,.i (l294.length:Int)),(29,.i y.1)],[(.a (300,6),P8 y.2.1)],y.2.2⟩) (0,l294,8) jx (CB F) ?_;rintro n ⟨x307,l308,iv⟩ bj;simp only[Fu]at bj;refine An hS F bj (λ_ bj=>?_) (λ_ bj=>?_)
   ·obtain⟨⟨ba,bi⟩,gz,bj⟩:=un bj;obtain⟨ji,F⟩:=CH Ce gz F;obtain⟨js,⟨bq,bl⟩,b9,bj⟩:=un bj;have b7:(l308.set x307.toNat (ba+ae,bi)).getD x307.toNat (0,0)=(bq,bl):=ixs b9 _;have bn:=Pf (l308.set x307.toNat (ba+ae,bi)) x307.toNat;rw[b7]at bn;simp only[List.map_set,Ce]at bn;have jh:=(Nu b9).1;obtain⟨jc,jr,bj⟩:=un bj;exact CS hS (fc bn (fc b7 F)) (n,x307+1,(l308.set x307.toNat (ba+ae,bi)).set x307.toNat (bq,bl+ah),iv+1+1+1+1+1) bj
   ·exact Cu hS F (l308,iv+1) bj
  ·rintro⟨cy,jy⟩ rfl;obtain⟨ee,fq,h⟩:=un h;replace F:=fc fq F;refine An hS F h (λ_ h=>?_) (λ_ h=>?_)
   ·exact Ah hS F h
   ·exact Ah hS F h
