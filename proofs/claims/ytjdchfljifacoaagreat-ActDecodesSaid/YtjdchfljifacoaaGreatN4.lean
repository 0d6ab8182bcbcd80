import Derived.Test.YtjdchfljifacoaaGreatN1
set_option linter.all false
set_option maxRecDepth 100000
set_option maxHeartbeats 8000000
namespace Go.Proofs.YtjdchfljifacoaaGreat.Am
section
structure Pos(f:List Un)(t:Int)(i:Nat):Prop where
 le:i<=f.length
 lo:∀k,k<i->(A2 f k).1<t
 hi:∀k,i<=k->k<f.length->t<=(A2 f k).1
theorem YP:∀s,s<60->IntKind.wrap .i64 (CW .shr .u64 (IntKind.wrap .u64 ((s:Nat):Int)) 1)=((s/2:Nat):Int):=by decide+kernel
theorem WY{f:List Un}(h:FV f){i k:Nat}(hik:i<=k)(hk:k<f.length):(A2 f i).1<=(A2 f k).1:=by
 by_cases e:i=k
 ·rw[e];omega
 ·have:=Lo.1 h.srt i k (by omega) hk;omega
theorem ZV(N:Nat)(u:Un)(t:Int):GP N u.1 u.2.1 u.2.2.1 u.2.2.2.1 u.2.2.2.2.1 u.2.2.2.2.2 t=some (if u.1<t then-1 else if t<u.1 then 1 else 0):=by unfold GP;rw[SM,bS]
theorem Tx(N:Nat){f:List Un}(h:FV f)(t:Int):∀(n i j:Nat),i<=j->j<=f.length->j<n+i->(∀k,k<i->(A2 f k).1<t)->(∀k,j<=k->k<f.length->t<=(A2 f k).1)->∃r:Nat,AW N f t n i j=some (r:Int)/\Pos f t r
 |0,i,j,h1,_,h3,_,_=>by omega
 |n+1,i,j,h1,h2,h3,h4,h5=>by
  have hl:=h.len;rw[AW];by_cases e:i=j
  ·subst e;rw[F2,cF];exact⟨i,rfl,h2,h4,h5⟩
  ·have hm:(i+j)/2<f.length:=by omega
   rw[Dq (by omega),cT,Ae (by unfold Af;omega),<-Int.natCast_add,YP _ (by omega),Fs hm,bS];simp only;rw[ZV,bS];by_cases c:(A2 f ((i+j)/2)).1<t
   ·rw[dX c,AU _ (by rfl),Ae (by unfold Af;omega),<-ns];exact Tx N h t n _ j (by omega) h2 (by omega) (λk hk=>by have:=WY h (i:=k) (k:=(i+j)/2) (by omega) hm;omega) h5
   ·rw[dW c,A1 _ (by split<;>rfl)];exact Tx N h t n i _ (by omega) (by omega) (by omega) h4 (λk h6 h7=>by have:=WY h h6 h7;omega)
theorem Pos.found{f:List Un}(h:FV f){t:Int}{i:Nat}(p:Pos f t i):(i<f.length/\(A2 f i).1=t)↔∃u∈f,u.1=t:=by
 constructor
 ·rintro⟨h1,h2⟩;exact⟨_,FH h1,h2⟩
 ·rintro⟨u,hu,e⟩;obtain⟨k,hk,rfl⟩:=Lm hu;have h1:i<=k:=by
   by_cases c:i<=k
   ·exact c
   ·have:=p.lo k (by omega);omega
  have h2:=p.hi i (eN _) (by omega);have h3:=WY h h1 hk;exact⟨by omega,by omega⟩
open Classical in
theorem Vg{N:Nat}(hN:1001<=N){f:List Un}(h:FV f)(t:Int):∃r:Nat,Pos f t r/\A5 N f t=some ((r:Int),decide (∃u∈f,u.1=t)):=by
 have hl:=h.len;obtain⟨r,e,p⟩:=Tx N h t N 0 f.length (by omega) (by omega) (by omega) (λk hk=>by omega) (λk h1 h2=>by omega);rw[iW]at e;refine⟨r,p,?_⟩;unfold A5;rw[e,bS,BR (λh=>by simp only[bJ]at h;omega),BR (λ_=>?_)]
 ·congr 2;rw[y8,bJ,<-p.found h,fW,bJ,bJ,sI];have:=ZV N (A2 f r) t;unfold A2 at this;rw[this,kK];constructor
  ·rintro⟨h1,h2⟩;refine⟨by omega,?_⟩;show(f.getD r _).1=t;split at h2
   ·omega
   ·split at h2<;>omega
  ·rintro⟨h1,h2⟩;have h2:(f.getD r (0,0,0,[],0,0)).1=t:=h2;exact⟨by omega,by rw[dW (by omega),dW (by omega)]⟩
 ·have:=ZV N (A2 f r) t;unfold A2 at this;rw[sI,this,fL]
def PE:Un:=(0,0,0,[],0,0)
open Classical in
noncomputable def Df(f:List Un)(t:Int):Un×Bool:=if FV f then(match f.find? (λu=>decide (u.1=t))with|some u=>(u,true)|none=>(PE,false))else(PE,false)
theorem FV.uniq{f:List Un}(h:FV f){i k:Nat}(hi:i<f.length)(hk:k<f.length)(e:(A2 f i).1=(A2 f k).1):i=k:=by
 by_cases c:i=k
 ·exact c
 by_cases l:i<k
 ·have:=Lo.1 h.srt i k l hk;omega
 ·have:=Lo.1 h.srt k i (by omega) hi;omega
theorem OE{f:List Un}(h:FV f){i:Nat}(hi:i<f.length):f.find? (λu=>decide (u.1=(A2 f i).1))=some (A2 f i):=by
 cases e:f.find? (λu=>decide (u.1=(A2 f i).1))with
 |none=>have:=List.find?_eq_none.1 e _ (FH hi);simp at this
 |some u=>have h1:=List.find?_some e;obtain⟨k,hk,rfl⟩:=Lm (List.mem_of_find?_eq_some e);rw[bJ]at h1;rw[h.uniq hk hi h1]
theorem OF{f:List Un}{t:Int}(h:¬∃u∈f,u.1=t):f.find? (λu=>decide (u.1=t))=none:=List.find?_eq_none.2 λu hu=>by rw[bJ];exact λe=>h ⟨u,hu,e⟩
theorem KX(N:Nat){u:Un}(h:u.2.2.2.1.length<=1000):BY N u.1 u.2.1 u.2.2.1 u.2.2.2.1 u.2.2.2.2.1 u.2.2.2.2.2=some u:=by unfold BY;rw[Ae (by omega)]
theorem oW{N:Nat}(hN:1001<=N){f:List Un}(hl:f.length<=1000)(t:Int):Dm N f t=some (Df f t):=by
 classical
 have F:=GK (L:=Da N f t) (len:=f.length) (λk=>if(A2 f k).1=t/\FV f then some (A2 f k,true)else none) (λn k hk e=>?_) (λn k r hk e=>?_) (λn=>?_) N (by omega)
 ·unfold Dm Df;rcases F with⟨e,h⟩|⟨j,r,hj,h,_,e⟩
  ·rw[e,bS];simp only;by_cases hf:FV f
   ·rw[dX hf,OF]
    ·rfl
    ·rintro⟨u,hu,e⟩;obtain⟨k,hk,rfl⟩:=Lm hu;have:=h k hk;rw[dX ⟨e,hf⟩]at this;cases this
   ·rw[dW hf];rfl
  ·rw[e,bS];simp only;by_cases c:(A2 f j).1=t/\FV f
   ·rw[dX c]at h;cases h
    rw[dX c.2,<-c.1,OE c.2 hj]
   ·rw[dW c]at h;cases h
 ·have c:¬((A2 f k).1=t/\FV f):=λc=>by rw[dX c]at e;cases e
  rw[Da,Dq hk,cT,Fs hk,bS];simp only;rw[SZ hN,BR (λ_=>fL),kK,A1 _ (by rw[tD,Ne,fW,bJ,bJ];exact c),Ae (by unfold Af;omega),ns]
 ·by_cases c:(A2 f k).1=t/\FV f
  ·rw[dX c]at e;cases e
   have l8:=(c.2.val _ (FH hk)).l.l8;rw[Da,Dq hk,cT,Fs hk,bS];simp only;rw[SZ hN,BR (λ_=>fL),kK,AU _ (by rw[fW,bJ,bJ];exact c),KX N (by omega),bS]
  ·rw[dW c]at e;cases e
 ·rw[Da,F2,cF]
structure Fit(f:List Un)(u:Un):Prop where
 hf:FV f
 hu:UV u
 hl:f.length<12
 hi:∀v∈f,v.1≠u.1
 ho:∀v∈f,Hv u v=false
noncomputable instance(f:List Un)(u:Un):Decidable (Fit f u):=Classical.propDecidable _
def Of(f:List Un)(t:Int):List Un:=f.filter λv=>decide (v.1<t)
def Ro(f:List Un)(t:Int):List Un:=f.filter λv=>decide (t<=v.1)
def Gm(f:List Un)(u:Un):List Un:=Of f u.1++u::Ro f u.1
def EZ(f:List Un)(t:Int):List Un:=f.filter λv=>decide (v.1≠t)
theorem Pos.split{f:List Un}{t:Int}{r:Nat}(p:Pos f t r):f.take r=Of f t/\f.drop r=Ro f t:=by
 have h1:∀u∈f.take r,u.1<t:=λu hu=>by obtain⟨k,hk,rfl⟩:=List.mem_take_iff_getElem.1 hu;rw[<-Fb (by omega)];exact p.lo k (by omega)
 have h2:∀u∈f.drop r,t<=u.1:=λu hu=>by obtain⟨k,hk,rfl⟩:=List.mem_drop_iff_getElem.1 hu;rw[<-Fb (by omega)];exact p.hi _ (by omega) (by omega)
 have e:f=f.take r++f.drop r:=(u9 r f).symm;constructor
 ·unfold Of;conv=>rhs;rw[e,List.filter_append]
  rw[List.filter_eq_self.2 λu hu=>aA (h1 u hu),List.filter_eq_nil_iff.2 λu hu=>by have:=h2 u hu;rw[bJ];omega,nA]
 ·unfold Ro;conv=>rhs;rw[e,List.filter_append]
  rw[List.filter_eq_self.2 λu hu=>aA (h2 u hu),List.filter_eq_nil_iff.2 λu hu=>by have:=h1 u hu;rw[bJ];omega,kN]
theorem FV.pos{f:List Un}(h:FV f)(t:Int):∃r,Pos f t r:=by obtain⟨r,p,_⟩:=Vg (N:=1001) (eN _) h t;exact⟨r,p⟩
theorem FV.cut{f:List Un}(h:FV f)(t:Int):Of f t++Ro f t=f:=by obtain⟨r,p⟩:=h.pos t;rw[<-p.split.1,<-p.split.2,u9]
theorem FV.sub{f g:List Un}(h:FV f)(s:g.Sublist f):FV g:=⟨oJ s.length_le h.len,λu hu=>h.val u (s.subset hu),h.srt.sublist s,h.dis.sublist s⟩
theorem Fit.fv{f:List Un}{u:Un}(h:Fit f u):FV (Gm f u):=by
 have e:=h.hf.cut u.1;have hm:∀v,v∈Of f u.1->v∈f/\v.1<u.1:=λv hv=>by have:=sH.1 hv;rwa [bJ]at this
 have hg:∀v,v∈Ro f u.1->v∈f/\u.1<=v.1:=λv hv=>by have:=sH.1 hv;rwa [bJ]at this
 have hd:=h.hf.dis;rw[<-e,List.pairwise_append]at hd;have hs:=h.hf.srt;rw[<-e,List.pairwise_append]at hs;unfold Gm;refine⟨?_,λv hv=>?_,?_,?_⟩
 ·have:=h.hl;have e2:(Of f u.1++Ro f u.1).length=f.length:=by rw[e]
  rw[fN]at e2;rw[fN,mV];omega
 ·rcases fU.1 hv with h1|h1
  ·exact h.hf.val v (hm v h1).1
  ·rcases fP.1 h1 with rfl|h1
   ·exact h.hu
   ·exact h.hf.val v (hg v h1).1
 ·rw[List.pairwise_append,List.pairwise_cons];refine⟨hs.1,⟨λv hv=>?_,hs.2.1⟩,λa ha b hb=>?_⟩
  ·have:=hg v hv;have:=h.hi v this.1;omega
  ·rcases fP.1 hb with rfl|hb
   ·exact(hm a ha).2
   ·exact hs.2.2 a ha b hb
 ·rw[List.pairwise_append,List.pairwise_cons];refine⟨hd.1,⟨λv hv=>h.ho v (hg v hv).1,hd.2.1⟩,λa ha b hb=>?_⟩;rcases fP.1 hb with rfl|hb
  ·rw[Pn];exact h.ho a (hm a ha).1
  ·exact hd.2.2 a ha b hb
def N1(f:List Un)(u:Un):List Un:=(f.filter λv=>decide (v.1<=u.1))++u::f.filter λv=>decide (u.1<v.1)
theorem Ty{f:List Un}{u:Un}(h:∀v∈f,v.1≠u.1):N1 f u=Gm f u:=by
 have e1:(f.filter λv=>decide (v.1<=u.1))=Of f u.1:=List.filter_congr λv hv=>by have:=h v hv;rw[decide_eq_decide];omega
 have e2:(f.filter λv=>decide (u.1<v.1))=Ro f u.1:=List.filter_congr λv hv=>by have:=h v hv;rw[decide_eq_decide];omega
 unfold N1 Gm;rw[e1,e2]
theorem YQ{f:List Un}{u:Un}(hf:FV f):FV (N1 f u)↔Fit f u:=by
 constructor
 ·intro h;have hs:=h.srt;have hd:=h.dis;have hl:=h.len;have hid:∀v∈f,v.1≠u.1:=λv hv e=>by unfold N1 at hs;rw[List.pairwise_append]at hs;have:=hs.2.2 v (sH.2 ⟨hv,aA (by omega)⟩) u List.mem_cons_self;omega
  rw[Ty hid]at hd hl;refine⟨hf,h.val u (by unfold N1;simp),?_,hid,λv hv=>?_⟩
  ·have e2:(Of f u.1++Ro f u.1).length=f.length:=by rw[hf.cut]
   unfold Gm at hl;rw[fN]at e2 hl;rw[mV]at hl;omega
  ·unfold Gm at hd;rw[List.pairwise_append,List.pairwise_cons]at hd;by_cases c:v.1<u.1
   ·rw[Pn];exact hd.2.2 v (sH.2 ⟨hv,aA c⟩) u List.mem_cons_self
   ·exact hd.2.1.1 v (sH.2 ⟨hv,aA (by omega)⟩)
 ·intro h;rw[Ty h.hi];exact h.fv
section
variable{N:Nat}(hN:1001<=N)
include hN
end
end
section
open Go
attribute [local irreducible] Ax BO BB Bj BC Bk AY BD BK Cq
def ES(N:Nat)(f1886:List (Int×Int×Int×(List (Int×Int))×Int×Int))(ab:Int)(aj:Int)(ai:Int)(ah:List (Int×Int))(af:Int)(ae:Int):Nat->Bool->Int->(List (Int×Int×Int×(List (Int×Int))×Int×Int))->Option (Bool×(List (Int×Int×Int×(List (Int×Int))×Int×Int)))|0,_,_,_=>none|n+1,aa,i1968,l1969=>bif decide (i1968<(f1886.length:Int))then(gd ((!aa)=true->(0<=i1968/\i1968<(f1886.length:Int)))<|(bif (!aa)&&(decide (ab<(f1886.getD i1968.toNat (0,0,0,[],0,0)).1))then((BY N ab aj ai ah af ae).bind λ(bo,bn,bm,bl,bj,bi)=>gd ((l1969.length+1)*64<=140737488355328)<|some (true,l1969++[(bo,bn,bm,bl,bj,bi)]))else(some (aa,l1969)):Option (Bool×(List (Int×Int×Int×(List (Int×Int))×Int×Int)))).bind λ(ak,l2000)=>(A7 f1886 i1968).bind λ(ce,b9,b7,bz,bw,bv)=>(BY N ce b9 b7 bz bw bv).bind λ(bh,bg,bf,be,bb,ba)=>gd ((l2000.length+1)*64<=140737488355328)<|gd (Af (i1968+1))<|ES N f1886 ab aj ai ah af ae n ak (i1968+1) (l2000++[(bh,bg,bf,be,bb,ba)]))else(some (aa,l1969))
def DK(N:Nat)(f1886:List (Int×Int×Int×(List (Int×Int))×Int×Int))(ab:Int)(aj:Int)(ai:Int)(ah:List (Int×Int))(af:Int)(ae:Int):Option ((List (Int×Int×Int×(List (Int×Int))×Int×Int))×Int):=(C8 N f1886).bind λcj=>bif !cj then(some ([],120))else((ES N f1886 ab aj ai ah af ae N false 0 []).bind λ(am,l2022)=>(bif !am then((BY N ab aj ai ah af ae).bind λ(az,ay,aw,av,au,aq)=>gd ((l2022.length+1)*64<=140737488355328)<|some (l2022++[(az,ay,aw,av,au,aq)]))else(some l2022):Option ((List (Int×Int×Int×(List (Int×Int))×Int×Int)))).bind λbp=>(C8 N bp).bind λci=>bif !ci then(some ([],120))else(some (bp,0)))
@[go_sem] def s92(N:Nat):Spec:=p0<|pG<|pD Ak λf1886=>pE<|pG<|pI λab=>pI λaj=>pI λai=>pD Aq λah=>pI λaf=>pI λae=>pE<|pE<|pF (DK N f1886 ab aj ai ah af ae) ([],0) λr=>.tup [.agg [Ap r.1],.i r.2]
theorem nU(N:Nat):AG Tryz.prog 92 (s92 N):=by
 refine Ar x92.ok<|Aw<|AM λf1886=>Ad<|Aw<|Aa λab=>Aa λaj=>Aa λai=>AM λah=>Aa λaf=>Aa λae=>Ad<|Ad<|As λr h=>wx x92 (Ab (ZB N)<|Ab (UY N)<|Aj) λ_ hS F=>?_
 dsimp only[x92,Ah,Aq,Ak];unfold DK at h;obtain⟨cj,cr,h⟩:=un h;replace F:=fc cr F;refine An hS F h (λ_ h=>?_) (λ_ h=>?_)
 ·exact Ai hS F h
 ·refine go hS F ?_;refine Fc 1000001 (300,3) 0 6 [.i 0,.i 0,.i 0,.sl 0 true [] [],.i 0,.i 0] (by omega) (ev F) ?_;obtain⟨cz,dl,h⟩:=un h;refine go hS F ?_;refine Bz cz (λz:Bool×(List (Int×Int×Int×(List (Int×Int))×Int×Int))×Nat=>⟨[(3,.box (1,1) 0),(4,.box (2,1) 0),(6,.box (300,3) 0),(7,.b z.1)],[(.c (300,3) 0,.own (1000001,6) z.2.1.length),(.a (1000001,6),B7 z.2.1),(.c (2,1) 0,.sl 0 true [] []),(.c (1,1) 0,.i ab),(.c (1,1) 1,.i aj),(.c (1,1) 2,.i ai),(.c (1,1) 3,BP ah),(.c (1,1) 4,.i af),(.c (1,1) 5,.i ae)],z.2.2⟩) (λz=>((z.1,z.2.1):Bool×(List (Int×Int×Int×(List (Int×Int))×Int×Int)))) (.x 0) ?_ ?_
  ·refine Bp (λn (y:Bool×Int×(List (Int×Int×Int×(List (Int×Int))×Int×Int))×Nat)=>ES N f1886 ab aj ai ah af ae n y.1 y.2.1 y.2.2.1) (λy=>⟨[(2,.box (0,1) 0),(3,.box (1,1) 0),(4,.box (2,1) 0),(6,.box (300,3) 0),(7,.b y.1),(8,.i y.2.1)],[(.c (300,3) 0,.own (1000001,6) y.2.2.1.length),(.a (1000001,6),B7 y.2.2.1),(.c (2,1) 0,.sl 0 true [] []),(.c (1,1) 0,.i ab),(.c (1,1) 1,.i aj),(.c (1,1) 2,.i ai),(.c (1,1) 3,BP ah),(.c (1,1) 4,.i af),(.c (1,1) 5,.i ae),(.c (0,1) 0,Ap f1886)],y.2.2.2⟩) (false,0,[],6) dl (Ch F) ?_;rintro n ⟨aa,i1968,l1969,bq⟩ an;simp only[ES]at an;refine An hS F an (λ_ an=>?_) (λ_ an=>?_)
   ·obtain⟨du,an⟩:=un an;obtain⟨da,bu,an⟩:=un an;refine go hS F ?_;refine Bz da (λz:Bool×(List (Int×Int×Int×(List (Int×Int))×Int×Int))×Nat=>⟨[(2,.box (0,1) 0),(3,.box (1,1) 0),(4,.box (2,1) 0),(6,.box (300,3) 0),(7,.b z.1),(8,.i i1968)],[(.c (300,3) 0,.own (1000001,6) z.2.1.length),(.a (1000001,6),B7 z.2.1),(.c (2,1) 0,.sl 0 true [] []),(.c (1,1) 0,.i ab),(.c (1,1) 1,.i aj),(.c (1,1) 2,.i ai),(.c (1,1) 3,BP ah),(.c (1,1) 4,.i af),(.c (1,1) 5,.i ae),(.c (0,1) 0,Ap f1886)],z.2.2⟩) (λz=>((z.1,z.2.1):Bool×(List (Int×Int×Int×(List (Int×Int))×Int×Int)))) .n ?_ ?_
    ·refine An hS F bu (λ_ bu=>?_) (λ_ bu=>?_)
     ·obtain⟨⟨bo,bn,bm,bl,bj,bi⟩,cq,bu⟩:=un bu;obtain⟨dt,bu⟩:=un bu;exact B4 hS (fc cq F) (true,l1969++[(bo,bn,bm,bl,bj,bi)],bq+1+1+1+1) bu
     ·exact B4 hS F (aa,l1969,bq+1+1) bu
    ·rintro⟨ak,l2000,db⟩ rfl;obtain⟨⟨ce,b9,b7,bz,bw,bv⟩,cu,an⟩:=un an;obtain⟨dg,F⟩:=Cb Au cu F;obtain⟨⟨bh,bg,bf,be,bb,ba⟩,co,an⟩:=un an;obtain⟨dq,dp,an⟩:=un an;exact Cd hS (fc co F) (n,ak,i1968+1,l2000++[(bh,bg,bf,be,bb,ba)],db+1+1) an
   ·exact B4 hS F (aa,l1969,bq+1) an
  ·rintro⟨am,l2022,ck⟩ rfl;obtain⟨cy,br,h⟩:=un h;refine go hS F ?_;refine Bz cy (λz:(List (Int×Int×Int×(List (Int×Int))×Int×Int))×Nat=>⟨[(4,.box (2,1) 0),(6,.box (300,3) 0)],[(.c (300,3) 0,.own (1000001,6) z.1.length),(.a (1000001,6),B7 z.1),(.c (2,1) 0,.sl 0 true [] [])],z.2⟩) (λz=>(z.1:(List (Int×Int×Int×(List (Int×Int))×Int×Int)))) .n ?_ ?_
   ·refine An hS F br (λ_ br=>?_) (λ_ br=>?_)
    ·obtain⟨⟨az,ay,aw,av,au,aq⟩,cn,br⟩:=un br;obtain⟨dm,br⟩:=un br;exact B4 hS (fc cn F) (l2022++[(az,ay,aw,av,au,aq)],ck+1+1) br
    ·exact B4 hS F (l2022,ck+1) br
   ·rintro⟨bp,dh⟩ rfl;obtain⟨ci,cm,h⟩:=un h;replace F:=fc cm F;refine An hS F h (λ_ h=>?_) (λ_ h=>?_)
    ·exact Ai hS F h
    ·exact Ai hS F h
end
section
open Go
attribute [local irreducible] Ax BO BB Bj BC Bk AY BD BK Cq
def GQ(x:Int×Int×Int×Int×Int×Int):List AV:=[.i x.1,.i x.2.1,.i x.2.2.1,.i x.2.2.2.1,.i x.2.2.2.2.1,.i x.2.2.2.2.2]
def Pk:List AV->Int×Int×Int×Int×Int×Int|[.v (.int _ a1),.v (.int _ a2),.v (.int _ a3),.v (.int _ a4),.v (.int _ a5),.v (.int _ a6)]=>(a1,a2,a3,a4,a5,a6)|_=>(0,0,0,0,0,0)
theorem cW(x:Int×Int×Int×Int×Int×Int):Pk (GQ x)=x:=by rfl
theorem cX(R:List (Int×Int×Int×Int×Int×Int)):(R.map GQ).map Pk=R:=by
 induction R with
 |nil=>rfl
 |cons r R ih=>rw[eG,eG,ih,cW]
def GR:Rw (Int×Int×Int×Int×Int×Int):=⟨6,GQ,Pk,[.i 0,.i 0,.i 0,.i 0,.i 0,.i 0]⟩
def GS(l:List (Int×Int×Int×Int×Int×Int)):AV:=.sl 6 false (l.map GQ) [.i 0,.i 0,.i 0,.i 0,.i 0,.i 0]
def jJ(l:List (Int×Int×Int×Int×Int×Int)):AV:=.sl 6 true (l.map GQ) [.i 0,.i 0,.i 0,.i 0,.i 0,.i 0]
attribute [go_sem] GR GS jJ GQ Pk cX
def El(N:Nat)(ah:Int)(be:Int)(bb:Int)(ba:Int)(az:Int)(ay:Int)(x2051:Int):Option (Int×Int×Int×(List (Int×Int))×Int×Int):=(Al N be 9).bind λaa=>gd (Af (4*aa))<|(Al N bb 6).bind λab=>gd (Af (4*ab))<|(Al N ba 4).bind λae=>gd (Af (1+ae))<|gd (Af (4*(1+ae)))<|gd (Af ((4*aa)+(4*(1+ae))))<|(Al N az 2).bind λaf=>gd (Af (1+af))<|gd (Af (4*(1+af)))<|gd (Af ((4*ab)+(4*(1+af))))<|(Al N ay 8).bind λaw=>bif decide (aw=4)then(gd (Af ((min ((4*aa)+(4*(1+ae))) 40)-1))<|gd (Af ((4*aa)+1))<|(Al N x2051 4).bind λfm=>bif decide (fm=3)then(gd (Af (x2051.tdiv 4))<|(Al N (x2051.tdiv 4) 4).bind λav=>gd (Af (av+1))<|gd (Af (x2051.tdiv 16))<|(Al N (x2051.tdiv 16) 4).bind λb9=>gd (Af ((av+1)+b9))<|(Al N ah 100).bind λfj=>gd (Af (x2051.tdiv 64))<|(Al N (x2051.tdiv 64) 8).bind λb7=>gd (Af (1+b7))<|gd (Af (x2051.tdiv 512))<|(Al N (x2051.tdiv 512) 8).bind λfh=>some (fj,1+b7,fh,[(4*aa,4*ab),(min ((4*aa)+(4*(1+ae))) 40,4*ab),((min ((4*aa)+(4*(1+ae))) 40)-1,(4*ab)+(4*(1+af))),((4*aa)+1,(4*ab)+(4*(1+af)))],av,(av+1)+b9))else((Al N ah 100).bind λfg=>gd (Af (x2051.tdiv 64))<|(Al N (x2051.tdiv 64) 8).bind λbz=>gd (Af (1+bz))<|gd (Af (x2051.tdiv 512))<|(Al N (x2051.tdiv 512) 8).bind λe9=>some (fg,1+bz,e9,[(4*aa,4*ab),(min ((4*aa)+(4*(1+ae))) 40,4*ab),((min ((4*aa)+(4*(1+ae))) 40)-1,(4*ab)+(4*(1+af))),((4*aa)+1,(4*ab)+(4*(1+af)))],0,4)))else(bif decide (aw=5)then(gd (Af ((4*aa)+1))<|gd (Af ((min ((4*aa)+(4*(1+ae))) 40)-1))<|(Al N x2051 4).bind λe8=>bif decide (e8=3)then(gd (Af (x2051.tdiv 4))<|(Al N (x2051.tdiv 4) 4).bind λau=>gd (Af (au+1))<|gd (Af (x2051.tdiv 16))<|(Al N (x2051.tdiv 16) 4).bind λbw=>gd (Af ((au+1)+bw))<|(Al N ah 100).bind λeu=>gd (Af (x2051.tdiv 64))<|(Al N (x2051.tdiv 64) 8).bind λbv=>gd (Af (1+bv))<|gd (Af (x2051.tdiv 512))<|(Al N (x2051.tdiv 512) 8).bind λej=>some (eu,1+bv,ej,[((4*aa)+1,4*ab),((min ((4*aa)+(4*(1+ae))) 40)-1,4*ab),(min ((4*aa)+(4*(1+ae))) 40,(4*ab)+(4*(1+af))),(4*aa,(4*ab)+(4*(1+af)))],au,(au+1)+bw))else((Al N ah 100).bind λei=>gd (Af (x2051.tdiv 64))<|(Al N (x2051.tdiv 64) 8).bind λbu=>gd (Af (1+bu))<|gd (Af (x2051.tdiv 512))<|(Al N (x2051.tdiv 512) 8).bind λeh=>some (ei,1+bu,eh,[((4*aa)+1,4*ab),((min ((4*aa)+(4*(1+ae))) 40)-1,4*ab),(min ((4*aa)+(4*(1+ae))) 40,(4*ab)+(4*(1+af))),(4*aa,(4*ab)+(4*(1+af)))],0,4)))else(bif decide (aw=6)then((Al N x2051 4).bind λee=>bif decide (ee=3)then(gd (Af (x2051.tdiv 4))<|(Al N (x2051.tdiv 4) 4).bind λaq=>gd (Af (aq+1))<|gd (Af (x2051.tdiv 16))<|(Al N (x2051.tdiv 16) 4).bind λbr=>gd (Af ((aq+1)+br))<|(Al N ah 100).bind λd9=>gd (Af (x2051.tdiv 64))<|(Al N (x2051.tdiv 64) 8).bind λbq=>gd (Af (1+bq))<|gd (Af (x2051.tdiv 512))<|(Al N (x2051.tdiv 512) 8).bind λd8=>some (d9,1+bq,d8,[(4*aa,4*ab),(min ((4*aa)+(4*(1+ae))) 40,4*ab),(min ((4*aa)+(4*(1+ae))) 40,(4*ab)+(4*(1+af)))],aq,(aq+1)+br))else((Al N ah 100).bind λd7=>gd (Af (x2051.tdiv 64))<|(Al N (x2051.tdiv 64) 8).bind λbp=>gd (Af (1+bp))<|gd (Af (x2051.tdiv 512))<|(Al N (x2051.tdiv 512) 8).bind λdz=>some (d7,1+bp,dz,[(4*aa,4*ab),(min ((4*aa)+(4*(1+ae))) 40,4*ab),(min ((4*aa)+(4*(1+ae))) 40,(4*ab)+(4*(1+af)))],0,4)))else(bif decide (aw=7)then((Al N x2051 4).bind λdw=>bif decide (dw=3)then(gd (Af (x2051.tdiv 4))<|(Al N (x2051.tdiv 4) 4).bind λan=>gd (Af (an+1))<|gd (Af (x2051.tdiv 16))<|(Al N (x2051.tdiv 16) 4).bind λbo=>gd (Af ((an+1)+bo))<|(Al N ah 100).bind λdu=>gd (Af (x2051.tdiv 64))<|(Al N (x2051.tdiv 64) 8).bind λbn=>gd (Af (1+bn))<|gd (Af (x2051.tdiv 512))<|(Al N (x2051.tdiv 512) 8).bind λdt=>some (du,1+bn,dt,[(4*aa,4*ab),(min ((4*aa)+(4*(1+ae))) 40,(4*ab)+(4*(1+af))),(4*aa,(4*ab)+(4*(1+af)))],an,(an+1)+bo))else((Al N ah 100).bind λdq=>gd (Af (x2051.tdiv 64))<|(Al N (x2051.tdiv 64) 8).bind λbm=>gd (Af (1+bm))<|gd (Af (x2051.tdiv 512))<|(Al N (x2051.tdiv 512) 8).bind λdp=>some (dq,1+bm,dp,[(4*aa,4*ab),(min ((4*aa)+(4*(1+ae))) 40,(4*ab)+(4*(1+af))),(4*aa,(4*ab)+(4*(1+af)))],0,4)))else((Al N x2051 4).bind λdm=>bif decide (dm=3)then(gd (Af (x2051.tdiv 4))<|(Al N (x2051.tdiv 4) 4).bind λam=>gd (Af (am+1))<|gd (Af (x2051.tdiv 16))<|(Al N (x2051.tdiv 16) 4).bind λbl=>gd (Af ((am+1)+bl))<|(Al N ah 100).bind λdl=>gd (Af (x2051.tdiv 64))<|(Al N (x2051.tdiv 64) 8).bind λbj=>gd (Af (1+bj))<|gd (Af (x2051.tdiv 512))<|(Al N (x2051.tdiv 512) 8).bind λdh=>some (dl,1+bj,dh,[(4*aa,4*ab),(min ((4*aa)+(4*(1+ae))) 40,4*ab),(min ((4*aa)+(4*(1+ae))) 40,(4*ab)+(4*(1+af))),(4*aa,(4*ab)+(4*(1+af)))],am,(am+1)+bl))else((Al N ah 100).bind λdg=>gd (Af (x2051.tdiv 64))<|(Al N (x2051.tdiv 64) 8).bind λbi=>gd (Af (1+bi))<|gd (Af (x2051.tdiv 512))<|(Al N (x2051.tdiv 512) 8).bind λdb=>some (dg,1+bi,db,[(4*aa,4*ab),(min ((4*aa)+(4*(1+ae))) 40,4*ab),(min ((4*aa)+(4*(1+ae))) 40,(4*ab)+(4*(1+af))),(4*aa,(4*ab)+(4*(1+af)))],0,4))))))
@[go_sem] def s88(N:Nat):Spec:=p0<|pI λah=>pG<|pI λbe=>pI λbb=>pI λba=>pI λaz=>pI λay=>pI λx2051=>pE<|pE<|pF (El N ah be bb ba az ay x2051) (0,0,0,[],0,0) λr=>.agg [.i r.1,.i r.2.1,.i r.2.2.1,BP r.2.2.2.1,.i r.2.2.2.2.1,.i r.2.2.2.2.2]
theorem nV(N:Nat):AG Tryz.prog 88 (s88 N):=by
 refine Ar x88.ok<|Aa λah=>Aw<|Aa λbe=>Aa λbb=>Aa λba=>Aa λaz=>Aa λay=>Aa λx2051=>Ad<|Ad<|As λr h=>wx x88 (Ab (nS N)<|Aj) λ_ hS F=>?_
 dsimp only[x88,Ah];unfold El at h;obtain⟨aa,jn,nl,ab,jm,nk,ae,jl,lz,kv,ka,af,jk,jv,nj,nh,aw,jj,h⟩:=un h;replace F:=fc jj (fc jk (fc jl (fc jm (fc jn F))));refine An hS F h (λ_ h=>?_) (λ_ h=>?_)
 ·obtain⟨ng,nc,fm,ji,h⟩:=un h;replace F:=fc ji F;refine An hS F h (λ_ h=>?_) (λ_ h=>?_)
  ·obtain⟨nb,av,jh,mz,my,b9,jg,mu,fj,jf,mt,b7,je,mr,mq,fh,jd,h⟩:=un h;exact Ai hS (fc jd (fc je (fc jf (fc jg (fc jh F))))) h
  ·obtain⟨fg,jc,mo,bz,jb,mn,mj,e9,ja,h⟩:=un h;exact Ai hS (fc ja (fc jb (fc jc F))) h
 ·refine An hS F h (λ_ h=>?_) (λ_ h=>?_)
  ·obtain⟨mh,mg,e8,i9,h⟩:=un h;replace F:=fc i9 F;refine An hS F h (λ_ h=>?_) (λ_ h=>?_)
   ·obtain⟨mf,au,i8,me,md,bw,i7,mc,eu,i6,mb,bv,i5,ma,l7,ej,iz,h⟩:=un h;exact Ai hS (fc iz (fc i5 (fc i6 (fc i7 (fc i8 F))))) h
   ·obtain⟨ei,iy,lr,bu,iw,lq,lm,eh,iv,h⟩:=un h;exact Ai hS (fc iv (fc iw (fc iy F))) h
  ·refine An hS F h (λ_ h=>?_) (λ_ h=>?_)
   ·obtain⟨ee,ir,h⟩:=un h;replace F:=fc ir F;refine An hS F h (λ_ h=>?_) (λ_ h=>?_)
    ·obtain⟨lj,aq,iq,li,lh,br,ip,lg,d9,im,lf,bq,il,kz,kw,d8,ij,h⟩:=un h;exact Ai hS (fc ij (fc il (fc im (fc ip (fc iq F))))) h
    ·obtain⟨d7,ii,kr,bp,ig,kq,km,dz,ie,h⟩:=un h;exact Ai hS (fc ie (fc ig (fc ii F))) h
   ·refine An hS F h (λ_ h=>?_) (λ_ h=>?_)
    ·obtain⟨dw,ic,h⟩:=un h;replace F:=fc ic F;refine An hS F h (λ_ h=>?_) (λ_ h=>?_)
     ·obtain⟨kl,an,ib,kj,ki,bo,g9,kh,du,g8,kg,bn,gz,kf,ke,dt,gy,h⟩:=un h;exact Ai hS (fc gy (fc gz (fc g8 (fc g9 (fc ib F))))) h
     ·obtain⟨dq,gx,j9,bm,gw,j8,j7,dp,gv,h⟩:=un h;exact Ai hS (fc gv (fc gw (fc gx F))) h
    ·obtain⟨dm,gu,h⟩:=un h;replace F:=fc gu F;refine An hS F h (λ_ h=>?_) (λ_ h=>?_)
     ·obtain⟨j6,am,gt,j5,j4,bl,gr,jz,dl,gm,jy,bj,gj,jx,jw,dh,gi,h⟩:=un h;exact Ai hS (fc gi (fc gj (fc gm (fc gr (fc gt F))))) h
     ·obtain⟨dg,gh,ju,bi,gg,jt,js,db,gc,h⟩:=un h;exact Ai hS (fc gc (fc gg (fc gh F))) h
def DO(N:Nat)(x2314:List (Int×Int×Int×Int×Int×Int)):Nat->Int->(List (Int×Int×Int×(List (Int×Int))×Int×Int))->Option ((List (Int×Int×Int×(List (Int×Int))×Int×Int)))|0,_,_=>none|n+1,ai,ak=>bif (decide (ai<(x2314.length:Int)))&&(decide (ai<12))then(gd (Af (3*ai))<|(A7 x2314 ai).bind λ(cn,cm,ck,cj,ci,bf)=>(Al N bf 3).bind λbh=>gd (Af ((3*ai)+bh))<|(El N ((3*ai)+bh) cn cm ck cj ci bf).bind λ(da,cz,cy,cu,cr,cq)=>(DK N ak da cz cy cu cr cq).bind λ(bg,co)=>bif decide (co=0)then(gd (Af (ai+1))<|DO N x2314 n (ai+1) bg)else(gd (Af (ai+1))<|DO N x2314 n (ai+1) ak))else(some ak)
def FD(N:Nat)(x2314:List (Int×Int×Int×Int×Int×Int)):Option (List (Int×Int×Int×(List (Int×Int))×Int×Int)):=(DO N x2314 N 0 []).bind λfo=>some fo
@[go_sem] def s50(N:Nat):Spec:=p0<|pS GR λx2314=>pE<|pF (FD N x2314) [] λr=>.agg [Ap r]
theorem Ace(N:Nat):AG Tryz.prog 50 (s50 N):=by
 refine Ar x50.ok<|AF λx2314=>Ad<|As λr h=>wx x50 (Ab (nS N)<|Ab (nV N)<|Ab (nU N)<|Aj) λ_ hS F=>?_
 dsimp only[x50,Ah,GR];unfold FD at h;refine go hS F ?_;refine Yd (100,2) 0 6 [.i 0,.i 0,.i 0,.sl 0 true [] [],.i 0,.i 0] (ev F) ?_;obtain⟨jp,nf,h⟩:=un h;refine go hS F ?_;refine Bz jp (λz:(List (Int×Int×Int×(List (Int×Int))×Int×Int))×Nat=>⟨[(2,.box (0,1) 0),(3,.box (100,2) 0)],[(.c (100,2) 0,Ap z.1),(.c (0,1) 0,.sl 0 true [] [])],z.2⟩) (λz=>(z.1:(List (Int×Int×Int×(List (Int×Int))×Int×Int)))) (.x 0) ?_ ?_
 ·refine Bp (λn (y:Int×(List (Int×Int×Int×(List (Int×Int))×Int×Int))×Nat)=>DO N x2314 n y.1 y.2.1) (λy=>⟨[(0,GS x2314),(2,.box (0,1) 0),(3,.box (100,2) 0),(4,.i y.1)],[(.c (100,2) 0,Ap y.2.1),(.c (0,1) 0,.sl 0 true [] [])],y.2.2⟩) (0,[],3) nf (Ch F) ?_;rintro n ⟨ai,ak,ce⟩ aj;simp only[DO]at aj;refine An hS F aj (λ_ aj=>?_) (λ_ aj=>?_)
  ·obtain⟨lz,⟨cn,cm,ck,cj,ci,bf⟩,jo,aj⟩:=un aj;obtain⟨jq,F⟩:=Cb GQ jo F;obtain⟨bh,fr,kv,⟨da,cz,cy,cu,cr,cq⟩,fq,aj⟩:=un aj;obtain⟨⟨bg,co⟩,fp,aj⟩:=un aj;replace F:=fc fp (fc fq (fc fr F));refine An hS F aj (λ_ aj=>?_) (λ_ aj=>?_)
   ·obtain⟨ka,aj⟩:=un aj;exact Cd hS F (n,ai+1,bg,ce+1+1+1+1+1) aj
   ·obtain⟨jv,aj⟩:=un aj;exact Cd hS F (n,ai+1,ak,ce+1+1+1+1) aj
  ·exact B4 hS F (ak,ce+1) aj
 ·rintro⟨fo,jr⟩ rfl;exact Ai hS F h
end
def IT(p:List Un)(t:Int):Bool:=p.any λv=>decide (t<v.1)
def KY(p:List Un)(u:Un):List Un:=(p.filter λv=>decide (v.1<=u.1))++((bif IT p u.1 then[u]else[])++p.filter λv=>decide (u.1<v.1))
theorem ZW{p:List Un}{t:Int}(h:IT p t=false):(p.filter λv=>decide (t<v.1))=[]:=by rw[List.filter_eq_nil_iff];intro v hv c;unfold IT at h;rw[List.any_eq_false]at h;exact h v hv c
theorem YR{p:List Un}{u:Un}:(KY p u).length<=2*p.length+1:=by have h1:=List.length_filter_le (λv:Un=>decide (v.1<=u.1)) p;have h2:=List.length_filter_le (λv:Un=>decide (u.1<v.1)) p;unfold KY;cases IT p u.1<;>simp<;>omega
theorem tZ{f:List Un}(h:FV f){i:Nat}(hi:i<f.length):∀v∈f.take i,v.1<(A2 f i).1:=λv hv=>by obtain⟨k,hk,rfl⟩:=List.mem_take_iff_getElem.1 hv;rw[<-Fb (by omega)];exact Lo.1 h.srt k i (by omega) hi
theorem KZ{f:List Un}{i:Nat}(hi:i<f.length):f.take (i+1)=f.take i++[A2 f i]:=by rw[List.take_succ_eq_append_getElem hi,Fb hi]
section
variable{N:Nat}(hN:1001<=N)
include hN
omit hN in
theorem Ur{f:List Un}(hf:FV f){u:Un}(hu:u.2.2.2.1.length<=1000):∀n i,i<=f.length->f.length<n+i->ES N f u.1 u.2.1 u.2.2.1 u.2.2.2.1 u.2.2.2.2.1 u.2.2.2.2.2 n (IT (f.take i) u.1) i (KY (f.take i) u)=some (IT f u.1,KY f u)
 |0,i,h1,h2=>by omega
 |n+1,i,h1,h2=>by
  have hl:=hf.len;rw[ES];by_cases e:i=f.length
  ·subst e;rw[F2,cF,F4]
  ·have hi:i<f.length:=by omega
   have v8:=(hf.val _ (FH hi)).l.l8;have hlen:=YR (p:=f.take i) (u:=u);have ht:(f.take i).length=i:=by rw[tH];omega
   have tl:=tZ hf hi;rw[Dq hi,cT,BR (λ_=>by omega),sI,show f.getD i (0,0,0,[],0,0)=A2 f i from rfl];have key:(bif (!IT (f.take i) u.1)&&decide (u.1<(A2 f i).1)then
     (BY N u.1 u.2.1 u.2.2.1 u.2.2.2.1 u.2.2.2.2.1 u.2.2.2.2.2).bind λ(r106,r107,r108,r109,r110,r111)=>gd (((KY (f.take i) u).length+1)*64<=140737488355328)<|some (true,KY (f.take i) u++[(r106,r107,r108,r109,r110,r111)])
    else some (IT (f.take i) u.1,KY (f.take i) u))=some (IT (f.take (i+1)) u.1,bif (!IT (f.take i) u.1)&&decide (u.1<(A2 f i).1)then KY (f.take i) u++[u]else KY (f.take i) u):=by
    have g:IT (f.take (i+1)) u.1=(IT (f.take i) u.1||decide (u.1<(A2 f i).1)):=by rw[KZ hi];unfold IT;rw[List.any_append,List.any_cons,List.any_nil,FM]
    rw[g];cases h3:IT (f.take i) u.1<;>cases h4:decide (u.1<(A2 f i).1)
    ·rfl
    ·rw[yS,DV,cT,cT,KX N hu,bS];simp only;rw[Ae (by omega)];rfl
    ·rfl
    ·rfl
   rw[key,bS];simp only;rw[Fs hi,bS];simp only;rw[KX N (by omega),bS];have e2:(bif (!IT (f.take i) u.1)&&decide (u.1<(A2 f i).1)then KY (f.take i) u++[u]else KY (f.take i) u)++[A2 f i]=KY (f.take (i+1)) u:=by
    have g:IT (f.take (i+1)) u.1=(IT (f.take i) u.1||decide (u.1<(A2 f i).1)):=by rw[KZ hi];unfold IT;rw[List.any_append,List.any_cons,List.any_nil,FM]
    by_cases c:u.1<(A2 f i).1
    ·rw[aA c,DV];unfold KY;rw[g,aA c,Bool.or_true,cT,KZ hi,List.filter_append,List.filter_append,List.filter_cons,dW (by rw[bJ];omega),List.filter_nil,nA,List.filter_cons,dX (by rw[bJ];omega),List.filter_nil];cases h3:IT (f.take i) u.1 with
     |false=>rw[yS,cT,cF,ZW h3,nA,nA,nK];rfl
     |true=>rw[z8,cF,cT,nK,nK]
    ·have h3:IT (f.take i) u.1=false:=by unfold IT;rw[List.any_eq_false];intro v hv;have:=tl v hv;rw[bJ];omega
     rw[aB c,Bool.and_false,cF];unfold KY;rw[g,aB c,FM,h3,cF,KZ hi,List.filter_append,List.filter_append,List.filter_cons,dX (by rw[bJ];omega),List.filter_nil,List.filter_cons,dW (by rw[bJ];omega),List.filter_nil,nA,ZW h3];simp
   show gd ((List.length _+1)*64<=140737488355328) _=_;rw[Ae (by cases((!IT (f.take i) u.1)&&decide (u.1<(A2 f i).1))<;>simp<;>omega),Ae (by unfold Af;omega)];have e3:∀l:List Un,l++[((A2 f i).1,(A2 f i).2.1,(A2 f i).2.2.1,(A2 f i).2.2.2.1,(A2 f i).2.2.2.2.1,(A2 f i).2.2.2.2.2)]=l++[A2 f i]:=λl=>rfl
   rw[e3,e2,<-ns];exact Ur hf hu n (i+1) (by omega) (by omega)
theorem W3(f:List Un){u:Un}(hu:u.2.2.2.1.length<=1000):DK N f u.1 u.2.1 u.2.2.1 u.2.2.2.1 u.2.2.2.2.1 u.2.2.2.2.2=some (if Fit f u then(Gm f u,0)else([],120)):=by
 unfold DK;rw[SZ hN,bS];by_cases hf:FV f
 ·have hl:=hf.len;have L:=Ur (N:=N) hf hu N 0 (by omega) (by omega);have glen:=YR (p:=f) (u:=u);rw[aA hf,A1 _ (by rfl)];rw[List.take_zero,iW]at L;rw[show IT [] u.1=false from rfl,show KY [] u=[]from rfl]at L;rw[L,bS];simp only;have key:(bif !IT f u.1 then(BY N u.1 u.2.1 u.2.2.1 u.2.2.2.1 u.2.2.2.2.1 u.2.2.2.2.2).bind λ(r148,r149,r150,r151,r152,r153)=>gd (((KY f u).length+1)*64<=140737488355328)<|some (KY f u++[(r148,r149,r150,r151,r152,r153)])else some (KY f u))=some (N1 f u):=by
   cases h:IT f u.1 with
   |false=>rw[yS,cT,KX N hu,bS];simp only;rw[Ae (by omega)];unfold KY N1;rw[h,cF,ZW h,nA,nA]
   |true=>rw[z8,cF];unfold KY N1;rw[h,cT];rfl
  rw[key,bS,SZ hN,bS];by_cases c:Fit f u
  ·rw[aA ((YQ hf).2 c),A1 _ (by rfl),dX c,Ty c.hi]
  ·rw[aB λh=>c ((YQ hf).1 h),AU _ (by rfl),dW c]
 ·rw[aB hf,AU _ (by rfl),dW λh=>hf h.hf]
end
theorem IL{N:Nat}{c n:Int}(hc:Af c)(hn:0<n):Al N c n=some (pk c n):=by
 unfold Al pk;unfold Af at hc;by_cases h:c<0
 ·rw[aA h,cT,dX h,Ae (by unfold Af;omega),Ae (by unfold Af;omega),Ae (by omega)]
 ·rw[aB h,cF,dW h,Ae (by omega)]
def vpT(l:List Pt):Bool:=((decide (3<=l.length)&&decide (l.length<=8))&&l.all λp=>decide (On p))&&(List.range l.length).all λi=>(List.range l.length).all λk=>decide (k=i)||(decide (k=(i+1)%l.length)||decide (0<Ao (pa l i) (pa l ((i+1)%l.length)) (pa l k)))
theorem AaF{l:List Pt}(h:vpT l=true):VP l:=by
 unfold vpT at h;simp only[fW,bJ,u0,List.mem_range,qZ]at h;obtain⟨⟨⟨h1,h2⟩,h3⟩,h4⟩:=h;refine⟨h1,h2,h3,λi k hi hk n1 n2=>?_⟩;rcases h4 i hi k hk with e|e|e
 ·exact absurd e n1
 ·exact absurd e n2
 ·exact e
def shp(t:Nat)(a b c d:Int):List Pt:=match t with|0=>[(a,b),(c,b),(c-1,d),(a+1,d)]|1=>[(a+1,b),(c-1,b),(c,d),(a,d)]|2=>[(a,b),(c,b),(c,d)]|3=>[(a,b),(c,d),(a,d)]|_=>[(a,b),(c,b),(c,d),(a,d)]
theorem uA:∀a,a<9->∀b,b<6->∀c,c<4->∀d,d<2->∀t,t<5->vpT (shp t (4*((a:Nat):Int)) (4*((b:Nat):Int)) (min (4*(a:Int)+4*(1+((c:Nat):Int))) 40) (4*(b:Int)+4*(1+((d:Nat):Int))))=true:=by decide+kernel
theorem AaG{a b c d:Int}(ha:0<=a/\a<9)(hb:0<=b/\b<6)(hc:0<=c/\c<4)(hd:0<=d/\d<2){t:Nat}(ht:t<5):VP (shp t (4*a) (4*b) (min (4*a+4*(1+c)) 40) (4*b+4*(1+d))):=by have:=uA a.toNat (by omega) b.toNat (by omega) c.toNat (by omega) d.toNat (by omega) t ht;rw[w5 ha.1,w5 hb.1,w5 hc.1,w5 hd.1]at this;exact AaF this
theorem Pp{n:Int}(h:Af n){d:Int}(h1:1<d)(h2:d<=1000):Af (n.tdiv d):=WD h h1 h2
def oX(N:Nat)(id x:Int)(l:List Pt):Option Un:=(Al N x 4).bind λr401=>bif decide (r401=3)then(gd (Af (x.tdiv 4))<|(Al N (x.tdiv 4) 4).bind λr413=>gd (Af (r413+1))<|gd (Af (x.tdiv 16))<|(Al N (x.tdiv 16) 4).bind λr415=>gd (Af ((r413+1)+r415))<|(Al N id 100).bind λr417=>gd (Af (x.tdiv 64))<|(Al N (x.tdiv 64) 8).bind λr419=>gd (Af (1+r419))<|gd (Af (x.tdiv 512))<|(Al N (x.tdiv 512) 8).bind λr421=>some (r417,1+r419,r421,l,r413,(r413+1)+r415))else((Al N id 100).bind λr423=>gd (Af (x.tdiv 64))<|(Al N (x.tdiv 64) 8).bind λr425=>gd (Af (1+r425))<|gd (Af (x.tdiv 512))<|(Al N (x.tdiv 512) 8).bind λr427=>some (r423,1+r425,r427,l,0,4))
theorem OG{N:Nat}{id x:Int}(hi:Af id)(hx:Af x){l:List Pt}(hl:VP l):∃u,oX N id x l=some u/\UV u/\u.1=pk id 100:=by
 have k1:=@DI x 4 (by omega);have k2:=@DI (x.tdiv 4) 4 (by omega);have k3:=@DI (x.tdiv 16) 4 (by omega);have k4:=@DI id 100 (by omega);have k5:=@DI (x.tdiv 64) 8 (by omega);have k6:=@DI (x.tdiv 512) 8 (by omega);have d1:=Pp hx (d:=4) (by omega) (by omega);have d2:=Pp hx (d:=16) (by omega) (by omega);have d3:=Pp hx (d:=64) (by omega) (by omega);have d4:=Pp hx (d:=512) (by omega) (by omega);unfold oX;rw[IL hx (by omega),bS];by_cases c:pk x 4=3
 ·rw[aA c,cT,Ae d1,IL d1 (by omega),bS,Ae (by unfold Af;omega),Ae d2,IL d2 (by omega),bS,Ae (by unfold Af;omega),IL hi (by omega),bS,Ae d3,IL d3 (by omega),bS,Ae (by unfold Af;omega),Ae d4,IL d4 (by omega),bS];exact⟨_,rfl,⟨by show 0<=pk id 100/\pk id 100<=99;omega,by show 1<=1+pk (x.tdiv 64) 8/\1+pk (x.tdiv 64) 8<=8;omega,by show 0<=pk (x.tdiv 512) 8/\pk (x.tdiv 512) 8<=7;omega,by show 0<=pk (x.tdiv 4) 4/\pk (x.tdiv 4) 4<pk (x.tdiv 4) 4+1+pk (x.tdiv 16) 4/\pk (x.tdiv 4) 4+1+pk (x.tdiv 16) 4<=8;omega,hl⟩,rfl⟩
 ·rw[aB c,cF,IL hi (by omega),bS,Ae d3,IL d3 (by omega),bS,Ae (by unfold Af;omega),Ae d4,IL d4 (by omega),bS];exact⟨_,rfl,⟨by show 0<=pk id 100/\pk id 100<=99;omega,by show 1<=1+pk (x.tdiv 64) 8/\1+pk (x.tdiv 64) 8<=8;omega,by show 0<=pk (x.tdiv 512) 8/\pk (x.tdiv 512) 8<=7;omega,by show(0:Int)<=0/\(0:Int)<4/\(4:Int)<=8;omega,hl⟩,rfl⟩
theorem Us{N:Nat}{id a b c d e f:Int}(hi:Af id)(h1:Af a)(h2:Af b)(h3:Af c)(h4:Af d)(h5:Af e)(h6:Af f):∃u:Un,El N id a b c d e f=some u/\UV u/\u.1=pk id 100:=by
 have k1:=@DI a 9 (by omega);have k2:=@DI b 6 (by omega);have k3:=@DI c 4 (by omega);have k4:=@DI d 2 (by omega);have Γ:=λt (ht:t<5)=>AaG k1 k2 k3 k4 ht
 unfold El;rw[IL h1 (by omega),bS,Ae (by unfold Af;omega),IL h2 (by omega),bS,Ae (by unfold Af;omega),IL h3 (by omega),bS,Ae (by unfold Af;omega),Ae (by unfold Af;omega),Ae (by unfold Af;omega),IL h4 (by omega),bS,Ae (by unfold Af;omega),Ae (by unfold Af;omega),Ae (by unfold Af;omega),IL h5 (by omega),bS];by_cases c4:pk e 8=4
 ·rw[aA c4,cT,Ae (by unfold Af;omega),Ae (by unfold Af;omega)];exact OG hi h6 (Γ 0 (by omega))
 rw[aB c4,cF];by_cases c5:pk e 8=5
 ·rw[aA c5,cT,Ae (by unfold Af;omega),Ae (by unfold Af;omega)];exact OG hi h6 (Γ 1 (by omega))
 rw[aB c5,cF];by_cases c6:pk e 8=6
 ·rw[aA c6,cT];exact OG hi h6 (Γ 2 (by omega))
 rw[aB c6,cF];by_cases c7:pk e 8=7
 ·rw[aA c7,cT];exact OG hi h6 (Γ 3 (by omega))
 ·rw[aB c7,cF];exact OG hi h6 (Γ 4 (by omega))
theorem kP{N:Nat}{id a b c d e f:Int}(hi:Af id)(h1:Af a)(h2:Af b)(h3:Af c)(h4:Af d)(h5:Af e)(h6:Af f):∃u:Un,El N id a b c d e f=some u/\UV u:=by obtain⟨u,k,v,_⟩:=Us (N:=N) hi h1 h2 h3 h4 h5 h6;exact⟨u,k,v⟩
def I6(x:List (Int×Int×Int×Int×Int×Int)):Prop:=∀r∈x,Af r.1/\Af r.2.1/\Af r.2.2.1/\Af r.2.2.2.1/\Af r.2.2.2.2.1/\Af r.2.2.2.2.2
theorem eS:FV []:=⟨by simp,by simp,List.Pairwise.nil,List.Pairwise.nil⟩
theorem kQ{f:List Un}{u v:Un}:v∈Gm f u↔v∈f\/v=u:=by
 unfold Gm Of Ro;rw[fU,fP,sH,sH,bJ,bJ];constructor
 ·rintro(⟨k,_⟩|k|⟨k,_⟩)
  ·exact .inl k
  ·exact .inr k
  ·exact .inl k
 ·rintro(k|k)
  ·by_cases c:v.1<u.1
   ·exact .inl ⟨k,c⟩
   ·exact .inr (.inr ⟨k,by omega⟩)
  ·exact .inr (.inl k)
theorem kR{f:List Un}{u:Un}(h:Fit f u):(Gm f u).length=f.length+1:=by
 have e:(Of f u.1++Ro f u.1).length=f.length:=by rw[h.hf.cut]
 rw[fN]at e;unfold Gm;rw[fN,mV];omega
theorem kS{c n:Int}(h0:0<=c)(h:c<n):pk c n=c:=by unfold pk;rw[dW (by omega),Int.tmod_eq_of_lt h0 h]
structure Frst(i:Nat)(f:List Un):Prop where
 fv:FV f
 len:f.length<=i
 ids:∀u∈f,u.1<3*i
theorem Frst.up{i:Nat}{f:List Un}(h:Frst i f){j:Nat}(hj:i<=j):Frst j f:=⟨h.fv,by have:=h.len;omega,λu hu=>by have:=h.ids u hu;omega⟩
theorem Qp{N:Nat}(hN:1001<=N){x:List (Int×Int×Int×Int×Int×Int)}(hx:I6 x):∀n i f,i<=12->i<=x.length->12<n+i->Frst i f->∃g,DO N x n (i:Nat) f=some g/\Frst (min x.length 12) g
 |0,i,f,h1,_,h2,_=>by omega
 |n+1,i,f,h1,h3,h2,hf=>by
  rw[DO];by_cases c:i<x.length/\i<12
  ·have hr:=hx _ (y7 c.1);have k:=@DI (x[i].2.2.2.2.2) 3 (by omega);rw[Dq c.1,Bool.true_and,aA (p:=(i:Int)<12) (by omega),cT,Ae (by unfold Af;omega),M4,dQ c.1,bS];generalize x[i]=r at hr k;obtain⟨a,b,c1,d,e,g⟩:=r;simp only at hr k⊢;obtain⟨u,hu,vu,iu⟩:=Us (N:=N) (id:=3*(i:Int)+pk g 3) (by unfold Af;omega) hr.1 hr.2.1 hr.2.2.1 hr.2.2.2.1 hr.2.2.2.2.1 hr.2.2.2.2.2;have iu:u.1<3*((i+1:Nat):Int):=by rw[iu,kS (by omega) (by omega)];omega
   have l8:=vu.l.l8;have ha:=W3 hN f (u:=u) (by omega);obtain⟨u1,u2,u3,u4,u5,u6⟩:=u;simp only at ha iu;rw[IL hr.2.2.2.2.2 (by omega),bS,Ae (by unfold Af;omega),hu,bS];simp only;rw[ha,bS];by_cases ft:Fit f (u1,u2,u3,u4,u5,u6)
   ·rw[dX ft];simp only;rw[AU _ (by rfl),Ae (by unfold Af;omega),<-ns];refine Qp hN hx n (i+1) _ (by omega) (by omega) (by omega) ⟨ft.fv,by rw[kR ft];have:=hf.len;omega,λv hv=>?_⟩;rcases kQ.1 hv with q|q
    ·exact(hf.up (Nat.le_succ i)).ids v q
    ·rw[q];exact iu
   ·rw[dW ft];simp only;rw[A1 _ (by rfl),Ae (by unfold Af;omega),<-ns];exact Qp hN hx n (i+1) _ (by omega) (by omega) (by omega) (hf.up (Nat.le_succ i))
  ·rw[A1 _ (by rw[vF,bK,bK];omega)];exact⟨f,rfl,hf.up (by omega)⟩
theorem eT{N:Nat}(hN:1001<=N){x:List (Int×Int×Int×Int×Int×Int)}(hx:I6 x):∃f,FD N x=some f/\Frst (min x.length 12) f:=by obtain⟨f,h,v⟩:=Qp hN hx N 0 [] (by omega) (by omega) (by omega) ⟨eS,by simp,by simp⟩;unfold FD;rw[iW]at h;rw[h,bS];exact⟨f,rfl,v⟩
theorem eU{N:Nat}(hN:1001<=N){x:List (Int×Int×Int×Int×Int×Int)}(hx:I6 x):∃f,FD N x=some f/\FV f:=by obtain⟨f,h,v⟩:=eT hN hx;exact⟨f,h,v.fv⟩
