import Derived.Test.YtjdchfljifacoaaGreatDoorN2
set_option linter.all false
set_option maxRecDepth 100000
set_option maxHeartbeats 8000000
namespace Go.Proofs.YtjdchfljifacoaaGreatDoor.Am
section
structure Fit(f:List Un)(u:Un):Prop where
 hf:FV f
 hu:UV u
 hl:f.length<12
 hi:∀v∈f,v.1≠u.1
 ho:∀v∈f,GD u v=false
noncomputable instance(f:List Un)(u:Un):Decidable (Fit f u):=Classical.propDecidable _
def Ju(f:List Un)(t:Int):List Un:=f.filter λv=>decide (v.1<t)
def K4(f:List Un)(t:Int):List Un:=f.filter λv=>decide (t<=v.1)
def C6(f:List Un)(u:Un):List Un:=Ju f u.1++u::K4 f u.1
def CZ(f:List Un)(t:Int):List Un:=f.filter λv=>decide (v.1≠t)
theorem Pos.split{f:List Un}{t:Int}{r:Nat}(p:Pos f t r):f.take r=Ju f t/\f.drop r=K4 f t:=by
 have h1:∀u∈f.take r,u.1<t:=λu hu=>by obtain⟨k,hk,rfl⟩:=List.mem_take_iff_getElem.1 hu;rw[<-FB (by omega)];exact p.lo k (by omega)
 have h2:∀u∈f.drop r,t<=u.1:=λu hu=>by obtain⟨k,hk,rfl⟩:=List.mem_drop_iff_getElem.1 hu;rw[<-FB (by omega)];exact p.hi _ (by omega) (by omega)
 have e:f=f.take r++f.drop r:=by simp_all
 constructor
 ·unfold Ju;conv=>rhs;rw[e,A34]
  rw[A58.2 λu hu=>by grind,A59.2 λu hu=>by have:=h2 u hu;rw[s7];omega,A05]
 ·unfold K4;conv=>rhs;rw[e,A34]
  rw[A58.2 λu hu=>q9 (h2 u hu),A59.2 λu hu=>by have:=h1 u hu;rw[s7];omega,A02]
theorem FV.pos{f:List Un}(h:FV f)(t:Int):∃r,Pos f t r:=by obtain⟨r,p,_⟩:=Td (w6 _) h t;exact⟨r,p⟩
theorem FV.cut{f:List Un}(h:FV f)(t:Int):Ju f t++K4 f t=f:=by obtain⟨r,p⟩:=h.pos t;rw[<-p.split.1,<-p.split.2,A37]
theorem FV.sub{f g:List Un}(h:FV f)(s:g.Sublist f):FV g:=⟨A09 s.length_le h.len,λu hu=>h.val u (s.subset hu),h.srt.sublist s,h.dis.sublist s⟩
theorem Fit.fv{f:List Un}{u:Un}(h:Fit f u):FV (C6 f u):=by
 have e:=h.hf.cut u.1;have hm:∀v,v∈Ju f u.1->v∈f/\v.1<u.1:=λv hv=>by have:=A18.1 hv;rwa [s7]at this
 have hg:∀v,v∈K4 f u.1->v∈f/\u.1<=v.1:=λv hv=>by have:=A18.1 hv;rwa [s7]at this
 have hd:=h.hf.dis;rw[<-e,List.pairwise_append]at hd;have hs:=h.hf.srt;rw[<-e,List.pairwise_append]at hs;unfold C6;refine⟨?_,λv hv=>?_,?_,?_⟩
 ·have:=h.hl;grind
 ·rcases y7.1 hv with h1|h1
  ·exact h.hf.val v (hm v h1).1
  ·rcases y6.1 h1 with rfl|h1
   ·exact h.hu
   ·exact h.hf.val v (hg v h1).1
 ·rw[List.pairwise_append,A25];refine⟨hs.1,⟨λv hv=>?_,hs.2.1⟩,λa ha b hb=>?_⟩
  ·have:=hg v hv;have:=h.hi v this.1;omega
  grind
 ·rw[List.pairwise_append,A25];refine⟨hd.1,⟨λv hv=>h.ho v (hg v hv).1,hd.2.1⟩,λa ha b hb=>?_⟩;rcases y6.1 hb with rfl|hb
  ·rw[LO];exact h.ho a (hm a ha).1
  ·exact hd.2.2 a ha b hb
def Mh(f:List Un)(u:Un):List Un:=(f.filter λv=>decide (v.1<=u.1))++u::f.filter λv=>decide (u.1<v.1)
theorem RQ{f:List Un}{u:Un}(h:∀v∈f,v.1≠u.1):Mh f u=C6 f u:=by
 have e1:(f.filter λv=>decide (v.1<=u.1))=Ju f u.1:=List.filter_congr λv hv=>by have:=h v hv;rw[decide_eq_decide];omega
 have e2:(f.filter λv=>decide (u.1<v.1))=K4 f u.1:=List.filter_congr λv hv=>by have:=h v hv;rw[decide_eq_decide];omega
 unfold Mh C6;rw[e1,e2]
theorem WL{f:List Un}{u:Un}(hf:FV f):FV (Mh f u)↔Fit f u:=by
 constructor
 ·intro h;have hs:=h.srt;have hd:=h.dis;have hl:=h.len;have hid:∀v∈f,v.1≠u.1:=λv hv e=>by unfold Mh at hs;rw[List.pairwise_append]at hs;have:=hs.2.2 v (by grind) u List.mem_cons_self;omega
  rw[RQ hid]at hd hl;refine⟨hf,h.val u (by unfold Mh;simp),?_,hid,λv hv=>?_⟩
  ·have e2:(Ju f u.1++K4 f u.1).length=f.length:=by rw[hf.cut]
   grind[C6]
  ·unfold C6 at hd;rw[List.pairwise_append,A25]at hd;by_cases c:v.1<u.1
   ·rw[LO];exact hd.2.2 v (A18.2 ⟨hv,q9 c⟩) u List.mem_cons_self
   ·exact hd.2.1.1 v (A18.2 ⟨hv,by grind⟩)
 ·intro h;rw[RQ h.hi];exact h.fv
section
variable{N:Nat}(hN:1001<=N)
include hN
open Classical in
theorem eY(f:List Un)(hl:f.length<=1000)(u:Un):Bm N f u.1 u.2.1 u.2.2.1 u.2.2.2.1 u.2.2.2.2.1 u.2.2.2.2.2=some (decide (∃v∈f,GD u v=true)):=by
 have st:∀v,G1 N v.1 v.2.1 v.2.2.1 v.2.2.2.1 v.2.2.2.2.1 v.2.2.2.2.2 u.1 u.2.1 u.2.2.1 u.2.2.2.1 u.2.2.2.2.1 u.2.2.2.2.2=some (GD u v):=by simp_all[G1,wV]
 have F:=HK (L:=AX N f u.1 u.2.1 u.2.2.1 u.2.2.2.1 u.2.2.2.2.1 u.2.2.2.2.2) (len:=f.length) (λk=>bif GD u (A6 f k)then some (k)else none) (λn k hk e=>?_) (λn k r hk e=>?_) (λn=>?_) N (by omega)
 ·unfold Bm Cv;rcases F with⟨e,h⟩|⟨j,r,hj,h,_,e⟩
  ·rw[e,bS];rw[bS,s6 (p:=(0)<=-1) (by omega),s6];rintro⟨v,hv,c⟩;obtain⟨k,hk,rfl⟩:=Ix hv;have:=h k hk;rw[c,cT]at this;cases this
  ·rw[e,bS];cases c:GD u (A6 f j)with
   |false=>rw[c,cF]at h;cases h
   |true=>
    rw[c,cT]at h;cases h
    rw[bS,q9 (p:=(0:Int)<=(j)) (by omega),q9 ⟨_,FY hj,c⟩]
 ·cases c:GD u (A6 f k)with
  |true=>rw[c,cT]at e;cases e
  |false=>rw[AX,Fe hk,cT,GE hk,bS];simp only;rw[st,bS,c,cF,Ab (by omega),ns]
 ·cases c:GD u (A6 f k)with
  |false=>rw[c,cF]at e;cases e
  |true=>
   rw[c,cT]at e;cases e
   rw[AX,Fe hk,cT,GE hk,bS];simp;rw[st,bS,c,cT]
 simp[AX]
omit hN in
theorem UQ{f:List Un}{k:Nat}(hk:k<f.length):f.set k ((A6 f k).1,(A6 f k).2.1,(A6 f k).2.2.1,(A6 f k).2.2.2.1,(A6 f k).2.2.2.2.1,(A6 f k).2.2.2.2.2)=f:=by rw[FB hk,List.set_getElem_self]
omit hN in
theorem NE{u:Un}(h:UV u):Bn N u.2.2.2.1=some u.2.2.2.1:=by have l8:=h.l.l8;unfold Bn;rw[Ab (UO h),Ab (by omega)]
omit hN in
theorem ZX{f:List Un}(h:FV f):∀n k,k<=f.length->f.length<n+k->EW N f n k f=some f
 |0,k,h1,h2=>by omega
 |n+1,k,h1,h2=>by
  have hl:=h.len;rw[EW];by_cases e:k=f.length
  ·subst e;rw[K3,cF]
  ·have hk:k<f.length:=by omega
   rw[Fe hk,cT,GE hk,bS];simp only;rw[NE (h.val _ (FY hk)),bS,Ab (by omega),A19,UQ hk,<-ns];exact ZX h n _ (by omega) (by omega)
omit hN in
theorem ZY{f:List Un}(h:FV f):∀n k,k<=f.length->f.length<n+k->EI N f n k f=some f
 |0,k,h1,h2=>by omega
 |n+1,k,h1,h2=>by
  have hl:=h.len;rw[EI];by_cases e:k=f.length
  ·subst e;rw[K3,cF]
  ·have hk:k<f.length:=by omega
   rw[Fe hk,cT,GE hk,bS];simp only;rw[NE (h.val _ (FY hk)),bS,Ab (by omega),A19,UQ hk,<-ns];exact ZY h n _ (by omega) (by omega)
open Classical in
theorem Te(f:List Un)(u:Un):Ep N f u.1 u.2.1 u.2.2.1 u.2.2.2.1 u.2.2.2.2.1 u.2.2.2.2.2=some (if Fit f u then(C6 f u,0)else([],120)):=by
 unfold Ep;rw[UM hN,bS,eW hN,BY (by grind),A00];by_cases c1:FV f/\UV u/\f.length≠12
 ·obtain⟨h1,h2,h3⟩:=c1;have hl:=h1.len;obtain⟨r,p,e⟩:=Td hN h1 u.1;rw[q9 h1,Tc.2 h2,BL _ (by rw[s6 (by omega)];rfl),e,bS];simp only;rw[eY hN f (by omega) u,BY (by grind),A00];by_cases c2:(∃v∈f,v.1=u.1)\/∃v∈f,GD u v=true
  ·rw[Ca _ (by rw[Bool.or_eq_true,s7,s7];exact c2),t7 λh=>?_];rcases c2 with⟨v,hv,e⟩|⟨v,hv,e⟩
   ·exact h.hi v hv e
   ·have:=h.ho v hv;rw[e]at this;cases this
  ·have hid:∀v∈f,v.1≠u.1:=by grind
   have hov:∀v∈f,GD u v=false:=by grind
   have pl:=p.le;rw[BL _ (by rw[A21,Ne,Bool.or_eq_true,s7,s7];exact c2),Ab (by omega),<-y9,ZX h1 N 0 (by omega) (by omega),bS,NE h2,bS,Ab (by omega),Ab (by omega),t8 ⟨h1,h2,by omega,hid,hov⟩,A19,p.split.1,p.split.2,A06];rfl
 ·rw[t7 λh=>by grind[h.hf,h.hu,h.hl],Ca];by_cases h1:FV f
  ·by_cases h2:UV u
   ·have h3:f.length=12:=by grind
    rw[q9 (p:=(f.length:Int)=12) (by omega),Bool.or_true]
   ·rw[show UL u=false by rw[A21];exact λh=>h2 (Tc.1 h),A47,Bool.or_true,Bool.true_or]
  grind
open Classical in
theorem eZ(f:List Un)(t:Int):EX N f t=some (if FV f/\∃u∈f,u.1=t then(CZ f t,0)else([],120)):=by
 unfold EX;rw[UM hN,bS];by_cases h1:FV f
 ·have hl:=h1.len;obtain⟨r,p,e⟩:=Td hN h1 t;rw[q9 h1,BL _ (by rfl),e,bS];simp only;by_cases c:∃u∈f,u.1=t
  ·obtain⟨g1,g2⟩:=(p.found h1).2 c;have hne:f≠[]:=by grind
   rw[q9 c,BL _ (by rfl),t8 ⟨h1,c⟩,Ab hne,Ab (by omega),<-y9,ZY h1 N 0 (by omega) (by omega),bS,Ab (by omega),Ab (by omega),Ab (by omega),A19];have hlo:∀v∈f.take r,v.1≠t:=λv hv=>by obtain⟨k,hk,rfl⟩:=List.mem_take_iff_getElem.1 hv;have:=p.lo k (by omega);rw[FB (by omega)]at this;omega
   have hhi:∀v∈f.drop (r+1),v.1≠t:=λv hv=>by obtain⟨k,hk,rfl⟩:=List.mem_drop_iff_getElem.1 hv;have:=Hr.1 h1.srt r (k+(r+1)) (by omega) (by omega);rw[FB (show k+(r+1)<f.length by omega)]at this;grind
   have e:f=f.take r++f[r]::f.drop (r+1):=by rw[<-z7 g1,A37]
   unfold CZ;conv=>rhs;rw[e,A34,List.filter_cons]
   rw[A58.2 λv hv=>by simpa using hlo v hv,A58.2 λv hv=>by simpa using hhi v hv,t7 (by rw[<-FB g1];simpa using g2)]
  grind
 grind
end
end
section
open Go
attribute [local irreducible] Aq BD Bv A8 Bq Ba AQ Bw By Ck
def Eg(N:Nat)(f1886:List (Int×Int×Int×(List (Int×Int))×Int×Int))(ab:Int)(aj:Int)(ai:Int)(ah:List (Int×Int))(af:Int)(ae:Int):Nat->Bool->Int->(List (Int×Int×Int×(List (Int×Int))×Int×Int))->Option (Bool×(List (Int×Int×Int×(List (Int×Int))×Int×Int)))|0,_,_,_=>none|n+1,aa,i1968,l1969=>bif decide (i1968<(f1886.length:Int))then(gd ((!aa)=true->(0<=i1968/\i1968<(f1886.length:Int)))<|(bif (!aa)&&(decide (ab<(f1886.getD i1968.toNat (0,0,0,[],0,0)).1))then((CE N ab aj ai ah af ae).bind λ(bo,bn,bm,bl,bj,bi)=>gd ((l1969.length+1)*64<=140737488355328)<|some (true,l1969++[(bo,bn,bm,bl,bj,bi)]))else(some (aa,l1969)):Option (Bool×(List (Int×Int×Int×(List (Int×Int))×Int×Int)))).bind λ(ak,l2000)=>(Bz f1886 i1968).bind λ(ce,b9,b7,bz,bw,bv)=>(CE N ce b9 b7 bz bw bv).bind λ(bh,bg,bf,be,bb,ba)=>gd ((l2000.length+1)*64<=140737488355328)<|gd (Ai (i1968+1))<|Eg N f1886 ab aj ai ah af ae n ak (i1968+1) (l2000++[(bh,bg,bf,be,bb,ba)]))else(some (aa,l1969))
def FJ(N:Nat)(f1886:List (Int×Int×Int×(List (Int×Int))×Int×Int))(ab:Int)(aj:Int)(ai:Int)(ah:List (Int×Int))(af:Int)(ae:Int):Option ((List (Int×Int×Int×(List (Int×Int))×Int×Int))×Int):=(En N f1886).bind λcj=>bif !cj then(some ([],120))else((Eg N f1886 ab aj ai ah af ae N false 0 []).bind λ(am,l2022)=>(bif !am then((CE N ab aj ai ah af ae).bind λ(az,ay,aw,av,au,aq)=>gd ((l2022.length+1)*64<=140737488355328)<|some (l2022++[(az,ay,aw,av,au,aq)]))else(some l2022):Option ((List (Int×Int×Int×(List (Int×Int))×Int×Int)))).bind λbp=>(En N bp).bind λci=>bif !ci then(some ([],120))else(some (bp,0)))
@[go_sem] def s92(N:Nat):Spec:=p0<|(qG<|qD Ak<|qE<|qG<|qI<|qI<|qI<|qD Aj<|qI<|qI<|qE<|qE<|qF ([],0) λr=>.tup [.agg [Ao r.1],.i r.2]) (FJ N)
theorem AaK(N:Nat):Au Tryz.prog 56 (s92 N):=by
 refine fk (wX PC (Aa (AaJ N)<|Aa (AaD N)<|Ae)) ?_;intro f1886 ab aj ai ah af ae r h _ hS F;dsimp only[PC,Ad,Aj,Ak];unfold FJ at h;obtain⟨cj,cu,h⟩:=un h;replace F:=fc cu F;refine An hS F h (λ_ h=>?_) (λ_ h=>?_)
 ·exact Ah hS F h
 ·refine go hS F ?_;refine Iv 1000001 (300,3) 0 6 [.i 0,.i 0,.i 0,.sl 0 true [] [],.i 0,.i 0] (by omega) (ev F) ?_;obtain⟨db,dm,h⟩:=un h;refine go hS F ?_;refine BU db (λz:Bool×(List (Int×Int×Int×(List (Int×Int))×Int×Int))×Nat=>⟨[(3,.box (1,1) 0),(4,.box (2,1) 0),(6,.box (300,3) 0),(7,.b z.1)],[(.c (300,3) 0,.own (1000001,6) z.2.1.length),(.a (1000001,6),Dm z.2.1),(.c (2,1) 0,.sl 0 true [] []),(.c (1,1) 0,.i ab),(.c (1,1) 1,.i aj),(.c (1,1) 2,.i ai),(.c (1,1) 3,BK ah),(.c (1,1) 4,.i af),(.c (1,1) 5,.i ae)],z.2.2⟩) (λz=>((z.1,z.2.1):Bool×(List (Int×Int×Int×(List (Int×Int))×Int×Int)))) (.x 0) ?_ ?_
  ·refine BO (λn (y:Bool×Int×(List (Int×Int×Int×(List (Int×Int))×Int×Int))×Nat)=>Eg N f1886 ab aj ai ah af ae n y.1 y.2.1 y.2.2.1) (λy=>⟨[(2,.box (0,1) 0),(3,.box (1,1) 0),(4,.box (2,1) 0),(6,.box (300,3) 0),(7,.b y.1),(8,.i y.2.1)],[(.c (300,3) 0,.own (1000001,6) y.2.2.1.length),(.a (1000001,6),Dm y.2.2.1),(.c (2,1) 0,.sl 0 true [] []),(.c (1,1) 0,.i ab),(.c (1,1) 1,.i aj),(.c (1,1) 2,.i ai),(.c (1,1) 3,BK ah),(.c (1,1) 4,.i af),(.c (1,1) 5,.i ae),(.c (0,1) 0,Ao f1886)],y.2.2.2⟩) (false,0,[],6) dm (CB F) ?_;rintro n ⟨aa,i1968,l1969,bq⟩ an;simp only[Eg]at an;refine An hS F an (λ_ an=>?_) (λ_ an=>?_)
   ·obtain⟨dx,an⟩:=un an;obtain⟨de,bu,an⟩:=un an;refine go hS F ?_;refine BU de (λz:Bool×(List (Int×Int×Int×(List (Int×Int))×Int×Int))×Nat=>⟨[(2,.box (0,1) 0),(3,.box (1,1) 0),(4,.box (2,1) 0),(6,.box (300,3) 0),(7,.b z.1),(8,.i i1968)],[(.c (300,3) 0,.own (1000001,6) z.2.1.length),(.a (1000001,6),Dm z.2.1),(.c (2,1) 0,.sl 0 true [] []),(.c (1,1) 0,.i ab),(.c (1,1) 1,.i aj),(.c (1,1) 2,.i ai),(.c (1,1) 3,BK ah),(.c (1,1) 4,.i af),(.c (1,1) 5,.i ae),(.c (0,1) 0,Ao f1886)],z.2.2⟩) (λz=>((z.1,z.2.1):Bool×(List (Int×Int×Int×(List (Int×Int))×Int×Int)))) .n ?_ ?_
    ·refine An hS F bu (λ_ bu=>?_) (λ_ bu=>?_)
     ·obtain⟨⟨bo,bn,bm,bl,bj,bi⟩,cr,bu⟩:=un bu;obtain⟨dw,bu⟩:=un bu;exact Cu hS (fc cr F) (true,l1969++[(bo,bn,bm,bl,bj,bi)],bq+1+1+1+1) bu
     ·exact Cu hS F (aa,l1969,bq+1+1) bu
    ·rintro⟨ak,l2000,dg⟩ rfl;obtain⟨⟨ce,b9,b7,bz,bw,bv⟩,cy,an⟩:=un an;obtain⟨dh,F⟩:=CH Ap cy F;obtain⟨⟨bh,bg,bf,be,bb,ba⟩,cq,an⟩:=un an;obtain⟨du,dt,an⟩:=un an;exact CS hS (fc cq F) (n,ak,i1968+1,l2000++[(bh,bg,bf,be,bb,ba)],dg+1+1) an
   ·exact Cu hS F (aa,l1969,bq+1) an
  ·rintro⟨am,l2022,ck⟩ rfl;obtain⟨da,br,h⟩:=un h;refine go hS F ?_;refine BU da (λz:(List (Int×Int×Int×(List (Int×Int))×Int×Int))×Nat=>⟨[(4,.box (2,1) 0),(6,.box (300,3) 0)],[(.c (300,3) 0,.own (1000001,6) z.1.length),(.a (1000001,6),Dm z.1),(.c (2,1) 0,.sl 0 true [] [])],z.2⟩) (λz=>(z.1:(List (Int×Int×Int×(List (Int×Int))×Int×Int)))) .n ?_ ?_
   ·refine An hS F br (λ_ br=>?_) (λ_ br=>?_)
    ·obtain⟨⟨az,ay,aw,av,au,aq⟩,co,br⟩:=un br;obtain⟨dq,br⟩:=un br;exact Cu hS (fc co F) (l2022++[(az,ay,aw,av,au,aq)],ck+1+1) br
    ·exact Cu hS F (l2022,ck+1) br
   ·rintro⟨bp,dl⟩ rfl;obtain⟨ci,cn,h⟩:=un h;replace F:=fc cn F;refine An hS F h (λ_ h=>?_) (λ_ h=>?_)
    ·exact Ah hS F h
    ·exact Ah hS F h
end
section
open Go
attribute [local irreducible] Aq BD Bv A8 Bq Ba AQ Bw By Ck
def HW(x:Int×Int×Int×Int×Int×Int):List AV:=[.i x.1,.i x.2.1,.i x.2.2.1,.i x.2.2.2.1,.i x.2.2.2.2.1,.i x.2.2.2.2.2]
def Ny:List AV->Int×Int×Int×Int×Int×Int|[.v (.int _ a1),.v (.int _ a2),.v (.int _ a3),.v (.int _ a4),.v (.int _ a5),.v (.int _ a6)]=>(a1,a2,a3,a4,a5,a6)|_=>(0,0,0,0,0,0)
theorem Zg(x:Int×Int×Int×Int×Int×Int):Ny (HW x)=x:=by rfl
theorem Zh(R:List (Int×Int×Int×Int×Int×Int)):(R.map HW).map Ny=R:=by
 induction R with
 |nil=>rfl
 |cons r R ih=>rw[w5,w5,ih,Zg]
def JT:Rw (Int×Int×Int×Int×Int×Int):=⟨6,HW,Ny,[.i 0,.i 0,.i 0,.i 0,.i 0,.i 0]⟩
def HX(l:List (Int×Int×Int×Int×Int×Int)):AV:=.sl 6 false (l.map HW) [.i 0,.i 0,.i 0,.i 0,.i 0,.i 0]
def dU(l:List (Int×Int×Int×Int×Int×Int)):AV:=.sl 6 true (l.map HW) [.i 0,.i 0,.i 0,.i 0,.i 0,.i 0]
attribute [go_sem] JT HX dU HW Ny Zh
def Fb(N:Nat)(ah:Int)(co:Int)(cn:Int)(ck:Int)(cj:Int)(ci:Int)(x2051:Int):Option (Int×Int×Int×(List (Int×Int))×Int×Int):=(Af N co 9).bind λaa=>gd (Ai (4*aa))<|(Af N cn 6).bind λab=>gd (Ai (4*ab))<|(Af N ck 4).bind λae=>gd (Ai (1+ae))<|gd (Ai (4*(1+ae)))<|gd (Ai ((4*aa)+(4*(1+ae))))<|(Af N cj 2).bind λaf=>gd (Ai (1+af))<|gd (Ai (4*(1+af)))<|gd (Ai ((4*ab)+(4*(1+af))))<|(Af N ci 8).bind λaw=>bif decide (aw=4)then(gd (Ai ((min ((4*aa)+(4*(1+ae))) 40)-1))<|gd (Ai ((4*aa)+1))<|(Af N x2051 4).bind λe9=>bif decide (e9=3)then(gd (Ai (x2051.tdiv 4))<|(Af N (x2051.tdiv 4) 4).bind λav=>gd (Ai (av+1))<|gd (Ai (x2051.tdiv 16))<|(Af N (x2051.tdiv 16) 4).bind λbu=>gd (Ai ((av+1)+bu))<|(Af N ah 100).bind λe8=>gd (Ai (x2051.tdiv 64))<|(Af N (x2051.tdiv 64) 8).bind λbr=>gd (Ai (1+br))<|gd (Ai (x2051.tdiv 512))<|(Af N (x2051.tdiv 512) 8).bind λez=>some (e8,1+br,ez,[(4*aa,4*ab),(min ((4*aa)+(4*(1+ae))) 40,4*ab),((min ((4*aa)+(4*(1+ae))) 40)-1,(4*ab)+(4*(1+af))),((4*aa)+1,(4*ab)+(4*(1+af)))],av,(av+1)+bu))else((Af N ah 100).bind λeu=>gd (Ai (x2051.tdiv 64))<|(Af N (x2051.tdiv 64) 8).bind λbq=>gd (Ai (1+bq))<|gd (Ai (x2051.tdiv 512))<|(Af N (x2051.tdiv 512) 8).bind λep=>some (eu,1+bq,ep,[(4*aa,4*ab),(min ((4*aa)+(4*(1+ae))) 40,4*ab),((min ((4*aa)+(4*(1+ae))) 40)-1,(4*ab)+(4*(1+af))),((4*aa)+1,(4*ab)+(4*(1+af)))],0,4)))else(bif decide (aw=5)then(gd (Ai ((4*aa)+1))<|gd (Ai ((min ((4*aa)+(4*(1+ae))) 40)-1))<|(Af N x2051 4).bind λel=>bif decide (el=3)then(gd (Ai (x2051.tdiv 4))<|(Af N (x2051.tdiv 4) 4).bind λau=>gd (Ai (au+1))<|gd (Ai (x2051.tdiv 16))<|(Af N (x2051.tdiv 16) 4).bind λbp=>gd (Ai ((au+1)+bp))<|(Af N ah 100).bind λej=>gd (Ai (x2051.tdiv 64))<|(Af N (x2051.tdiv 64) 8).bind λbo=>gd (Ai (1+bo))<|gd (Ai (x2051.tdiv 512))<|(Af N (x2051.tdiv 512) 8).bind λeh=>some (ej,1+bo,eh,[((4*aa)+1,4*ab),((min ((4*aa)+(4*(1+ae))) 40)-1,4*ab),(min ((4*aa)+(4*(1+ae))) 40,(4*ab)+(4*(1+af))),(4*aa,(4*ab)+(4*(1+af)))],au,(au+1)+bp))else((Af N ah 100).bind λee=>gd (Ai (x2051.tdiv 64))<|(Af N (x2051.tdiv 64) 8).bind λbn=>gd (Ai (1+bn))<|gd (Ai (x2051.tdiv 512))<|(Af N (x2051.tdiv 512) 8).bind λd9=>some (ee,1+bn,d9,[((4*aa)+1,4*ab),((min ((4*aa)+(4*(1+ae))) 40)-1,4*ab),(min ((4*aa)+(4*(1+ae))) 40,(4*ab)+(4*(1+af))),(4*aa,(4*ab)+(4*(1+af)))],0,4)))else(bif decide (aw=6)then((Af N x2051 4).bind λd8=>bif decide (d8=3)then(gd (Ai (x2051.tdiv 4))<|(Af N (x2051.tdiv 4) 4).bind λaq=>gd (Ai (aq+1))<|gd (Ai (x2051.tdiv 16))<|(Af N (x2051.tdiv 16) 4).bind λbm=>gd (Ai ((aq+1)+bm))<|(Af N ah 100).bind λd7=>gd (Ai (x2051.tdiv 64))<|(Af N (x2051.tdiv 64) 8).bind λbl=>gd (Ai (1+bl))<|gd (Ai (x2051.tdiv 512))<|(Af N (x2051.tdiv 512) 8).bind λd6=>some (d7,1+bl,d6,[(4*aa,4*ab),(min ((4*aa)+(4*(1+ae))) 40,4*ab),(min ((4*aa)+(4*(1+ae))) 40,(4*ab)+(4*(1+af)))],aq,(aq+1)+bm))else((Af N ah 100).bind λd5=>gd (Ai (x2051.tdiv 64))<|(Af N (x2051.tdiv 64) 8).bind λbj=>gd (Ai (1+bj))<|gd (Ai (x2051.tdiv 512))<|(Af N (x2051.tdiv 512) 8).bind λdz=>some (d5,1+bj,dz,[(4*aa,4*ab),(min ((4*aa)+(4*(1+ae))) 40,4*ab),(min ((4*aa)+(4*(1+ae))) 40,(4*ab)+(4*(1+af)))],0,4)))else(bif decide (aw=7)then((Af N x2051 4).bind λdy=>bif decide (dy=3)then(gd (Ai (x2051.tdiv 4))<|(Af N (x2051.tdiv 4) 4).bind λan=>gd (Ai (an+1))<|gd (Ai (x2051.tdiv 16))<|(Af N (x2051.tdiv 16) 4).bind λbi=>gd (Ai ((an+1)+bi))<|(Af N ah 100).bind λdx=>gd (Ai (x2051.tdiv 64))<|(Af N (x2051.tdiv 64) 8).bind λbh=>gd (Ai (1+bh))<|gd (Ai (x2051.tdiv 512))<|(Af N (x2051.tdiv 512) 8).bind λdw=>some (dx,1+bh,dw,[(4*aa,4*ab),(min ((4*aa)+(4*(1+ae))) 40,(4*ab)+(4*(1+af))),(4*aa,(4*ab)+(4*(1+af)))],an,(an+1)+bi))else((Af N ah 100).bind λdu=>gd (Ai (x2051.tdiv 64))<|(Af N (x2051.tdiv 64) 8).bind λbg=>gd (Ai (1+bg))<|gd (Ai (x2051.tdiv 512))<|(Af N (x2051.tdiv 512) 8).bind λdt=>some (du,1+bg,dt,[(4*aa,4*ab),(min ((4*aa)+(4*(1+ae))) 40,(4*ab)+(4*(1+af))),(4*aa,(4*ab)+(4*(1+af)))],0,4)))else((Af N x2051 4).bind λdq=>bif decide (dq=3)then(gd (Ai (x2051.tdiv 4))<|(Af N (x2051.tdiv 4) 4).bind λam=>gd (Ai (am+1))<|gd (Ai (x2051.tdiv 16))<|(Af N (x2051.tdiv 16) 4).bind λbf=>gd (Ai ((am+1)+bf))<|(Af N ah 100).bind λdm=>gd (Ai (x2051.tdiv 64))<|(Af N (x2051.tdiv 64) 8).bind λbe=>gd (Ai (1+be))<|gd (Ai (x2051.tdiv 512))<|(Af N (x2051.tdiv 512) 8).bind λdl=>some (dm,1+be,dl,[(4*aa,4*ab),(min ((4*aa)+(4*(1+ae))) 40,4*ab),(min ((4*aa)+(4*(1+ae))) 40,(4*ab)+(4*(1+af))),(4*aa,(4*ab)+(4*(1+af)))],am,(am+1)+bf))else((Af N ah 100).bind λdh=>gd (Ai (x2051.tdiv 64))<|(Af N (x2051.tdiv 64) 8).bind λbb=>gd (Ai (1+bb))<|gd (Ai (x2051.tdiv 512))<|(Af N (x2051.tdiv 512) 8).bind λdg=>some (dh,1+bb,dg,[(4*aa,4*ab),(min ((4*aa)+(4*(1+ae))) 40,4*ab),(min ((4*aa)+(4*(1+ae))) 40,(4*ab)+(4*(1+af))),(4*aa,(4*ab)+(4*(1+af)))],0,4))))))
@[go_sem] def s88(N:Nat):Spec:=p0<|(qI<|qG<|qI<|qI<|qI<|qI<|qI<|qI<|qE<|qE<|qF (0,0,0,[],0,0) λr=>.agg [.i r.1,.i r.2.1,.i r.2.2.1,BK r.2.2.2.1,.i r.2.2.2.2.1,.i r.2.2.2.2.2]) (Fb N)
theorem AaL(N:Nat):Au Tryz.prog 57 (s88 N):=by
 refine fk (wX PD (Aa (jD N)<|Ae)) ?_;intro ah co cn ck cj ci x2051 r h _ hS F;dsimp only[PD,Ad];unfold Fb at h;obtain⟨aa,jj,nh,ab,ji,ng,ae,jh,lj,kl,j6,af,jg,jr,nf,nc,aw,jf,h⟩:=un h;replace F:=fc jf (fc jg (fc jh (fc ji (fc jj F))));refine An hS F h (λ_ h=>?_) (λ_ h=>?_)
 ·obtain⟨nb,my,e9,je,h⟩:=un h;replace F:=fc je F;refine An hS F h (λ_ h=>?_) (λ_ h=>?_)
  ·obtain⟨mt,av,jd,mr,mq,bu,jc,mo,e8,jb,mj,br,ja,mh,mg,ez,i9,h⟩:=un h;exact Ah hS (fc i9 (fc ja (fc jb (fc jc (fc jd F))))) h
  ·obtain⟨eu,i8,mf,bq,i7,me,md,ep,i6,h⟩:=un h;exact Ah hS (fc i6 (fc i7 (fc i8 F))) h
 ·refine An hS F h (λ_ h=>?_) (λ_ h=>?_)
  ·obtain⟨mc,mb,el,i5,h⟩:=un h;replace F:=fc i5 F;refine An hS F h (λ_ h=>?_) (λ_ h=>?_)
   ·obtain⟨ma,au,i4,l7,l6,bp,iz,lz,ej,iy,lr,bo,iw,lq,lm,eh,iv,h⟩:=un h;exact Ah hS (fc iv (fc iw (fc iy (fc iz (fc i4 F))))) h
   ·obtain⟨ee,iq,li,bn,ip,lh,lg,d9,im,h⟩:=un h;exact Ah hS (fc im (fc ip (fc iq F))) h
  ·refine An hS F h (λ_ h=>?_) (λ_ h=>?_)
   ·obtain⟨d8,ij,h⟩:=un h;replace F:=fc ij F;refine An hS F h (λ_ h=>?_) (λ_ h=>?_)
    ·obtain⟨lf,aq,ii,kz,kw,bm,ig,kv,d7,ic,kr,bl,ib,kq,km,d6,g9,h⟩:=un h;exact Ah hS (fc g9 (fc ib (fc ic (fc ig (fc ii F))))) h
    ·obtain⟨d5,g8,kj,bj,gz,ki,kh,dz,gy,h⟩:=un h;exact Ah hS (fc gy (fc gz (fc g8 F))) h
   ·refine An hS F h (λ_ h=>?_) (λ_ h=>?_)
    ·obtain⟨dy,gx,h⟩:=un h;replace F:=fc gx F;refine An hS F h (λ_ h=>?_) (λ_ h=>?_)
     ·obtain⟨kg,an,gw,kf,ke,bi,gu,ka,dx,gt,j9,bh,gr,j8,j7,dw,gm,h⟩:=un h;exact Ah hS (fc gm (fc gr (fc gt (fc gu (fc gw F))))) h
     ·obtain⟨du,gj,j5,bg,gi,j4,jz,dt,gh,h⟩:=un h;exact Ah hS (fc gh (fc gi (fc gj F))) h
    ·obtain⟨dq,gg,h⟩:=un h;replace F:=fc gg F;refine An hS F h (λ_ h=>?_) (λ_ h=>?_)
     ·obtain⟨jy,am,ge,jx,jw,bf,gc,jv,dm,fy,ju,be,fx,jt,js,dl,fr,h⟩:=un h;exact Ah hS (fc fr (fc fx (fc fy (fc gc (fc ge F))))) h
     ·obtain⟨dh,fq,jq,bb,fp,jp,jo,dg,fo,h⟩:=un h;exact Ah hS (fc fo (fc fp (fc fq F))) h
def Dn(N:Nat)(x2314:List (Int×Int×Int×Int×Int×Int)):Nat->Int->(List (Int×Int×Int×(List (Int×Int))×Int×Int))->Option ((List (Int×Int×Int×(List (Int×Int))×Int×Int)))|0,_,_=>none|n+1,ai,ak=>bif (decide (ai<(x2314.length:Int)))&&(decide (ai<12))then(gd (Ai (3*ai))<|(Bz x2314 ai).bind λ(ce,b9,b7,bz,bw,ay)=>(Af N ay 3).bind λba=>gd (Ai ((3*ai)+ba))<|(Fb N ((3*ai)+ba) ce b9 b7 bz bw ay).bind λ(de,db,da,cy,cu,cr)=>(FJ N ak de db da cy cu cr).bind λ(az,cq)=>bif decide (cq=0)then(gd (Ai (ai+1))<|Dn N x2314 n (ai+1) az)else(gd (Ai (ai+1))<|Dn N x2314 n (ai+1) ak))else(some ak)
def EJ(N:Nat)(x2314:List (Int×Int×Int×Int×Int×Int)):Option (List (Int×Int×Int×(List (Int×Int))×Int×Int)):=(Dn N x2314 N 0 []).bind λfg=>some fg
@[go_sem] def s50(N:Nat):Spec:=p0<|(qS JT<|qE<|qF [] λr=>.agg [Ao r]) (EJ N)
theorem AaM(N:Nat):Au Tryz.prog 28 (s50 N):=by
 refine fk (wX Sp (Aa (jD N)<|Aa (AaL N)<|Aa (AaK N)<|Ae)) ?_;intro x2314 r h _ hS F;dsimp only[Sp,Ad,JT];unfold EJ at h;refine go hS F ?_;refine V6 (100,2) 0 6 [.i 0,.i 0,.i 0,.sl 0 true [] [],.i 0,.i 0] (ev F) ?_;obtain⟨jl,mz,h⟩:=un h;refine go hS F ?_;refine BU jl (λz:(List (Int×Int×Int×(List (Int×Int))×Int×Int))×Nat=>⟨[(2,.box (0,1) 0),(3,.box (100,2) 0)],[(.c (100,2) 0,Ao z.1),(.c (0,1) 0,.sl 0 true [] [])],z.2⟩) (λz=>(z.1:(List (Int×Int×Int×(List (Int×Int))×Int×Int)))) (.x 0) ?_ ?_
 ·refine BO (λn (y:Int×(List (Int×Int×Int×(List (Int×Int))×Int×Int))×Nat)=>Dn N x2314 n y.1 y.2.1) (λy=>⟨[(0,HX x2314),(2,.box (0,1) 0),(3,.box (100,2) 0),(4,.i y.1)],[(.c (100,2) 0,Ao y.2.1),(.c (0,1) 0,.sl 0 true [] [])],y.2.2⟩) (0,[],3) mz (CB F) ?_;rintro n ⟨ai,ak,bv⟩ aj;simp only[Dn]at aj;refine An hS F aj (λ_ aj=>?_) (λ_ aj=>?_)
  ·obtain⟨lj,⟨ce,b9,b7,bz,bw,ay⟩,jk,aj⟩:=un aj;obtain⟨jm,F⟩:=CH HW jk F;obtain⟨ba,fm,kl,⟨de,db,da,cy,cu,cr⟩,fj,aj⟩:=un aj;obtain⟨⟨az,cq⟩,fh,aj⟩:=un aj;replace F:=fc fh (fc fj (fc fm F));refine An hS F aj (λ_ aj=>?_) (λ_ aj=>?_)
   ·obtain⟨j6,aj⟩:=un aj;exact CS hS F (n,ai+1,az,bv+1+1+1+1+1) aj
   ·obtain⟨jr,aj⟩:=un aj;exact CS hS F (n,ai+1,ak,bv+1+1+1+1) aj
  ·exact Cu hS F (ak,bv+1) aj
 ·rintro⟨fg,jn⟩ rfl;exact Ah hS F h
end
def Hs(p:List Un)(t:Int):Bool:=p.any λv=>decide (t<v.1)
def I0(p:List Un)(u:Un):List Un:=(p.filter λv=>decide (v.1<=u.1))++((bif Hs p u.1 then[u]else[])++p.filter λv=>decide (u.1<v.1))
theorem XR{p:List Un}{t:Int}(h:Hs p t=false):(p.filter λv=>decide (t<v.1))=[]:=by rw[A59];grind[Hs]
theorem WM{p:List Un}{u:Un}:(I0 p u).length<=2*p.length+1:=by have h1:=List.length_filter_le (λv=>decide (v.1<=u.1)) p;have h2:=List.length_filter_le (λv=>decide (u.1<v.1)) p;unfold I0;cases Hs p u.1<;>simp<;>omega
theorem oJ{f:List Un}(h:FV f){i:Nat}(hi:i<f.length):∀v∈f.take i,v.1<(A6 f i).1:=by grind[List.mem_take_iff_getElem,FB,Hr,h.srt]
theorem KC{f:List Un}{i:Nat}(hi:i<f.length):f.take (i+1)=f.take i++[A6 f i]:=by rw[List.take_succ_eq_append_getElem hi,FB hi]
section
variable{N:Nat}(hN:1001<=N)
include hN
omit hN in
theorem SG{f:List Un}(hf:FV f){u:Un}(hu:u.2.2.2.1.length<=1000):∀n i,i<=f.length->f.length<n+i->Eg N f u.1 u.2.1 u.2.2.1 u.2.2.2.1 u.2.2.2.2.1 u.2.2.2.2.2 n (Hs (f.take i) u.1) i (I0 (f.take i) u)=some (Hs f u.1,I0 f u)
 |0,i,h1,h2=>by omega
 |n+1,i,h1,h2=>by
  have hl:=hf.len;rw[Eg];by_cases e:i=f.length
  ·subst e;rw[K3,cF,A56]
  ·have hi:i<f.length:=by omega
   have v8:=(hf.val _ (FY hi)).l.l8;have hlen:=WM (p:=f.take i) (u:=u);have ht:(f.take i).length=i:=by rw[A23];omega
   have tl:=oJ hf hi;rw[Fe hi,cT,BY (λ_=>by omega),A19,show f.getD i (0,0,0,[],0,0)=A6 f i from rfl];have key:(bif (!Hs (f.take i) u.1)&&decide (u.1<(A6 f i).1)then
     (CE N u.1 u.2.1 u.2.2.1 u.2.2.2.1 u.2.2.2.2.1 u.2.2.2.2.2).bind λ(r106,r107,r108,r109,r110,r111)=>gd (((I0 (f.take i) u).length+1)*64<=140737488355328)<|some (true,I0 (f.take i) u++[(r106,r107,r108,r109,r110,r111)])
    else some (Hs (f.take i) u.1,I0 (f.take i) u))=some (Hs (f.take (i+1)) u.1,bif (!Hs (f.take i) u.1)&&decide (u.1<(A6 f i).1)then I0 (f.take i) u++[u]else I0 (f.take i) u):=by
    have g:Hs (f.take (i+1)) u.1=(Hs (f.take i) u.1||decide (u.1<(A6 f i).1)):=by rw[KC hi];unfold Hs;rw[List.any_append,List.any_cons,List.any_nil,Bool.or_false]
    rw[g];cases h3:Hs (f.take i) u.1<;>cases h4:decide (u.1<(A6 f i).1)
    ·rfl
    ·rw[A47,A53,cT,cT,OL N hu,bS];grind[Ab]
    ·rfl
    ·rfl
   rw[key,bS];simp only;rw[GE hi,bS];simp only;rw[OL N (by omega),bS];have e2:(bif (!Hs (f.take i) u.1)&&decide (u.1<(A6 f i).1)then I0 (f.take i) u++[u]else I0 (f.take i) u)++[A6 f i]=I0 (f.take (i+1)) u:=by
    have g:Hs (f.take (i+1)) u.1=(Hs (f.take i) u.1||decide (u.1<(A6 f i).1)):=by rw[KC hi];unfold Hs;rw[List.any_append,List.any_cons,List.any_nil,Bool.or_false]
    by_cases c:u.1<(A6 f i).1
    ·rw[q9 c,A53];unfold I0;rw[g,q9 c,Bool.or_true,cT,KC hi,A34,A34,List.filter_cons,t7 (by rw[s7];omega),List.filter_nil,A05,List.filter_cons,t8 (by rw[s7];omega),List.filter_nil];cases h3:Hs (f.take i) u.1 with
     |false=>rw[A47,cT,cF,XR h3,A05,A05,A06];rfl
     |true=>rw[Bool.not_true,cF,cT,A06,A06]
    ·have h3:Hs (f.take i) u.1=false:=by unfold Hs;grind
     unfold I0;rw[g,s6 c,Bool.or_false,h3,cF,KC hi,A34,A34,List.filter_cons,t8 (by rw[s7];omega),List.filter_nil,List.filter_cons,t7 (by rw[s7];omega),List.filter_nil,A05,XR h3];simp
   rw[Ab (by cases((!Hs (f.take i) u.1)&&decide (u.1<(A6 f i).1))<;>simp<;>omega),Ab (by omega)];have e3:∀l:List Un,l++[((A6 f i).1,(A6 f i).2.1,(A6 f i).2.2.1,(A6 f i).2.2.2.1,(A6 f i).2.2.2.2.1,(A6 f i).2.2.2.2.2)]=l++[A6 f i]:=λl=>rfl
   rw[e3,e2,<-ns];exact SG hf hu n (i+1) (by omega) (by omega)
theorem AcR(f:List Un){u:Un}(hu:u.2.2.2.1.length<=1000):FJ N f u.1 u.2.1 u.2.2.1 u.2.2.2.1 u.2.2.2.2.1 u.2.2.2.2.2=some (if Fit f u then(C6 f u,0)else([],120)):=by
 unfold FJ;rw[jV hN,bS];by_cases hf:FV f
 ·have hl:=hf.len;have L:=SG (N:=N) hf hu N 0 (by omega) (by omega);have glen:=WM (p:=f) (u:=u);rw[q9 hf,BL _ (by rfl)];rw[List.take_zero,y9]at L;rw[show Hs [] u.1=false from rfl,show I0 [] u=[]from rfl]at L;rw[L,bS];simp only;have key:(bif !Hs f u.1 then(CE N u.1 u.2.1 u.2.2.1 u.2.2.2.1 u.2.2.2.2.1 u.2.2.2.2.2).bind λ(r148,r149,r150,r151,r152,r153)=>gd (((I0 f u).length+1)*64<=140737488355328)<|some (I0 f u++[(r148,r149,r150,r151,r152,r153)])else some (I0 f u))=some (Mh f u):=by
   cases h:Hs f u.1 with
   |false=>rw[A47,cT,OL N hu,bS];simp;rw[Ab (by omega)];unfold I0 Mh;rw[h,cF,XR h,A05,A05]
   |true=>simp_all[I0,Mh]
  rw[key,bS,jV hN,bS];by_cases c:Fit f u
  ·rw[q9 ((WL hf).2 c),BL _ (by rfl),t8 c,RQ c.hi]
  simp_all[WL]
 ·rw[s6 hf,Ca _ (by rfl),t7 λh=>hf h.hf]
end
theorem Hh{N:Nat}{c n:Int}(hc:Ai c)(hn:0<n):Af N c n=some (pk c n):=by
 unfold Af pk;by_cases h:c<0
 ·rw[q9 h,cT,t8 h,Ab (by omega),Ab (by omega),Ab (by omega)]
 ·rw[s6 h,cF,t7 h,Ab (by omega)]
def wW(l:List Pt):Bool:=((decide (3<=l.length)&&decide (l.length<=8))&&l.all λp=>decide (On p))&&(List.range l.length).all λi=>(List.range l.length).all λk=>decide (k=i)||(decide (k=(i+1)%l.length)||decide (0<Aw (pa l i) (pa l ((i+1)%l.length)) (pa l k)))
theorem wY{l:List Pt}(h:wW l=true):VP l:=by unfold wW at h;simp only[y8,s7,List.all_eq_true,List.mem_range]at h;obtain⟨⟨⟨h1,h2⟩,h3⟩,h4⟩:=h;refine⟨h1,h2,h3,λi k hi hk n1 n2=>?_⟩;grind
def shp(t:Nat)(a b c d:Int):List Pt:=match t with|0=>[(a,b),(c,b),(c-1,d),(a+1,d)]|1=>[(a+1,b),(c-1,b),(c,d),(a,d)]|2=>[(a,b),(c,b),(c,d)]|3=>[(a,b),(c,d),(a,d)]|_=>[(a,b),(c,b),(c,d),(a,d)]
theorem oK:∀a,a<9->∀b,b<6->∀c,c<4->∀d,d<2->∀t,t<5->wW (shp t (4*((a:Nat):Int)) (4*((b:Nat):Int)) (min (4*(a:Int)+4*(1+((c:Nat):Int))) 40) (4*(b:Int)+4*(1+((d:Nat):Int))))=true:=by decide+kernel
theorem wZ{a b c d:Int}(ha:0<=a/\a<9)(hb:0<=b/\b<6)(hc:0<=c/\c<4)(hd:0<=d/\d<2){t:Nat}(ht:t<5):VP (shp t (4*a) (4*b) (min (4*a+4*(1+c)) 40) (4*b+4*(1+d))):=by have:=oK a.toNat (by omega) b.toNat (by omega) c.toNat (by omega) d.toNat (by omega) t ht;rw[A39 ha.1,A39 hb.1,A39 hc.1,A39 hd.1]at this;exact wY this
theorem Tf{n:Int}(h:Ai n){d:Int}(h1:1<d)(h2:d<=1000):Ai (n.tdiv d):=eJ h h1 h2
def jW(N:Nat)(id x:Int)(l:List Pt):Option Un:=(Af N x 4).bind λr401=>bif decide (r401=3)then(gd (Ai (x.tdiv 4))<|(Af N (x.tdiv 4) 4).bind λr413=>gd (Ai (r413+1))<|gd (Ai (x.tdiv 16))<|(Af N (x.tdiv 16) 4).bind λr415=>gd (Ai ((r413+1)+r415))<|(Af N id 100).bind λr417=>gd (Ai (x.tdiv 64))<|(Af N (x.tdiv 64) 8).bind λr419=>gd (Ai (1+r419))<|gd (Ai (x.tdiv 512))<|(Af N (x.tdiv 512) 8).bind λr421=>some (r417,1+r419,r421,l,r413,(r413+1)+r415))else((Af N id 100).bind λr423=>gd (Ai (x.tdiv 64))<|(Af N (x.tdiv 64) 8).bind λr425=>gd (Ai (1+r425))<|gd (Ai (x.tdiv 512))<|(Af N (x.tdiv 512) 8).bind λr427=>some (r423,1+r425,r427,l,0,4))
theorem MP{N:Nat}{id x:Int}(hi:Ai id)(hx:Ai x){l:List Pt}(hl:VP l):∃u,jW N id x l=some u/\UV u/\u.1=pk id 100:=by
 have k2:=@GO (x.tdiv 4) 4 (by omega);have k3:=@GO (x.tdiv 16) 4 (by omega);have k4:=@GO id 100 (by omega);have k5:=@GO (x.tdiv 64) 8 (by omega);have k6:=@GO (x.tdiv 512) 8 (by omega);have d1:=Tf hx (d:=4) (by omega) (by omega);have d2:=Tf hx (d:=16) (by omega) (by omega);have d3:=Tf hx (d:=64) (by omega) (by omega);have d4:=Tf hx (d:=512) (by omega) (by omega);unfold jW;rw[Hh hx (by omega),bS];by_cases c:pk x 4=3
 ·rw[q9 c,cT,Ab d1,Hh d1 (by omega),bS,Ab (by omega),Ab d2,Hh d2 (by omega),bS,Ab (by omega),Hh hi (by omega),bS,Ab d3,Hh d3 (by omega),bS,Ab (by omega),Ab d4,Hh d4 (by omega),bS];exact⟨_,rfl,⟨by omega,by grind,by grind,by grind,hl⟩,rfl⟩
 ·rw[s6 c,cF,Hh hi (by omega),bS,Ab d3,Hh d3 (by omega),bS,Ab (by omega),Ab d4,Hh d4 (by omega),bS];exact⟨_,rfl,⟨by omega,by grind,by grind,by grind,hl⟩,rfl⟩
theorem Z0{N:Nat}{id a b c d e f:Int}(hi:Ai id)(h1:Ai a)(h2:Ai b)(h3:Ai c)(h4:Ai d)(h5:Ai e)(h6:Ai f):∃u:Un,Fb N id a b c d e f=some u/\UV u/\u.1=pk id 100:=by
 have k1:=@GO a 9 (by omega);have k2:=@GO b 6 (by omega);have k3:=@GO c 4 (by omega);have k4:=@GO d 2 (by omega);have Γ:=λt (ht:t<5)=>wZ k1 k2 k3 k4 ht
 unfold Fb;rw[Hh h1 (by omega),bS,Ab (by unfold Ai;omega),Hh h2 (by omega),bS,Ab (by unfold Ai;omega),Hh h3 (by omega),bS,Ab (by unfold Ai;omega),Ab (by unfold Ai;omega),Ab (by unfold Ai;omega),Hh h4 (by omega),bS,Ab (by omega),Ab (by omega),Ab (by omega),Hh h5 (by omega),bS];by_cases c4:pk e 8=4
 ·rw[q9 c4,cT,Ab (by omega),Ab (by omega)];exact MP hi h6 (Γ 0 (by omega))
 rw[s6 c4,cF];by_cases c5:pk e 8=5
 ·rw[q9 c5,cT,Ab (by omega),Ab (by omega)];exact MP hi h6 (Γ 1 (by omega))
 rw[s6 c5,cF];by_cases c6:pk e 8=6
 ·rw[q9 c6,cT];exact MP hi h6 (Γ 2 (by omega))
 rw[s6 c6,cF];by_cases c7:pk e 8=7
 ·rw[q9 c7,cT];exact MP hi h6 (Γ 3 (by omega))
 ·rw[s6 c7,cF];exact MP hi h6 (Γ 4 (by omega))
def I6(x:List (Int×Int×Int×Int×Int×Int)):Prop:=∀r∈x,Ai r.1/\Ai r.2.1/\Ai r.2.2.1/\Ai r.2.2.2.1/\Ai r.2.2.2.2.1/\Ai r.2.2.2.2.2
theorem xA:FV []:=⟨by simp,by simp,List.Pairwise.nil,List.Pairwise.nil⟩
theorem Hi{f:List Un}{u v:Un}:v∈C6 f u↔v∈f\/v=u:=by unfold C6 Ju K4;grind
theorem LQ{f:List Un}{u:Un}(h:Fit f u):(C6 f u).length=f.length+1:=by
 have e:(Ju f u.1++K4 f u.1).length=f.length:=by rw[h.hf.cut]
 grind[C6]
theorem fA{c n:Int}(h0:0<=c)(h:c<n):pk c n=c:=by unfold pk;rw[t7 (by omega),Int.tmod_eq_of_lt h0 h]
structure Frst(i:Nat)(f:List Un):Prop where
 fv:FV f
 len:f.length<=i
 ids:∀u∈f,u.1<3*i
theorem Frst.up{i:Nat}{f:List Un}(h:Frst i f){j:Nat}(hj:i<=j):Frst j f:=⟨h.fv,by have:=h.len;omega,λu hu=>by have:=h.ids u hu;omega⟩
theorem OM{N:Nat}(hN:1001<=N){x:List (Int×Int×Int×Int×Int×Int)}(hx:I6 x):∀n i f,i<=12->i<=x.length->12<n+i->Frst i f->∃g,Dn N x n (i:Nat) f=some g/\Frst (min x.length 12) g
 |0,i,f,h1,_,h2,_=>by omega
 |n+1,i,f,h1,h3,h2,hf=>by
  rw[Dn];by_cases c:i<x.length/\i<12
  ·have hr:=hx _ (List.getElem_mem c.1);have k:=@GO (x[i].2.2.2.2.2) 3 (by omega);rw[Fe c.1,A60,q9 (p:=(i:Int)<12) (by omega),cT,Ab (by unfold Ai;omega),Rz,t6 c.1,bS];generalize x[i]=r at hr k;obtain⟨a,b,c1,d,e,g⟩:=r;simp only at hr k⊢;obtain⟨u,hu,vu,iu⟩:=Z0 (N:=N) (id:=3*(i:Int)+pk g 3) (by omega) hr.1 hr.2.1 hr.2.2.1 hr.2.2.2.1 hr.2.2.2.2.1 hr.2.2.2.2.2;have iu:u.1<3*((i+1:Nat):Int):=by rw[iu,fA (by omega) (by omega)];omega
   have l8:=vu.l.l8;have ha:=AcR hN f (u:=u) (by omega);obtain⟨u1,u2,u3,u4,u5,u6⟩:=u;rw[Hh hr.2.2.2.2.2 (by omega),bS,Ab (by omega),hu,bS];rw[ha,bS];by_cases ft:Fit f (u1,u2,u3,u4,u5,u6)
   ·rw[t8 ft];rw[Ca _ (by rfl),Ab (by omega),<-ns];refine OM hN hx n (i+1) _ (by omega) (by omega) (by omega) ⟨ft.fv,by rw[LQ ft];have:=hf.len;omega,λv hv=>?_⟩;rcases Hi.1 hv with q|q
    ·exact(hf.up (Nat.le_succ i)).ids v q
    ·rw[q];exact iu
   ·rw[t7 ft];rw[BL _ (by rfl),Ab (by omega),<-ns];exact OM hN hx n (i+1) _ (by omega) (by omega) (by omega) (hf.up (Nat.le_succ i))
  grind
theorem Z1{N:Nat}(hN:1001<=N){x:List (Int×Int×Int×Int×Int×Int)}(hx:I6 x):∃f,EJ N x=some f/\Frst (min x.length 12) f:=by obtain⟨f,h,v⟩:=OM hN hx N 0 [] (by omega) (by omega) (by omega) ⟨xA,by simp,by simp⟩;unfold EJ;rw[y9]at h;rw[h,bS];exact⟨f,rfl,v⟩
theorem Z2{N:Nat}(hN:1001<=N){x:List (Int×Int×Int×Int×Int×Int)}(hx:I6 x):∃f,EJ N x=some f/\FV f:=by obtain⟨f,h,v⟩:=Z1 hN hx;exact⟨f,h,v.fv⟩
noncomputable instance(f g:List Un):Decidable (f=g):=Classical.propDecidable _
theorem FV.shp{f:List Un}(h:FV f):∀u∈f,u.2.2.2.1.length<1000:=λu hu=>by have:=(h.val u hu).l.l8;omega
