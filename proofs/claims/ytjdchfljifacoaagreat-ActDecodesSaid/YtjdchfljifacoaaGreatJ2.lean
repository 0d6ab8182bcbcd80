import Derived.Test.YtjdchfljifacoaaGreatY2
set_option linter.all false
set_option maxRecDepth 100000
set_option maxHeartbeats 8000000
noncomputable section
namespace Go.Proofs.YtjdchfljifacoaaGreat.Am
structure CutAt(l:List Pt)(i k m m':Nat):Prop where
 h:VP l
 hm:2<=m
 hm':2<=m'
 hs:m+m'=l.length
 hk:qa l (i+m)=qa l k
 hi:qa l (k+m')=qa l i
 hkt:∀t,qa l (i+(m+t))=qa l (k+t)
section
abbrev F8:=List Un×List Mk
def I2(id:Int)(m:Mk):Bool:=decide (m.2.1≠id)
def TF(id:Int)(b:Bool)(m:Mk):Mk:=if m.1=id then(m.1,m.2.1,m.2.2.1,m.2.2.2.1,b)else m
def Hx(ms:List Mk)(m:Mk):List Mk:=(ms.filter λx=>decide (x.1<m.1))++m::ms.filter λx=>decide (m.1<=x.1)
def Ia(u:Un)(l:List Pt):Un:=(u.1,u.2.1,u.2.2.1,l,u.2.2.2.2.1,u.2.2.2.2.2)
def Ps(u:Un)(j:Int):Un:=(j,u.2.1,u.2.2.1,u.2.2.2.1,u.2.2.2.2.1,u.2.2.2.2.2)
def Ka(l:List Pt)(i k:Int):List Pt×List Pt×Int:=if i<l.length/\k<l.length then Tq l i.toNat k.toNat else([],[],70)
def S5(d:Pt)(u:Un):Un:=(u.1,u.2.1,u.2.2.1,u.2.2.2.1.map (mv d),u.2.2.2.2.1,u.2.2.2.2.2)
def Xk(d:Pt)(u:Un):Prop:=∀p∈u.2.2.2.1,On (mv d p)
noncomputable instance(d:Pt)(u:Un):Decidable (Xk d u):=Classical.propDecidable _
open Classical in
def It(s:F8)(a:Ac):Option F8:=
 if a.1=1 then(if Fit s.1 a.2.1 then some (Gm s.1 a.2.1,s.2)else none)else
 if a.1=2 then(if∃u∈s.1,u.1=a.2.2.1 then some (EZ s.1 a.2.2.1,s.2.filter (I2 a.2.2.1))else none)else
 if a.1=3 then(match s.1.find? (λu=>decide (u.1=a.2.2.1))with
  |none=>none
  |some u=>
   let c:=Ka u.2.2.2.1 a.2.2.2.1 a.2.2.2.2.1
   let v:=Ia u c.1
   let w:=Ps (Ia u c.2.1) a.2.1.1
   if c.2.2=0/\Fit (EZ s.1 a.2.2.1) v/\Fit (Gm (EZ s.1 a.2.2.1) v) w then some (Gm (Gm (EZ s.1 a.2.2.1) v) w,s.2.filter (I2 a.2.2.1))else none)else
 if a.1=4 then(match s.1.find? (λu=>decide (u.1=a.2.2.1))with
  |none=>none
  |some u=>if Xk (a.2.2.2.1,a.2.2.2.2.1) u/\Fit (EZ s.1 a.2.2.1) (S5 (a.2.2.2.1,a.2.2.2.2.1) u)then some (Gm (EZ s.1 a.2.2.1) (S5 (a.2.2.2.1,a.2.2.2.2.1) u),s.2)else none)else
 if a.1=5 then(if∃m∈s.2,m.1=a.2.2.2.2.2.1 then none else some (s.1,Hx s.2 a.2.2.2.2.2))else
 if∃m∈s.2,m.1=a.2.2.1/\m.2.2.2.2≠decide (a.1=7)then some (s.1,s.2.map (TF a.2.2.1 (decide (a.1=7))))else none
open Classical in
theorem Abq(f:List Un)(ms:List Mk)(u:Un)(id i k:Int)(m:Mk):It (f,ms) (1,u,id,i,k,m)=if Fit f u then some (Gm f u,ms)else none:=by unfold It;exact dX rfl
open Classical in
theorem Abr(f:List Un)(ms:List Mk)(u:Un)(id i k:Int)(m:Mk):It (f,ms) (2,u,id,i,k,m)=if∃u∈f,u.1=id then some (EZ f id,ms.filter (I2 id))else none:=by unfold It;exact(dW (show¬((2:Int)=1) by decide)).trans (dX rfl)
open Classical in
theorem Abs(f:List Un)(ms:List Mk)(w:Un)(id i k:Int)(m:Mk):It (f,ms) (3,w,id,i,k,m)=(match f.find? (λu=>decide (u.1=id))with
  |none=>none
  |some u=>if(Ka u.2.2.2.1 i k).2.2=0/\Fit (EZ f id) (Ia u (Ka u.2.2.2.1 i k).1)/\Fit (Gm (EZ f id) (Ia u (Ka u.2.2.2.1 i k).1)) (Ps (Ia u (Ka u.2.2.2.1 i k).2.1) w.1)then some (Gm (Gm (EZ f id) (Ia u (Ka u.2.2.2.1 i k).1)) (Ps (Ia u (Ka u.2.2.2.1 i k).2.1) w.1),ms.filter (I2 id))else none):=by
 unfold It;exact(dW (show¬((3:Int)=1) by decide)).trans ((dW (show¬((3:Int)=2) by decide)).trans (dX rfl))
open Classical in
theorem Abt(f:List Un)(ms:List Mk)(w:Un)(id i k:Int)(m:Mk):It (f,ms) (4,w,id,i,k,m)=(match f.find? (λu=>decide (u.1=id))with
  |none=>none
  |some u=>if Xk (i,k) u/\Fit (EZ f id) (S5 (i,k) u)then some (Gm (EZ f id) (S5 (i,k) u),ms)else none):=by
 unfold It;exact(dW (show¬((4:Int)=1) by decide)).trans ((dW (show¬((4:Int)=2) by decide)).trans ((dW (show¬((4:Int)=3) by decide)).trans (dX rfl)))
open Classical in
theorem Abu(f:List Un)(ms:List Mk)(w:Un)(id i k:Int)(m:Mk):It (f,ms) (5,w,id,i,k,m)=if∃x∈ms,x.1=m.1 then none else some (f,Hx ms m):=by unfold It;exact(dW (show¬((5:Int)=1) by decide)).trans ((dW (show¬((5:Int)=2) by decide)).trans ((dW (show¬((5:Int)=3) by decide)).trans ((dW (show¬((5:Int)=4) by decide)).trans (dX rfl))))
open Classical in
theorem Abv(f:List Un)(ms:List Mk)(w:Un)(id i k:Int)(m:Mk):It (f,ms) (6,w,id,i,k,m)=if∃x∈ms,x.1=id/\x.2.2.2.2≠false then some (f,ms.map (TF id false))else none:=by unfold It;exact(dW (show¬((6:Int)=1) by decide)).trans ((dW (show¬((6:Int)=2) by decide)).trans ((dW (show¬((6:Int)=3) by decide)).trans ((dW (show¬((6:Int)=4) by decide)).trans (dW (show¬((6:Int)=5) by decide)))))
open Classical in
theorem Abw(f:List Un)(ms:List Mk)(w:Un)(id i k:Int)(m:Mk):It (f,ms) (7,w,id,i,k,m)=if∃x∈ms,x.1=id/\x.2.2.2.2≠true then some (f,ms.map (TF id true))else none:=by unfold It;exact(dW (show¬((7:Int)=1) by decide)).trans ((dW (show¬((7:Int)=2) by decide)).trans ((dW (show¬((7:Int)=3) by decide)).trans ((dW (show¬((7:Int)=4) by decide)).trans (dW (show¬((7:Int)=5) by decide)))))
def Ig(s:F8)(a:Ac):Option F8:=if SV s.1 s.2/\FA a then(match It s a with|some t=>if MV t.1 t.2 then some t else none|none=>none)else none
def IM(o:Option F8):F8×Int:=match o with|some t=>(t,0)|none=>(([],[]),170)
theorem LB{s:F8}{a:Ac}(h:SV s.1 s.2)(f:FA a):Ig s a=(match It s a with|some t=>if MV t.1 t.2 then some t else none|none=>none):=dX ⟨h,f⟩
theorem Uz(N:Nat){l:List Pt}(hl:l.length<=1000){i k:Nat}(hi:i<l.length)(hk:k<l.length):∀(n t:Nat),t<=Eb l.length i k->Eb l.length i k<n+t->ED N k l n (((i+t)%l.length:Nat):Int) (Dc l i t)=some (Dc l i (Eb l.length i k))
 |0,t,h1,h2=>by omega
 |n+1,t,h1,h2=>by
  rw[ED];have hs:=SO (i:=i) (k:=k) (show 0<l.length by omega);have ha:=Nx hi hk;by_cases e:t=Eb l.length i k
  ·subst e;rw[ha,A1 _ (by simp)]
  ·have hne:(i+t)%l.length≠k:=λq=>e (L4 (by omega) hs (by rw[q,ha]))
   have hm:(i+t)%l.length<l.length:=sF _ (by omega);rw[AU _ (aA (by omega)),Ae (by unfold Af;omega),Ae (by omega),Nw,F1 (sF _ (by omega)),bS];simp only;rw[Ae (by rw[By];omega)];have e2:[((pa l (((i+t)%l.length+1)%l.length)).1,(pa l (((i+t)%l.length+1)%l.length)).2)]=[qa l (i+t+1)]:=by unfold qa;rw[CY]
   rw[e2,jZ,CY];exact Uz N hl hi hk n (t+1) (by omega) (by omega)
theorem YY{N:Nat}(hN:100<=N){l:List Pt}(hl:l.length<=50){i k:Nat}(hi:i<l.length)(hk:k<l.length):Fx N l i k=some (Dc l i (Eb l.length i k)):=by
 unfold Fx;have hs:=SO (i:=i) (k:=k) (show 0<l.length by omega);have:=Uz N (by omega) hi hk N 0 (by omega) (by omega);rw[xS,qI hi]at this;have e:Dc l i 0=[((pa l i).1,(pa l i).2)]:=by unfold Dc;simp[GL hi]
 rw[e]at this;rw[F1 hi,bS];simp only;rw[this,bS]
theorem uL{N:Nat}(hN:100<=N){l:List Pt}(h:VP l){i k:Nat}(hi:i<l.length)(hk:k<l.length):EX N l i k=some (Tq l i k):=by
 unfold EX Tq;have l8:=h.l8;rw[F7 hN,Li.2 h,bS,A1 _ (by simp;omega),YY hN (by omega) hi hk,bS,YY hN (by omega) hk hi,bS,By,By];by_cases hc:Eb l.length i k<2\/Eb l.length k i<2
 ·rw[dX hc,AU _ (by simp;omega)]
 ·rw[dW hc,A1 _ (by rw[tD];simp;omega)]
open Classical in
theorem qE{N:Nat}(hN:100<=N){u:Un}(h:UV u){d:Pt}(hd:Qg d):FR N u.1 u.2.1 u.2.2.1 u.2.2.2.1 u.2.2.2.2.1 u.2.2.2.2.2 d.1 d.2=some (if Xk d u then(S5 d u,0)else(PE,80)):=by
 unfold FR;rw[YJ hN h.l hd,mT hN h];by_cases ho:Xk d u
 ·have ho':∀p∈u.2.2.2.1,On (mv d p):=ho;rw[dX ho,dX ho',bS];simp only;rw[BR (λ_=>fL),A1 _ (by rfl)];rfl
 ·have ho':¬∀p∈u.2.2.2.1,On (mv d p):=ho;rw[dW ho,dW ho',bS];simp only;rw[BR (λ_=>fL),AU _ (by rfl)];rfl
theorem FV.lens{f:List Un}(h:FV f):∀u∈f,u.2.2.2.1.length<=8:=λu hu=>(h.val u hu).l.l8
section
variable{N:Nat}(hN:1001<=N)
include hN
omit hN in
theorem Vi{ms:List Mk}{i:Nat}(hi:i<ms.length):ms.take (i+1)=ms.take i++[Bi ms i]:=by rw[FJ hi,List.take_append_getElem]
variable(h9:N<=100000)
include h9
variable(a b c p q id i k m1 m2 m3 m4:Int)(l:List Pt)(o:Bool)
omit hN h9 in
theorem RW(ms:List Mk)(p:Mk->Bool):(ms.filter p).length<=ms.length:=List.length_filter_le _ _
omit hN h9 in
theorem fQ{l:List Pt}(h:VP l){i k:Int}(hi:0<=i)(hk:0<=k)(hN:100<=N):EX N l i k=some (Ka l i k):=by
 unfold Ka;by_cases c:i<l.length/\k<l.length
 ·rw[dX c];have:=uL hN h (i:=i.toNat) (k:=k.toNat) (by omega) (by omega);rw[w5 hi,w5 hk]at this;exact this
 ·rw[dW c];unfold EX;rw[F7 hN,Li.2 h,bS,AU _ (by simp;omega)]
omit hN h9 in
theorem OJ{f:List Un}(h:FV f)(t:Int):(f.find? (λu=>decide (u.1=t))=none/\Df f t=(PE,false)/\¬∃u∈f,u.1=t)\/∃u∈f,u.1=t/\f.find? (λu=>decide (u.1=t))=some u/\Df f t=(u,true):=by
 unfold Df;rw[dX h];by_cases c:∃u∈f,u.1=t
 ·obtain⟨u,hu,e⟩:=c;obtain⟨k,hk,rfl⟩:=Lm hu;right;refine⟨_,hu,e,?_⟩;rw[<-e,OE h hk];exact⟨rfl,rfl⟩
 ·left;rw[OF c];exact⟨rfl,rfl,c⟩
omit hN h9 in
theorem TH{f:List Un}{ms:List Mk}(h:MV f ms){k:Nat}(hk:k<ms.length)(b:Bool):ms.set k ((Bi ms k).1,(Bi ms k).2.1,(Bi ms k).2.2.1,(Bi ms k).2.2.2.1,b)=ms.map (TF (Bi ms k).1 b):=by
 refine List.ext_getElem (by rw[List.length_set,mW]) λj h1 h2=>?_
 rw[List.length_set]at h1;rw[List.getElem_map,List.getElem_set];unfold TF;rw[<-FJ h1];by_cases e:k=j
 ·subst e;rw[dX rfl,dX rfl]
 ·rw[dW e,dW];intro w;by_cases c:k<j
  ·have:=I1.1 h.srt k j c h1;omega
  ·have:=I1.1 h.srt j k (by omega) hk;omega
end
end
section
open Go
attribute [local irreducible] Ax BO BB Bj BC Bk AY BD BK Cq
end
open Go
attribute [local irreducible] Ax BO BB Bj BC Bk AY BD BK Cq
def Kf(x:Int×Int×Int×Int):List AV:=[.i x.1,.i x.2.1,.i x.2.2.1,.i x.2.2.2]
def SK:List AV->Int×Int×Int×Int|[.v (.int _ a1),.v (.int _ a2),.v (.int _ a3),.v (.int _ a4)]=>(a1,a2,a3,a4)|_=>(0,0,0,0)
theorem sU(x:Int×Int×Int×Int):SK (Kf x)=x:=by rfl
theorem sV(R:List (Int×Int×Int×Int)):(R.map Kf).map SK=R:=by
 induction R with
 |nil=>rfl
 |cons r R ih=>rw[eG,eG,ih,sU]
def Nt:Rw (Int×Int×Int×Int):=⟨4,Kf,SK,[.i 0,.i 0,.i 0,.i 0]⟩
def Ov(l:List (Int×Int×Int×Int)):AV:=.sl 4 false (l.map Kf) [.i 0,.i 0,.i 0,.i 0]
def Aae(l:List (Int×Int×Int×Int)):AV:=.sl 4 true (l.map Kf) [.i 0,.i 0,.i 0,.i 0]
attribute [go_sem] Nt Ov Aae Kf SK sV
def G4(N:Nat)(ce:List (Int×Int×Int×(List (Int×Int))×Int×Int))(s3911:List (Int×Int×Int×Int×Bool))(cz:Int)(d7:Int)(gj:Int)(gi:Int)(gh:List (Int×Int))(gg:Int)(gc:Int)(b7:Int)(dz:Int)(dw:Int)(i6:Int)(i5:Int)(iz:Int)(iy:Int)(iw:Bool):Option (((List (Int×Int×Int×(List (Int×Int))×Int×Int))×(List (Int×Int×Int×Int×Bool)))×Bool):=gd ((s3911.length)*40<=140737488355328)<|bif decide (cz=1)then((DK N ce d7 gj gi gh gg gc).bind λ(me,md)=>some ((me,s3911),decide (md=0)))else((Dm N ce b7).bind λ((ir,fo,fm,iq,fj,fh),mc)=>bif !mc then(some (([],s3911),false))else((FZ N ce b7).bind λ(fg,rn)=>bif decide (cz=2)then((DQ N s3911 b7).bind λmb=>some ((fg,mb),true))else(bif decide (cz=4)then((Gx N ir fo fm iq fj fh dz dw).bind λ((ma,l7,lz,lr,lq,lm),lj)=>bif decide (lj≠0)then(some (([],s3911),false))else((DK N fg ma l7 lz lr lq lm).bind λ(li,lh)=>some ((li,s3911),decide (lh=0))))else((EX N iq dz dw).bind λ(lg,lf,kz)=>bif decide (kz≠0)then(some (([],s3911),false))else((DQ N s3911 b7).bind λip=>(DK N fg ir fo fm lg fj fh).bind λ(kw,kv)=>bif decide (kv≠0)then(some (([],ip),false))else((DK N kw d7 fo fm lf fj fh).bind λ(kr,kq)=>some ((kr,ip),decide (kq=0))))))))
@[go_sem] def s63(N:Nat):Spec:=p0<|pG<|pD Ak λce=>pD AA λs3911=>pE<|pG<|pI λcz=>pI λd7=>pI λgj=>pI λgi=>pD Aq λgh=>pI λgg=>pI λgc=>pI λb7=>pI λdz=>pI λdw=>pI λi6=>pI λi5=>pI λiz=>pI λiy=>pB λiw=>pE<|pE<|pF (G4 N ce s3911 cz d7 gj gi gh gg gc b7 dz dw i6 i5 iz iy iw) (([],[]),false) λr=>.tup [.agg [Ap r.1.1,AS r.1.2],.b r.2]
theorem Acm(N:Nat):AG Tryz.prog 63 (s63 N):=by
 refine Ar x63.ok<|Aw<|AM λce=>AM λs3911=>Ad<|Aw<|Aa λcz=>Aa λd7=>Aa λgj=>Aa λgi=>AM λgh=>Aa λgg=>Aa λgc=>Aa λb7=>Aa λdz=>Aa λdw=>Aa λi6=>Aa λi5=>Aa λiz=>Aa λiy=>AX λiw=>Ad<|Ad<|As λr h=>wx x63 (Ab (nU N)<|Ab (ZC N)<|Ab (yY N)<|Ab (oA N)<|Ab (yQ N)<|Ab (xU N)<|Aj) λ_ hS F=>?_
 dsimp only[x63,Ah,Aq,AA,Ak];unfold G4 at h;obtain⟨sx,h⟩:=un h;refine An hS F h (λ_ h=>?_) (λ_ h=>?_)
 ·obtain⟨⟨me,md⟩,pg,h⟩:=un h;exact Ai hS (fc pg F) h
 ·obtain⟨⟨⟨ir,fo,fm,iq,fj,fh⟩,mc⟩,pd,h⟩:=un h;replace F:=fc pd F;refine An hS F h (λ_ h=>?_) (λ_ h=>?_)
  ·exact Ai hS F h
  ·obtain⟨⟨fg,rn⟩,o9,h⟩:=un h;replace F:=fc o9 F;refine An hS F h (λ_ h=>?_) (λ_ h=>?_)
   ·obtain⟨mb,o0,h⟩:=un h;exact Ai hS (fc o0 F) h
   ·refine An hS F h (λ_ h=>?_) (λ_ h=>?_)
    ·obtain⟨⟨⟨ma,l7,lz,lr,lq,lm⟩,lj⟩,oz,h⟩:=un h;replace F:=fc oz F;refine An hS F h (λ_ h=>?_) (λ_ h=>?_)
     ·exact Ai hS F h
     ·obtain⟨⟨li,lh⟩,oy,h⟩:=un h;exact Ai hS (fc oy F) h
    ·obtain⟨⟨lg,lf,kz⟩,ox,h⟩:=un h;replace F:=fc ox F;refine An hS F h (λ_ h=>?_) (λ_ h=>?_)
     ·exact Ai hS F h
     ·obtain⟨ip,ow,⟨kw,kv⟩,ov,h⟩:=un h;replace F:=fc ov (fc ow F);refine An hS F h (λ_ h=>?_) (λ_ h=>?_)
      ·exact Ai hS F h
      ·obtain⟨⟨kr,kq⟩,ot,h⟩:=un h;exact Ai hS (fc ot F) h
def D0(N:Nat)(ae:List (Int×Int×Int×(List (Int×Int))×Int×Int))(av:List (Int×Int×Int×Int×Bool))(an:Int)(cy:Int)(cu:Int)(cr:Int)(cq:List (Int×Int))(co:Int)(cn:Int)(bp:Int)(cm:Int)(ck:Int)(bz:Int)(bw:Int)(bv:Int)(bu:Int)(br:Bool):Option (((List (Int×Int×Int×(List (Int×Int))×Int×Int))×(List (Int×Int×Int×Int×Bool)))×Int):=(Bn N ae av).bind λim=>gd ((!(!im))=true->((Ca N an cy cu cr cq co cn bp cm ck bz bw bv bu br).isSome=true))<|bif (!im)||(!((Ca N an cy cu cr cq co cn bp cm ck bz bw bv bu br).getD false))then(some (([],[]),170))else(bif decide (an=5)then((E9 N av bz bw bv bu br).bind λ(e9,il)=>gd ((!(!il))=true->((Bn N ae e9).isSome=true))<|bif (!il)||(!((Bn N ae e9).getD false))then(some (([],[]),170))else((CH N ae e9).bind λ(km,kl)=>some ((km,kl),0)))else(bif decide (an=6)then((ET N av bp false).bind λ(e8,ij)=>gd ((!(!ij))=true->((Bn N ae e8).isSome=true))<|bif (!ij)||(!((Bn N ae e8).getD false))then(some (([],[]),170))else((CH N ae e8).bind λ(kj,ki)=>some ((kj,ki),0)))else(bif decide (an=7)then((ET N av bp true).bind λ(eu,ii)=>gd ((!(!ii))=true->((Bn N ae eu).isSome=true))<|bif (!ii)||(!((Bn N ae eu).getD false))then(some (([],[]),170))else((CH N ae eu).bind λ(kh,kg)=>some ((kh,kg),0)))else((G4 N ae av an cy cu cr cq co cn bp cm ck bz bw bv bu br).bind λ((ej,ei),ig)=>gd ((!(!ig))=true->((Bn N ej ei).isSome=true))<|bif (!ig)||(!((Bn N ej ei).getD false))then(some (([],[]),170))else((CH N ej ei).bind λ(kf,ke)=>some ((kf,ke),0))))))
@[go_sem] def s23(N:Nat):Spec:=p0<|pG<|pD Ak λae=>pD AA λav=>pE<|pG<|pI λan=>pI λcy=>pI λcu=>pI λcr=>pD Aq λcq=>pI λco=>pI λcn=>pI λbp=>pI λcm=>pI λck=>pI λbz=>pI λbw=>pI λbv=>pI λbu=>pB λbr=>pE<|pE<|pF (D0 N ae av an cy cu cr cq co cn bp cm ck bz bw bv bu br) (([],[]),0) λr=>.tup [.agg [Ap r.1.1,AS r.1.2],.i r.2]
theorem U1(N:Nat):AG Tryz.prog 23 (s23 N):=by
 refine Ar x23.ok<|Aw<|AM λae=>AM λav=>Ad<|Aw<|Aa λan=>Aa λcy=>Aa λcu=>Aa λcr=>AM λcq=>Aa λco=>Aa λcn=>Aa λbp=>Aa λcm=>Aa λck=>Aa λbz=>Aa λbw=>Aa λbv=>Aa λbu=>AX λbr=>Ad<|Ad<|As λr h=>wx x23 (Ab (nZ N)<|Ab (U2 N)<|Ab (oB N)<|Ab (Ach N)<|Ab (Acm N)<|Ab (oD N)<|Aj) λ_ hS F=>?_
 dsimp only[x23,Ah,Aq,AA,Ak];unfold D0 at h;obtain⟨im,om,sx,h⟩:=un h;replace F:=fc om F;refine An hS F h (λ_ h=>?_) (λ_ h=>?_)
 ·exact Ai hS F h
 ·refine An hS F h (λ_ h=>?_) (λ_ h=>?_)
  ·obtain⟨⟨e9,il⟩,oj,h⟩:=un h;obtain⟨sv,h⟩:=un h;replace F:=fc oj F;refine An hS F h (λ_ h=>?_) (λ_ h=>?_)
   ·exact Ai hS F h
   ·obtain⟨⟨km,kl⟩,oh,h⟩:=un h;exact Ai hS (fc oh F) h
  ·refine An hS F h (λ_ h=>?_) (λ_ h=>?_)
   ·obtain⟨⟨e8,ij⟩,og,h⟩:=un h;obtain⟨sf,h⟩:=un h;replace F:=fc og F;refine An hS F h (λ_ h=>?_) (λ_ h=>?_)
    ·exact Ai hS F h
    ·obtain⟨⟨kj,ki⟩,oe,h⟩:=un h;exact Ai hS (fc oe F) h
   ·refine An hS F h (λ_ h=>?_) (λ_ h=>?_)
    ·obtain⟨⟨eu,ii⟩,od,h⟩:=un h;obtain⟨se,h⟩:=un h;replace F:=fc od F;refine An hS F h (λ_ h=>?_) (λ_ h=>?_)
     ·exact Ai hS F h
     ·obtain⟨⟨kh,kg⟩,oc,h⟩:=un h;exact Ai hS (fc oc F) h
    ·obtain⟨⟨⟨ej,ei⟩,ig⟩,oa,h⟩:=un h;obtain⟨rz,h⟩:=un h;replace F:=fc oa F;refine An hS F h (λ_ h=>?_) (λ_ h=>?_)
     ·exact Ai hS F h
     ·obtain⟨⟨kf,ke⟩,n9,h⟩:=un h;exact Ai hS (fc n9 F) h
def G5(N:Nat)(l4120:List (Int×(Int×Int×Int×(List (Int×Int))×Int×Int)×Int×Int×Int×(Int×Int×Int×Int×Bool))):Nat->Int->(List (Int×Int×Int×(List (Int×Int))×Int×Int))->(List (Int×Int×Int×Int×Bool))->Option (Sum ((List (Int×Int×Int×(List (Int×Int))×Int×Int))×(List (Int×Int×Int×Int×Bool))) ((((List (Int×Int×Int×(List (Int×Int))×Int×Int))×(List (Int×Int×Int×Int×Bool)))×Int×Int)))|0,_,_,_=>none|n+1,bq,fq,fp=>bif decide (bq<(l4120.length:Int))then(bif decide (40<=bq)then(some (.inr (([],[]),bq,170)))else((A7 l4120 bq).bind λ(re,(rc,q9,q0,qz,qy,qx),qw,qu,qt,(qr,qq,qo,qn,qm))=>(D0 N fq fp re rc q9 q0 qz qy qx qw qu qt qr qq qo qn qm).bind λ((ri,rh),rg)=>bif decide (rg≠0)then(some (.inr (([],[]),bq,170)))else(gd (Af (bq+1))<|G5 N l4120 n (bq+1) ri rh)))else(some (.inl (fq,fp)))
def MH(N:Nat)(ee:List (Int×Int×Int×(List (Int×Int))×Int×Int))(d9:List (Int×Int×Int×Int×Bool))(l4120:List (Int×(Int×Int×Int×(List (Int×Int))×Int×Int)×Int×Int×Int×(Int×Int×Int×Int×Bool))):Option (((List (Int×Int×Int×(List (Int×Int))×Int×Int))×(List (Int×Int×Int×Int×Bool)))×Int×Int):=(Bn N ee d9).bind λrm=>bif !rm then(some (([],[]),0,170))else((CH N ee d9).bind λ(rk,rj)=>(G5 N l4120 N 0 rk rj).bind λry=>match ry with|.inl (i8,i7)=>(some ((i8,i7),(l4120.length:Int),0))|.inr rf=>(some rf))
@[go_sem] def Ww(N:Nat):Spec:=p0<|pG<|pD Ak λee=>pD AA λd9=>pE<|pD CR λl4120=>pE<|pF (MH N ee d9 l4120) (([],[]),0,0) λr=>.tup [.agg [Ap r.1.1,AS r.1.2],.i r.2.1,.i r.2.2]
def D1(N:Nat)(s4241:List (Int×Int×Int×(List (Int×Int))×Int×Int))(gr:List (Int×Int×Int×Int×Bool))(c4243:Int):Option Int:=gd ((!(decide ((s4241.length:Int)=0)))=true->((AN N c4243 16).isSome=true))<|bif (decide ((s4241.length:Int)=0))||(decide ((AN N c4243 16).getD 0=15))then((AN N c4243 100).bind λka=>some ka)else(gd (Af (c4243.tdiv 16))<|(AN N (c4243.tdiv 16) (s4241.length:Int)).bind λj9=>(A7 s4241 j9).bind λ(jm,ql,qk,qj,qh,qg)=>some jm)
@[go_sem] def s89(N:Nat):Spec:=p0<|pG<|pD Ak λs4241=>pD AA λgr=>pE<|pI λc4243=>pE<|pF (D1 N s4241 gr c4243) 0 λr=>.i r
theorem Acn(N:Nat):AG Tryz.prog 89 (s89 N):=by
 refine Ar x89.ok<|Aw<|AM λs4241=>AM λgr=>Ad<|Aa λc4243=>Ad<|As λr h=>wx x89 (Ab (U0 N)<|Aj) λ_ hS F=>?_
 dsimp only[x89,Ah,AA,Ak];unfold D1 at h;obtain⟨sx,h⟩:=un h;refine An hS F h (λ_ h=>?_) (λ_ h=>?_)
 ·obtain⟨ka,n8,h⟩:=un h;exact Ai hS (fc n8 F) h
 ·obtain⟨sv,j9,n7,⟨jm,ql,qk,qj,qh,qg⟩,po,h⟩:=un h;obtain⟨sq,F⟩:=Cb Au po (fc n7 F);exact Ai hS F h
def F5(N:Nat)(au:List (Int×Int×Int×(List (Int×Int))×Int×Int))(s4258:List (Int×Int×Int×Int×Bool))(dh:Int)(ah:Int)(ak:Int)(aq:Int)(x4263:Int)(x4264:Int):Option (Int×(Int×Int×Int×(List (Int×Int))×Int×Int)×Int×Int×Int×(Int×Int×Int×Int×Bool)):=(AN N dh 8).bind λai=>(bif decide (ai=0)then(some (decide (ai=0)))else(some (decide (ai=1))):Option (Bool)).bind λjl=>bif jl then(gd (Af (x4263.tdiv 4))<|gd (Af (x4264.tdiv 8))<|(El N ah ak aq x4263 (x4263.tdiv 4) x4264 (x4264.tdiv 8)).bind λ(j8,j7,j6,j5,j4,jz)=>some (1,(j8,j7,j6,j5,j4,jz),0,0,0,(0,0,0,0,false)))else(bif decide (ai=2)then((D1 N au s4258 ah).bind λjy=>some (2,(0,0,0,[],0,0),jy,0,0,(0,0,0,0,false)))else(bif decide (ai=3)then((D1 N au s4258 ah).bind λam=>(AN N ak 4).bind λcj=>(AN N aq 4).bind λie=>bif decide (cj=ie)then(gd (Af (cj+2))<|gd (Af (am+40))<|(AN N x4263 20).bind λic=>gd (Af ((am+40)+ic))<|some (3,(((am+40)+ic).tmod 100,0,0,[],0,0),am,cj,(cj+2).tmod 4,(0,0,0,0,false)))else(gd (Af (am+40))<|(AN N x4263 20).bind λib=>gd (Af ((am+40)+ib))<|some (3,(((am+40)+ib).tmod 100,0,0,[],0,0),am,cj,ie,(0,0,0,0,false))))else(bif decide (ai=4)then((D1 N au s4258 ah).bind λg9=>(AN N ak 7).bind λdt=>gd (Af (dt-3))<|gd (Af (4*(dt-3)))<|(AN N aq 5).bind λci=>gd (Af (ci-2))<|gd (Af (4*(ci-2)))<|bif (decide (4*(dt-3)=0))&&(decide (4*(ci-2)=0))then((AN N x4263 3).bind λg8=>gd (Af (1+g8))<|some (4,(0,0,0,[],0,0),g9,1+g8,4*(ci-2),(0,0,0,0,false)))else(some (4,(0,0,0,[],0,0),g9,4*(dt-3),4*(ci-2),(0,0,0,0,false))))else(bif decide (ai=5)then((AN N ah 20).bind λjx=>(D1 N au s4258 ak).bind λjw=>(AN N aq 6).bind λgz=>gd (Af (gz-2))<|(AN N x4263 5).bind λgy=>gd (Af (1+gy))<|(AN N x4263 2).bind λjv=>some (5,(0,0,0,[],0,0),0,0,0,(jx,jw,gz-2,1+gy,decide (jv=0))))else((AN N ak 2).bind λeh=>gd (Af (6+eh))<|(AN N ah 12).bind λju=>bif decide (0<(s4258.length:Int))then((AN N ah (s4258.length:Int)).bind λjt=>(A7 s4258 jt).bind λ(jk,qe,qd,qc,qb)=>some (6+eh,(0,0,0,[],0,0),jk,0,0,(0,0,0,0,false)))else(some (6+eh,(0,0,0,[],0,0),ju,0,0,(0,0,0,0,false))))))))
@[go_sem] def s43(N:Nat):Spec:=p0<|pG<|pD Ak λau=>pD AA λs4258=>pE<|pG<|pI λdh=>pI λah=>pI λak=>pI λaq=>pI λx4263=>pI λx4264=>pE<|pE<|pF (F5 N au s4258 dh ah ak aq x4263 x4264) (0,(0,0,0,[],0,0),0,0,0,(0,0,0,0,false)) λr=>.agg [.i r.1,.i r.2.1.1,.i r.2.1.2.1,.i r.2.1.2.2.1,BP r.2.1.2.2.2.1,.i r.2.1.2.2.2.2.1,.i r.2.1.2.2.2.2.2,.i r.2.2.1,.i r.2.2.2.1,.i r.2.2.2.2.1,.i r.2.2.2.2.2.1,.i r.2.2.2.2.2.2.1,.i r.2.2.2.2.2.2.2.1,.i r.2.2.2.2.2.2.2.2.1,.b r.2.2.2.2.2.2.2.2.2]
theorem oF(N:Nat):AG Tryz.prog 43 (s43 N):=by
 refine Ar x43.ok<|Aw<|AM λau=>AM λs4258=>Ad<|Aw<|Aa λdh=>Aa λah=>Aa λak=>Aa λaq=>Aa λx4263=>Aa λx4264=>Ad<|Ad<|As λr h=>wx x43 (Ab (U0 N)<|Ab (nV N)<|Ab (Acn N)<|Aj) λ_ hS F=>?_
 dsimp only[x43,Ah,AA,Ak];unfold F5 at h;obtain⟨ai,n6,h⟩:=un h;replace F:=fc n6 F;obtain⟨ru,i9,h⟩:=un h;refine go hS F ?_;refine Bz ru (λz:Bool×Nat=>⟨[(2,.box (0,1) 0),(3,.box (1,1) 0),(4,.box (2,1) 0),(10,.i ai),(11,.b z.1)],[(.c (2,1) 0,.i 0),(.c (2,1) 1,.i 0),(.c (2,1) 2,.i 0),(.c (2,1) 3,.i 0),(.c (2,1) 4,.sl 0 true [] []),(.c (2,1) 5,.i 0),(.c (2,1) 6,.i 0),(.c (2,1) 7,.i 0),(.c (2,1) 8,.i 0),(.c (2,1) 9,.i 0),(.c (2,1) 10,.i 0),(.c (2,1) 11,.i 0),(.c (2,1) 12,.i 0),(.c (2,1) 13,.i 0),(.c (2,1) 14,.b false),(.c (1,1) 0,.i dh),(.c (1,1) 1,.i ah),(.c (1,1) 2,.i ak),(.c (1,1) 3,.i aq),(.c (1,1) 4,.i x4263),(.c (1,1) 5,.i x4264),(.c (0,1) 0,Ap au),(.c (0,1) 1,AS s4258)],z.2⟩) (λz=>(z.1:Bool)) .n ?_ ?_
 ·refine An hS F i9 (λ_ i9=>?_) (λ_ i9=>?_)
  ·exact B4 hS F (decide (ai=0),3) i9
  ·exact B4 hS F (decide (ai=1),4) i9
 ·rintro⟨jl,s7⟩ rfl;refine An hS F h (λ_ h=>?_) (λ_ h=>?_)
  ·obtain⟨sv,sf,⟨j8,j7,j6,j5,j4,jz⟩,n5,h⟩:=un h;exact Ai hS (fc n5 F) h
  ·refine An hS F h (λ_ h=>?_) (λ_ h=>?_)
   ·obtain⟨jy,n4,h⟩:=un h;exact Ai hS (fc n4 F) h
   ·refine An hS F h (λ_ h=>?_) (λ_ h=>?_)
    ·obtain⟨am,n0,cj,nz,ie,ny,h⟩:=un h;replace F:=fc ny (fc nz (fc n0 F));refine An hS F h (λ_ h=>?_) (λ_ h=>?_)
     ·obtain⟨se,rz,ic,nw,su,h⟩:=un h;exact Ai hS (fc nw F) h
     ·obtain⟨sr,ib,nv,tj,h⟩:=un h;exact Ai hS (fc nv F) h
    ·refine An hS F h (λ_ h=>?_) (λ_ h=>?_)
     ·obtain⟨g9,nu,dt,nr,th,tg,ci,nq,tf,te,h⟩:=un h;replace F:=fc nq (fc nr (fc nu F));refine An hS F h (λ_ h=>?_) (λ_ h=>?_)
      ·obtain⟨g8,nl,tc,h⟩:=un h;exact Ai hS (fc nl F) h
      ·exact Ai hS F h
     ·refine An hS F h (λ_ h=>?_) (λ_ h=>?_)
      ·obtain⟨jx,nk,jw,nj,gz,nh,ta,gy,ng,s9,jv,nf,h⟩:=un h;exact Ai hS (fc nf (fc ng (fc nh (fc nj (fc nk F))))) h
      ·obtain⟨eh,nc,s8,ju,nb,h⟩:=un h;replace F:=fc nb (fc nc F);refine An hS F h (λ_ h=>?_) (λ_ h=>?_)
       ·obtain⟨jt,mz,⟨jk,qe,qd,qc,qb⟩,pm,h⟩:=un h;obtain⟨sn,F⟩:=Cb BZ pm (fc mz F);exact Ai hS F h
       ·exact Ai hS F h
def DR(N:Nat)(x5507:List (Int×Int×Int×Int))(r5509:List (Int×Int×Int×(List (Int×Int))×Int×Int)):Nat->Int->(List (Int×Int×Int×Int×Bool))->Option ((List (Int×Int×Int×Int×Bool)))|0,_,_=>none|n+1,aj,b9=>bif ((decide (aj<(x5507.length:Int)))&&(decide (aj<8)))&&(decide (0<(r5509.length:Int)))then((A7 x5507 aj).bind λ(jj,ji,jh,gm)=>(AN N ji (r5509.length:Int)).bind λjs=>(A7 r5509 js).bind λ(jg,pz,pv,x5578,pq,pp)=>(AN N jj 12).bind λjr=>gd (Af ((x5578.length:Int)+2))<|(AN N jh ((x5578.length:Int)+2)).bind λgx=>gd (Af (gx-2))<|(AN N gm 5).bind λgw=>gd (Af (1+gw))<|(AN N gm 2).bind λjq=>(E9 N b9 jr jg (gx-2) (1+gw) (decide (jq=0))).bind λ(gv,jp)=>bif jp then(gd (Af (aj+1))<|DR N x5507 r5509 n (aj+1) gv)else(gd (Af (aj+1))<|DR N x5507 r5509 n (aj+1) b9))else(some b9)
def Dp(N:Nat)(dg:List (Int×Int×Int×Int×Int×Int))(x5507:List (Int×Int×Int×Int))(d8:List (Int×Int×Int×Int×Int×Int)):Option ((List (Int×Int×Int×(List (Int×Int))×Int×Int))×(List (Int×Int×Int×Int×Bool))):=(FD N dg).bind λr5509=>(DR N x5507 r5509 N 0 []).bind λjn=>some (r5509,jn)
@[go_sem] def s12(N:Nat):Spec:=p0<|pG<|pS GR λdg=>pS Nt λx5507=>pS GR λd8=>pE<|pE<|pF (Dp N dg x5507 d8) ([],[]) λr=>.agg [Ap r.1,AS r.2]
theorem ZI(N:Nat):AG Tryz.prog 12 (s12 N):=by
 refine Ar x12.ok<|Aw<|AF λdg=>AF λx5507=>AF λd8=>Ad<|Ad<|As λr h=>wx x12 (Ab (Ace N)<|Ab (U0 N)<|Ab (oB N)<|Aj) λ_ hS F=>?_
 dsimp only[x12,Ah,Nt,GR];unfold Dp at h;obtain⟨r5509,my,h⟩:=un h;replace F:=fc my F;refine go hS F ?_;refine Yd (104,2) 1 5 [.i 0,.i 0,.i 0,.i 0,.b false] (ev F) ?_;obtain⟨rt,i9,h⟩:=un h;refine go hS F ?_;refine Bz rt (λz:(List (Int×Int×Int×Int×Bool))×Nat=>⟨[(2,.box (1,1) 0),(3,.box (104,2) 0)],[(.c (104,2) 0,Ap r5509),(.c (104,2) 1,AS z.1),(.c (1,1) 0,.sl 0 true [] []),(.c (1,1) 1,.sl 0 true [] [])],z.2⟩) (λz=>(z.1:(List (Int×Int×Int×Int×Bool)))) (.x 0) ?_ ?_
 ·refine Bp (λn (y:Int×(List (Int×Int×Int×Int×Bool))×Nat)=>DR N x5507 r5509 n y.1 y.2.1) (λy=>⟨[(1,.box (0,1) 0),(2,.box (1,1) 0),(3,.box (104,2) 0),(4,.i y.1)],[(.c (104,2) 0,Ap r5509),(.c (104,2) 1,AS y.2.1),(.c (1,1) 0,.sl 0 true [] []),(.c (1,1) 1,.sl 0 true [] []),(.c (0,1) 0,GS dg),(.c (0,1) 1,Ov x5507),(.c (0,1) 2,GS d8)],y.2.2⟩) (0,[],3) i9 (Ch F) ?_;rintro n ⟨aj,b9,iv⟩ ab;simp only[DR]at ab;refine An hS F ab (λ_ ab=>?_) (λ_ ab=>?_)
  ·obtain⟨⟨jj,ji,jh,gm⟩,pj,ab⟩:=un ab;obtain⟨sk,F⟩:=Cb Kf pj F;obtain⟨js,mu,⟨jg,pz,pv,x5578,pq,pp⟩,pi,ab⟩:=un ab;obtain⟨sj,F⟩:=Cb Au pi (fc mu F);obtain⟨jr,mt,sf,gx,mr,se,gw,mq,rz,jq,mo,⟨gv,jp⟩,mn,ab⟩:=un ab;replace F:=fc mn (fc mo (fc mq (fc mr (fc mt F))));refine An hS F ab (λ_ ab=>?_) (λ_ ab=>?_)
   ·obtain⟨su,ab⟩:=un ab;exact Cd hS F (n,aj+1,gv,iv+1+1+1+1+1+1+1+1) ab
   ·obtain⟨sr,ab⟩:=un ab;exact Cd hS F (n,aj+1,b9,iv+1+1+1+1+1+1+1) ab
  ·exact B4 hS F (b9,iv+1) ab
 ·rintro⟨jn,s6⟩ rfl;exact Ai hS F h
def Db(N:Nat)(x5601:List (Int×Int×Int×Int×Int×Int)):Nat->Int->Int->(List (Int×(Int×Int×Int×(List (Int×Int))×Int×Int)×Int×Int×Int×(Int×Int×Int×Int×Bool)))->(List (Int×Int×Int×(List (Int×Int))×Int×Int))->(List (Int×Int×Int×Int×Bool))->Option (Int×(List (Int×(Int×Int×Int×(List (Int×Int))×Int×Int)×Int×Int×Int×(Int×Int×Int×Int×Bool))))|0,_,_,_,_,_=>none|n+1,aa,af,l5665,dm,dl=>bif (decide (af<(x5601.length:Int)))&&(decide (af<8))then((A7 x5601 af).bind λ(jf,je,jd,jc,jb,ja)=>(F5 N dm dl jf je jd jc jb ja).bind λ(bo,(bn,bm,bl,bj,bi,bh),bg,bf,be,(bb,ba,az,ay,aw))=>gd ((l5665.length+1)*136<=140737488355328)<|(D0 N dm dl bo bn bm bl bj bi bh bg bf be bb ba az ay aw).bind λ((dq,dp),jo)=>bif decide (jo=0)then(bif decide (aa=af)then(gd (Af (aa+1))<|gd (Af (af+1))<|Db N x5601 n (aa+1) (af+1) (l5665++[(bo,(bn,bm,bl,bj,bi,bh),bg,bf,be,(bb,ba,az,ay,aw))]) dq dp)else(gd (Af (af+1))<|Db N x5601 n aa (af+1) (l5665++[(bo,(bn,bm,bl,bj,bi,bh),bg,bf,be,(bb,ba,az,ay,aw))]) dq dp))else(gd (Af (af+1))<|Db N x5601 n aa (af+1) (l5665++[(bo,(bn,bm,bl,bj,bi,bh),bg,bf,be,(bb,ba,az,ay,aw))]) dm dl))else(some (aa,l5665))
def GA(N:Nat)(db:List (Int×Int×Int×Int×Int×Int))(da:List (Int×Int×Int×Int))(x5601:List (Int×Int×Int×Int×Int×Int)):Option ((List (Int×(Int×Int×Int×(List (Int×Int))×Int×Int)×Int×Int×Int×(Int×Int×Int×Int×Bool)))×Int):=(Dp N db da x5601).bind λ(gu,gt)=>(Db N x5601 N 0 0 [] gu gt).bind λ(du,mf)=>some (mf,du)
@[go_sem] def s13(N:Nat):Spec:=p0<|pG<|pS GR λdb=>pS Nt λda=>pS GR λx5601=>pE<|pE<|pF (GA N db da x5601) ([],0) λr=>.tup [Ay r.1,.i r.2]
theorem Aco(N:Nat):AG Tryz.prog 13 (s13 N):=by
 refine Ar x13.ok<|Aw<|AF λdb=>AF λda=>AF λx5601=>Ad<|Ad<|As λr h=>wx x13 (Ab (ZI N)<|Ab (oF N)<|Ab (U1 N)<|Aj) λ_ hS F=>?_
 dsimp only[x13,Ah,Nt,GR];unfold GA at h;obtain⟨⟨gu,gt⟩,mj,h⟩:=un h;replace F:=fc mj F;refine go hS F ?_;refine DT 1000001 5 15 [.i 0,.i 0,.i 0,.i 0,.sl 0 true [] [],.i 0,.i 0,.i 0,.i 0,.i 0,.i 0,.i 0,.i 0,.i 0,.b false] (by show(5:Nat)<51;omega) (by omega) (ev F) ?_;obtain⟨rq,i9,h⟩:=un h;refine go hS F ?_;refine Bz rq (λz:Int×(List (Int×(Int×Int×Int×(List (Int×Int))×Int×Int)×Int×Int×Int×(Int×Int×Int×Int×Bool)))×Nat=>⟨[(5,.own (1000001,6) z.2.1.length),(6,.i z.1)],[(.a (1000001,6),EW z.2.1)],z.2.2⟩) (λz=>((z.1,z.2.1):Int×(List (Int×(Int×Int×Int×(List (Int×Int))×Int×Int)×Int×Int×Int×(Int×Int×Int×Int×Bool))))) (.x 0) ?_ ?_
 ·refine Bp (λn (y:Int×Int×(List (Int×(Int×Int×Int×(List (Int×Int))×Int×Int)×Int×Int×Int×(Int×Int×Int×Int×Bool)))×(List (Int×Int×Int×(List (Int×Int))×Int×Int))×(List (Int×Int×Int×Int×Bool))×Nat)=>Db N x5601 n y.1 y.2.1 y.2.2.1 y.2.2.2.1 y.2.2.2.2.1) (λy=>⟨[(1,.box (0,1) 0),(4,.box (102,2) 0),(5,.own (1000001,6) y.2.2.1.length),(6,.i y.1),(7,.i y.2.1)],[(.a (1000001,6),EW y.2.2.1),(.c (102,2) 0,Ap y.2.2.2.1),(.c (102,2) 1,AS y.2.2.2.2.1),(.c (0,1) 0,GS db),(.c (0,1) 1,Ov da),(.c (0,1) 2,GS x5601)],y.2.2.2.2.2⟩) (0,0,[],gu,gt,6) i9 (Ch F) ?_;rintro n ⟨aa,af,l5665,dm,dl,fr⟩ ab;simp only[Db]at ab;refine An hS F ab (λ_ ab=>?_) (λ_ ab=>?_)
  ·obtain⟨⟨jf,je,jd,jc,jb,ja⟩,ph,ab⟩:=un ab;obtain⟨sg,F⟩:=Cb GQ ph F;obtain⟨⟨bo,⟨bn,bm,bl,bj,bi,bh⟩,bg,bf,be,⟨bb,ba,az,ay,aw⟩⟩,mh,ab⟩:=un ab;obtain⟨sf,⟨⟨dq,dp⟩,jo⟩,mg,ab⟩:=un ab;replace F:=fc mg (fc mh F);refine An hS F ab (λ_ ab=>?_) (λ_ ab=>?_)
   ·refine An hS F ab (λ_ ab=>?_) (λ_ ab=>?_)
    ·obtain⟨se,rz,ab⟩:=un ab;exact Cd hS F (n,aa+1,af+1,l5665++[(bo,(bn,bm,bl,bj,bi,bh),bg,bf,be,(bb,ba,az,ay,aw))],dq,dp,fr+1+1+1+1+1+1+1+1+1) ab
    ·obtain⟨su,ab⟩:=un ab;exact Cd hS F (n,aa,af+1,l5665++[(bo,(bn,bm,bl,bj,bi,bh),bg,bf,be,(bb,ba,az,ay,aw))],dq,dp,fr+1+1+1+1+1+1+1+1) ab
   ·obtain⟨sr,ab⟩:=un ab;exact Cd hS F (n,aa,af+1,l5665++[(bo,(bn,bm,bl,bj,bi,bh),bg,bf,be,(bb,ba,az,ay,aw))],dm,dl,fr+1+1+1+1+1+1) ab
  ·exact B4 hS F (aa,l5665,fr+1) ab
 ·rintro⟨du,mf,sy⟩ rfl;exact E2 hS F h
