import Derived.Test.YtjdchfljifacoaaGreatJ2
set_option linter.all false
set_option maxRecDepth 100000
set_option maxHeartbeats 8000000
namespace Go.Proofs.YtjdchfljifacoaaGreat.Am
section
section
variable{N:Nat}(hN:1001<=N)
include hN
omit hN in
theorem TI{f:List Un}(h:FV f)(t:Int):∀n i (l:List Un),i<=f.length->f.length<n+i->l.length<=i->Dg N f t n (i:Nat) l=some (l++(f.drop i).filter λv=>decide (v.1≠t))
 |0,i,l,h1,h2,_=>by omega
 |n+1,i,l,h1,h2,h3=>by
  have hl:=h.len;rw[Dg];by_cases e:i=f.length
  ·subst e;rw[F2,cF,sW];simp
  ·have hi:i<f.length:=by omega
   have v8:=(h.val _ (FH hi)).l.l8;rw[Dq hi,cT,Fs hi,bS];simp only;rw[jW hi,List.filter_cons,<-Fb hi];by_cases c:(A2 f i).1≠t
   ·have hcp:BY N (A2 f i).1 (A2 f i).2.1 (A2 f i).2.2.1 (A2 f i).2.2.2.1 (A2 f i).2.2.2.2.1 (A2 f i).2.2.2.2.2=some ((A2 f i).1,(A2 f i).2.1,(A2 f i).2.2.1,(A2 f i).2.2.2.1,(A2 f i).2.2.2.2.1,(A2 f i).2.2.2.2.2):=KX N (by omega);rw[AU _ (aA c),hcp,bS];simp only;rw[Ae (by omega),Ae (by unfold Af;omega),<-ns,TI h t n (i+1) _ (by omega) (by omega) (by simp;omega),dX (aA c),nK];rfl
   ·rw[A1 _ (aB c),Ae (by unfold Af;omega),<-ns,TI h t n (i+1) _ (by omega) (by omega) (by omega),dW (by rw[bJ];exact c)]
open Classical in
theorem mX{f:List Un}(hl:f.length<=1000)(t:Int):FZ N f t=some (if FV f/\∃u∈f,u.1=t then(EZ f t,0)else([],120)):=by
 have hf:Dm N f t=some (((Df f t).1.1,(Df f t).1.2.1,(Df f t).1.2.2.1,(Df f t).1.2.2.2.1,(Df f t).1.2.2.2.2.1,(Df f t).1.2.2.2.2.2),(Df f t).2):=oW hN hl t;unfold FZ;rw[hf,bS]
 (try simp only)
 by_cases h:FV f
 ·have h2:(Df f t).2=decide (∃u∈f,u.1=t):=by
   unfold Df;rw[dX h];by_cases c:∃v∈f,v.1=t
   ·rw[aA c];obtain⟨v,hv,rfl⟩:=c;obtain⟨k,hk,rfl⟩:=Lm hv;rw[OE h hk]
   ·rw[aB c,OF c]
  have hl:=h.len;have L:=TI (N:=N) h t N 0 [] (by omega) (by omega) (by simp);rw[iW,sG,kN]at L;rw[h2];by_cases c:∃u∈f,u.1=t
  ·rw[aA c,A1 _ (by rfl),L,bS,dX ⟨h,c⟩];rfl
  ·rw[aB c,AU _ (by rfl),dW λq=>c q.2]
 ·have h2:(Df f t).2=false:=by unfold Df;rw[dW h]
  rw[h2,AU _ (by rfl),dW λq=>h q.1]
omit hN in
theorem Pu{ms:List Mk}(hl:ms.length<=1000)(id:Int):∀n k (l:List Mk),k<=ms.length->ms.length<n+k->l.length<=k->C6 N ms id n (k:Nat) l=some (l++(ms.drop k).filter (I2 id))
 |0,k,l,h1,h2,_=>by omega
 |n+1,k,l,h1,h2,h3=>by
  rw[C6];by_cases e:k<ms.length
  ·rw[Dq e,cT,E7 e,bS];simp only;rw[jW e,List.filter_cons,<-FJ e];by_cases c:(Bi ms k).2.1≠id
   ·rw[aA c,AU _ (by rfl),Ae (by omega),Ae (by unfold Af;omega),<-ns,Pu hl id n (k+1) _ (by omega) (by omega) (by simp;omega),dX (show I2 id (Bi ms k)=true from aA c),nK];rfl
   ·rw[aB c,A1 _ (by rfl),Ae (by unfold Af;omega),<-ns,Pu hl id n (k+1) _ (by omega) (by omega) (by omega),dW (show¬I2 id (Bi ms k)=true by unfold I2;rw[bJ];exact c)]
  ·have e3:k=ms.length:=by omega
   subst e3;rw[F2,cF,sW];simp
theorem Xm{ms:List Mk}(hl:ms.length<=1000)(id:Int):DQ N ms id=some (ms.filter (I2 id)):=by unfold DQ;have:=Pu (N:=N) hl id N 0 [] (by omega) (by omega) (by simp);rw[iW,sG,kN]at this;rw[this,bS]
omit hN in
theorem Xn{ms:List Mk}{m:Mk}(h:∀x∈ms,x.1<m.1):Hx ms m=ms++[m]:=by unfold Hx;rw[List.filter_eq_self.2 λx hx=>aA (h x hx),List.filter_eq_nil_iff.2 λx hx=>by rw[bJ];have:=h x hx;omega]
omit hN in
theorem UA{ms:List Mk}{m x:Mk}(h:m.1<=x.1):Hx (ms++[x]) m=Hx ms m++[x]:=by unfold Hx;rw[List.filter_append,List.filter_append,List.filter_eq_nil_iff.2 (show∀y∈[x],¬(decide (y.1<m.1)=true)from λy hy=>by rw[tJ.1 hy,bJ];omega),nA,List.filter_eq_self.2 (show∀y∈[x],decide (m.1<=y.1)=true from λy hy=>by rw[tJ.1 hy];exact aA h),nK];rfl
omit hN in
theorem RY(ms:List Mk)(m:Mk):(Hx ms m).length<=2*ms.length+1:=by unfold Hx;have h1:=List.length_filter_le (λx:Mk=>decide (x.1<m.1)) ms;have h2:=List.length_filter_le (λx:Mk=>decide (m.1<=x.1)) ms;simp only[fN,mV];omega
omit hN in
theorem RZ{ms:List Mk}(hl:ms.length<=1000)(hs:ms.Pairwise λa b=>a.1<b.1)(m:Mk):∀n k (l:List Mk) (pt:Bool),k<=ms.length->ms.length<n+k->(∀x∈ms.take k,x.1≠m.1)->((pt=false/\l=ms.take k/\∀x∈ms.take k,x.1<m.1)\/(pt=true/\l=Hx (ms.take k) m/\∃x∈ms.take k,m.1<x.1))->((∃x∈ms,x.1=m.1)/\Dx N ms m.1 m.2.1 m.2.2.1 m.2.2.2.1 m.2.2.2.2 n pt (k:Nat) l=some (.inr ([],false)))\/((∀x∈ms,x.1≠m.1)/\∃p' l',Dx N ms m.1 m.2.1 m.2.2.1 m.2.2.2.1 m.2.2.2.2 n pt (k:Nat) l=some (.inl (p',l'))/\l'.length<=2*ms.length+1/\(bif !p' then l'++[m]else l')=Hx ms m)
 |0,k,l,pt,h1,h2,_,_=>by omega
 |n+1,k,l,pt,h1,h2,h3,h4=>by
  rw[Dx];by_cases e:k<ms.length
  ·have tk:=Vi e;rw[Dq e,cT,E7 e,bS];simp only;by_cases c:(Bi ms k).1=m.1
   ·rw[aA c,cT];exact .inl ⟨⟨_,J5 e,c⟩,rfl⟩
   ·have h3':∀x∈ms.take (k+1),x.1≠m.1:=λx hx=>by
     rw[tk,fU,tJ]at hx;rcases hx with hx|rfl
     ·exact h3 x hx
     ·exact c
    rw[aB c,cF];have ll:l.length<=2*k+1:=by
     rcases h4 with⟨_,rfl,_⟩|⟨_,rfl,_⟩
     ·rw[tH];omega
     ·have:=RY (ms.take k) m;rw[tH]at this;omega
    by_cases c2:((!pt)&&decide (m.1<(Bi ms k).1))=true
    ·rw[c2,cT,Ae (by omega),bS];rw[fW,bJ,tL]at c2;rcases h4 with⟨_,rfl,g⟩|⟨g,_⟩
     ·simp only;rw[Ae (by simp only[fN,mV,t8];omega),Ae (by unfold Af;omega),<-ns];refine RZ hl hs m n (k+1) _ true (by omega) (by omega) h3' (.inr ⟨rfl,?_,Bi ms k,by rw[tk];simp,c2.2⟩);rw[tk,UA (by omega),Xn g]
     ·rw[g]at c2;cases c2.1
    ·rw[tD.2 c2,cF,bS];simp only;rw[Ae (by omega),Ae (by unfold Af;omega),<-ns];rw[fW,bJ,tL]at c2;refine RZ hl hs m n (k+1) _ pt (by omega) (by omega) h3' ?_;rcases h4 with⟨p1,rfl,g⟩|⟨p1,rfl,y,hy,g⟩
     ·refine .inl ⟨p1,by rw[tk],λx hx=>?_⟩;rw[tk,fU,tJ]at hx;rcases hx with hx|rfl
      ·exact g x hx
      ·have:¬m.1<(Bi ms k).1:=λw=>c2 ⟨p1,w⟩
       omega
     ·refine .inr ⟨p1,?_,y,by rw[tk];exact List.mem_append_left _ hy,g⟩;have:y.1<(Bi ms k).1:=by obtain⟨j,hj,rfl⟩:=List.mem_iff_getElem.1 hy;rw[tH]at hj;rw[List.getElem_take,<-FJ (by omega)];exact I1.1 hs j k (by omega) e
      rw[tk,UA (by omega)]
  ·have e3:k=ms.length:=by omega
   subst e3;rw[F4]at h3 h4;rw[F2,cF];refine .inr ⟨h3,pt,l,rfl,?_,?_⟩
   ·rcases h4 with⟨_,rfl,_⟩|⟨_,rfl,_⟩
    ·omega
    ·exact RY _ _
   ·rcases h4 with⟨rfl,rfl,g⟩|⟨rfl,rfl,_⟩
    ·rw[Xn g];rfl
    ·rfl
open Classical in
theorem fR{ms:List Mk}(hl:ms.length<=1000)(hs:ms.Pairwise λa b=>a.1<b.1)(m:Mk):E9 N ms m.1 m.2.1 m.2.2.1 m.2.2.2.1 m.2.2.2.2=some (if∃x∈ms,x.1=m.1 then([],false)else(Hx ms m,true)):=by
 unfold E9;have F:=RZ (N:=N) hl hs m N 0 [] false (by omega) (by omega) (by simp) (.inl ⟨rfl,by simp,by simp⟩);rw[iW]at F;rcases F with⟨h,e⟩|⟨h,p',l',e,ll,e2⟩
 ·rw[e,bS,dX h]
 ·rw[e,bS,dW λ⟨x,hx,e⟩=>h x hx e];simp only;cases p' with
  |false=>rw[yS,cT,Ae (by omega),bS];rw[yS,cT]at e2;exact congrArg (λl=>some (l,true)) e2
  |true=>rw[z8,cF,bS];rw[z8,cF]at e2;rw[e2]
open Classical in
theorem Y0{f:List Un}{ms:List Mk}(hm:MV f ms)(id:Int)(b:Bool):∃r,ET N ms id b=some r/\(∀g:List Un,(if r.2=true then some (g,r.1)else none)=(if∃x∈ms,x.1=id/\x.2.2.2.2≠b then some (g,ms.map (TF id b))else none))/\r.1.length<=20:=by
 have hl:=hm.len;unfold ET;rw[Ae (by omega)];have F:=GK (L:=CQ N ms id b) (len:=ms.length) (λk=>if(Bi ms k).1=id then some (ms.set k ((Bi ms k).1,(Bi ms k).2.1,(Bi ms k).2.2.1,(Bi ms k).2.2.2.1,b),((Bi ms k).2.2.2.2 !=b))else none) (λn k hk e=>?_) (λn k r hk e=>?_) (λn=>?_) N (by omega)
 ·rcases F with⟨e,h⟩|⟨j,r,hj,h,_,e⟩
  ·rw[e,bS];refine⟨_,rfl,λg=>?_,by simp⟩;rw[dW (by simp),dW];rintro⟨x,hx,e,_⟩;obtain⟨k,hk,rfl⟩:=Ml hx;have:=h k hk;rw[dX e]at this;cases this
  ·by_cases c:(Bi ms j).1=id
   ·rw[dX c]at h;cases h
    rw[e,bS];refine⟨_,rfl,λg=>?_,by rw[List.length_set];omega⟩;simp only;rw[TH hm hj,c];by_cases t:(Bi ms j).2.2.2.2=b
    ·rw[dW (by rw[t];simp),dW];rintro⟨x,hx,e,e2⟩;obtain⟨k,hk,rfl⟩:=Ml hx;have:j=k:=by
      apply Classical.byContradiction;intro hne;by_cases c:k<j
      ·have:=I1.1 hm.srt k j c hj;omega
      ·have:=I1.1 hm.srt j k (by omega) hk;omega
     subst this;exact e2 t
    ·rw[dX (by rw[bne_iff_ne];exact t),dX ⟨_,J5 hj,c,t⟩]
   ·rw[dW c]at h;cases h
 ·have c:¬(Bi ms k).1=id:=λc=>by rw[dX c]at e;cases e
  rw[CQ,Dq hk,cT,E7 hk,bS];simp only;rw[aB c,cF,Ae (by unfold Af;omega),ns]
 ·by_cases c:(Bi ms k).1=id
  ·rw[dX c]at e;cases e
   rw[CQ,Dq hk,cT,E7 hk,bS];simp only;rw[aA c,cT,sI]
  ·rw[dW c]at e;cases e
 ·rw[CQ,F2,cF]
omit hN in
theorem mY{l:List Pt}(h:VP l)(i k:Int):(Ka l i k).1.length<=20/\(Ka l i k).2.1.length<=20:=by
 have l8:=h.l8;have l3:=h.l3;unfold Ka Tq;split
 ·split
  ·exact⟨by simp,by simp⟩
  ·simp only[By];unfold Eb;have h1:=sF (k.toNat+l.length-i.toNat) (show 0<l.length by omega);have h2:=sF (i.toNat+l.length-k.toNat) (show 0<l.length by omega);omega
 ·exact⟨by simp,by simp⟩
omit hN in
theorem Xo{f:List Un}(h1:f.length<=1000)(h8:∀u∈f,u.2.2.2.1.length<=1000):∀n k,k<=f.length->f.length<n+k->EG N f n (k:Nat) (f.take k)=some f
 |0,k,_,_=>by omega
 |n+1,k,h2,h3=>by
  rw[EG];by_cases e:k<f.length
  ·rw[Dq e,cT,Fs e,bS];simp only;rw[KX N (h8 _ (FH e)),bS];rw[Ae (by rw[tH];omega),Ae (by unfold Af;omega),<-ns];have:=Xo h1 h8 n (k+1) (by omega) (by omega);rw[KZ e]at this;exact this
  ·have e3:k=f.length:=by omega
   subst e3;rw[F2,cF,F4]
theorem Ac3{f:List Un}(h1:f.length<N)(h9:f.length<=1000)(h8:∀u∈f,u.2.2.2.1.length<=1000){ms:List Mk}(hl:ms.length<=1000):CH N f ms=some (f,ms):=by have:=Xo (N:=N) h9 h8 N 0 (by omega) (by omega);rw[List.take_zero,iW]at this;unfold CH HZ;rw[this,bS,bS,Ae (by omega)]
theorem Pv{f:List Un}(hf:FV f){ms:List Mk}(hl:ms.length<=1000)(ok:Bool):(gd ((!(!ok))=true->((Bn N f ms).isSome=true))<|bif (!ok)||(!((Bn N f ms).getD false))then some ((([]:List Un),([]:List Mk)),(170:Int))else((CH N f ms).bind λ(r1,r2)=>some ((r1,r2),0)))=some (IM (if ok=true/\MV f ms then some (f,ms)else none)):=by
 rw[Xi hN f hl,BR (λ_=>fL),kK];have fl:=hf.len;have f8:=hf.lens;cases ok with
 |false=>rw[AU _ (by rfl),dW (by simp)];rfl
 |true=>
  by_cases c:MV f ms
  ·rw[aA (p:=SV f ms) ⟨hf,c⟩,A1 _ (by rfl),dX ⟨rfl,c⟩,Ac3 hN (by omega) (by omega) (λu hu=>by have:=f8 u hu;omega) hl,bS];rfl
  ·rw[aB (p:=SV f ms) λw=>c w.2,AU _ (by rfl),dW λw=>c w.2];rfl
theorem Kl{f:List Un}{ms:List Mk}:(gd ((!(!false))=true->((Bn N f ms).isSome=true))<|bif (!false)||(!((Bn N f ms).getD false))then some ((([]:List Un),([]:List Mk)),(170:Int))else((CH N f ms).bind λ(r1,r2)=>some ((r1,r2),0)))=some (IM none):=by rw[BR (λh=>by cases h),AU _ (by rfl)];rfl
variable(a b c p q id i k m1 m2 m3 m4:Int)(l:List Pt)(o:Bool)
theorem Abz{f:List Un}(h:FV f)(t:Int):Dm N f t=some (((Df f t).1.1,(Df f t).1.2.1,(Df f t).1.2.2.1,(Df f t).1.2.2.2.1,(Df f t).1.2.2.2.2.1,(Df f t).1.2.2.2.2.2),(Df f t).2):=oW hN (by have:=h.len;omega) t
theorem qG(h9:N<=100000){f:List Un}{ms:List Mk}(hl:ms.length<=1000)(n:Int):D0 N f ms n a b c l p q id i k m1 m2 m3 m4 o=some (IM (Ig (f,ms) (n,(a,b,c,l,p,q),id,i,k,(m1,m2,m3,m4,o)))):=by
 unfold D0;rw[Xi hN f hl,bS,YX hN,BR (λ_=>fL),kK];by_cases h:SV f ms/\FA (n,(a,b,c,l,p,q),id,i,k,(m1,m2,m3,m4,o))
 ·obtain⟨h,fa⟩:=h;have ml:=h.2.len;rw[aA h,aA fa,A1 _ (by rfl),LB h fa];by_cases e5:n=5
  ·subst e5;have ra:=fR hN (ms:=ms) (by omega) h.2.srt (m1,m2,m3,m4,o);simp only at ra;rw[AU _ (by rfl),ra,bS,Abu];by_cases t:∃x∈ms,x.1=m1
   ·rw[dX t,dX t];exact Kl hN
   ·rw[dW t,dW t];have:=RY ms (m1,m2,m3,m4,o);have:=Pv hN h.1 (ms:=Hx ms (m1,m2,m3,m4,o)) (by omega) true;simp only[true_and]at this;exact this
  rw[A1 _ (aB e5)];by_cases e6:n=6
  ·subst e6;obtain⟨r,r1,r2,r3⟩:=Y0 hN h.2 id false;rw[AU _ (by rfl),r1,bS,Abv,<-r2 f];have:=Pv hN h.1 (ms:=r.1) (by omega) r.2;refine this.trans ?_;by_cases t:r.2=true
   ·rw[dX t];simp only[t,true_and]
   ·rw[dW t,dW λw=>t w.1]
  rw[A1 _ (aB e6)];by_cases e7:n=7
  ·subst e7;obtain⟨r,r1,r2,r3⟩:=Y0 hN h.2 id true;rw[AU _ (by rfl),r1,bS,Abw,<-r2 f];have:=Pv hN h.1 (ms:=r.1) (by omega) r.2;refine this.trans ?_;by_cases t:r.2=true
   ·rw[dX t];simp only[t,true_and]
   ·rw[dW t,dW λw=>t w.1]
  rw[A1 _ (aB e7)];unfold G4;rw[Ae (by omega)];have rv:FV (EZ f id):=h.1.sub List.filter_sublist;have fl:=RW ms (I2 id);by_cases e1:n=1
  ·subst e1;have uv:=(fa1.1 fa).1;have l8:l.length<=8:=uv.l.l8;have ra:=W3 hN f (u:=(a,b,c,l,p,q)) (by show l.length<=1000;omega);simp only at ra;rw[AU _ (by rfl),ra,bS,Abq];by_cases t:Fit f (a,b,c,l,p,q)
   ·rw[dX t,dX t];have:=Pv hN t.fv (ms:=ms) (by omega) true;simp only[true_and]at this;exact this
   ·rw[dW t,dW t];exact Kl hN
  rw[A1 _ (aB e1),Abz hN h.1,bS];by_cases e2:n=2
  ·subst e2;rw[Abr];rcases OJ h.1 id with⟨_,g2,t⟩|⟨u,hu,t,_,g2⟩
   ·rw[g2,dW t];simp only;rw[AU _ (by rfl),bS];exact Kl hN
   ·rw[g2,dX ⟨u,hu,t⟩];simp only;rw[A1 _ (by rfl),mX hN (by have:=h.1.len;omega) id,bS,dX ⟨h.1,u,hu,t⟩];simp only;rw[AU _ (by rfl),Xm hN (by omega),bS,bS];have:=Pv hN rv (ms:=ms.filter (I2 id)) (by omega) true;simp only[true_and]at this;exact this
  by_cases e4:n=4
  ·subst e4;have fb:=qC.1 fa;rw[Abt];rcases OJ h.1 id with⟨g1,g2,t⟩|⟨u,hu,t,g1,g2⟩
   ·rw[g1,g2];simp only;rw[AU _ (by rfl),bS];exact Kl hN
   ·rw[g1,g2];simp only;have um:=qE (N:=N) (by omega) (h.1.val u hu) (d:=(i,k)) (by unfold Qg;omega);obtain⟨r,q1,q2,q3⟩:=AcS (N:=N) hN u.1 u.2.1 u.2.2.1 u.2.2.2.1 u.2.2.2.2.1 u.2.2.2.2.2 i k;simp only at um;rw[um]at q1;rw[<-yJ q1]at q2;rw[A1 _ (by rfl),mX hN (by have:=h.1.len;omega) id,bS,dX ⟨h.1,u,hu,t⟩];simp only;rw[A1 _ (by rfl),AU _ (by rfl),q2,bS];by_cases t3:Xk (i,k) u
    ·rw[dX t3];simp only;have ra:=W3 hN (EZ f id) (u:=S5 (i,k) u) (by have:=h.1.lens u hu;show(u.2.2.2.1.map _).length<=1000;rw[mW];omega);rw[A1 _ (by rfl),ra,bS];by_cases t1:Fit (EZ f id) (S5 (i,k) u)
     ·rw[dX t1,dX ⟨t3,t1⟩];have:=Pv hN t1.fv (ms:=ms) (by omega) true;simp only[true_and]at this;exact this
     ·rw[dW t1,dW λw=>t1 w.2];exact Kl hN
    ·rw[dW t3,dW λw=>t3 w.1];simp only[PE];rw[AU _ (by rfl),bS];exact Kl hN
  have e3:n=3:=by apply Classical.byContradiction;intro e3;exact fM (by omega) fa
  ·subst e3;have fb:=qB.1 fa;rw[Abs];rcases OJ h.1 id with⟨g1,g2,t⟩|⟨u,hu,t,g1,g2⟩
   ·rw[g1,g2];simp only;rw[AU _ (by rfl),bS];exact Kl hN
   ·rw[g1,g2];simp only;have vp:=(h.1.val u hu).l;rw[A1 _ (by rfl),mX hN (by have:=h.1.len;omega) id,bS,dX ⟨h.1,u,hu,t⟩];simp only;have zl:=mY vp i k;rw[A1 _ (by rfl),A1 _ (by rfl),fQ vp fb.2.2.2.1.1 fb.2.2.2.2.1.1 (by omega),bS];generalize Ka u.2.2.2.1 i k=z at zl⊢;obtain⟨z1,z2,z3⟩:=z;simp only at zl⊢;by_cases t3:z3=0
    ·subst t3;have a1:=W3 hN (EZ f id) (u:=Ia u z1) (by show z1.length<=1000;omega);have a2:=W3 hN (Gm (EZ f id) (Ia u z1)) (u:=Ps (Ia u z2) a) (by show z2.length<=1000;omega);unfold Ia at a1;unfold Ia Ps at a2⊢;simp only at a1 a2⊢;rw[A1 _ (by rfl),Xm hN (by omega),bS,a1,bS];by_cases t1:Fit (EZ f id) (u.1,u.2.1,u.2.2.1,z1,u.2.2.2.2.1,u.2.2.2.2.2)
     ·rw[dX t1];simp only;rw[A1 _ (by rfl),a2,bS];by_cases t2:Fit (Gm (EZ f id) (u.1,u.2.1,u.2.2.1,z1,u.2.2.2.2.1,u.2.2.2.2.2)) (a,u.2.1,u.2.2.1,z2,u.2.2.2.2.1,u.2.2.2.2.2)
      ·rw[dX t2,dX ⟨trivial,t1,t2⟩];have:=Pv hN t2.fv (ms:=ms.filter (I2 id)) (by omega) true;simp only[true_and]at this;exact this
      ·rw[dW t2,dW λw=>t2 w.2.2];exact Kl hN
     ·rw[dW t1,dW λw=>t1 w.2.1];simp only;rw[AU _ (by rfl),bS];exact Kl hN
    ·rw[AU _ (aA t3),dW λw=>t3 w.1,bS];exact Kl hN
 ·rw[show Ig (f,ms) (n,(a,b,c,l,p,q),id,i,k,(m1,m2,m3,m4,o))=none from dW h,AU]
  ·rfl
  ·by_cases h1:SV f ms
   ·rw[aB (p:=FA (n,(a,b,c,l,p,q),id,i,k,(m1,m2,m3,m4,o))) λw=>h ⟨h1,w⟩];simp
   ·rw[aB h1];simp
end
theorem Xp{ms:List Mk}{m x:Mk}:x∈Hx ms m↔x∈ms\/x=m:=by
 unfold Hx;rw[fU,fP,sH,sH,bJ,bJ];constructor
 ·rintro(h|h|h)
  ·exact .inl h.1
  ·exact .inr h
  ·exact .inl h.1
 ·rintro(h|h)
  ·by_cases c:x.1<m.1
   ·exact .inl ⟨h,c⟩
   ·exact .inr (.inr ⟨h,by omega⟩)
  ·exact .inr (.inl h)
theorem Rr(ms:List Mk)(m:Mk):(Hx ms m).length=ms.length+1:=by
 unfold Hx;have h:=List.length_eq_countP_add_countP (λx:Mk=>decide (x.1<m.1)) (l:=ms);rw[fN,mV,<-List.countP_eq_length_filter,<-List.countP_eq_length_filter];have e:List.countP (λx:Mk=>decide (m.1<=x.1)) ms=List.countP (λx:Mk=>decide (¬decide (x.1<m.1)=true)) ms:=by congr 1;funext x;rw[y8,bJ,bJ,bJ];omega
 rw[e];omega
theorem mZ{ms:List Mk}{m:Mk}(h:ms.Pairwise λa b=>a.1<b.1)(hn:∀x∈ms,x.1≠m.1):(Hx ms m).Pairwise λa b=>a.1<b.1:=by
 unfold Hx;rw[List.pairwise_append,List.pairwise_cons];refine⟨h.sublist List.filter_sublist,⟨λx hx=>?_,h.sublist List.filter_sublist⟩,λx hx y hy=>?_⟩
 ·rw[sH,bJ]at hx;have:=hn x hx.1;omega
 ·rw[sH,bJ]at hx;rcases fP.1 hy with rfl|hy
  ·exact hx.2
  ·rw[sH,bJ]at hy;omega
theorem fS(f:List Un):MV f []:=⟨by simp,by simp,by simp,List.Pairwise.nil⟩
theorem uM{f:List Un}{ms:List Mk}{m:Mk}(h:MV f ms)(hl:ms.length<20)(ho:JF m=true)(hu:∃u∈f,u.1=m.2.1/\m.2.2.1<(u.2.2.2.1.length:Int))(hn:¬∃x∈ms,x.1=m.1):MV f (Hx ms m):=by
 refine⟨by rw[Rr];omega,λx hx=>?_,λx hx=>?_,mZ h.srt λx hx e=>hn ⟨x,hx,e⟩⟩
 ·rcases Xp.1 hx with hx|rfl
  ·exact h.ok x hx
  ·exact ho
 ·rcases Xp.1 hx with hx|rfl
  ·exact h.on x hx
  ·exact hu
def I4(x:List (Int×Int×Int×Int)):Prop:=∀r∈x,Af r.1/\Af r.2.1/\Af r.2.2.1/\Af r.2.2.2
section
variable{N:Nat}(hN:1001<=N)
include hN
theorem Pw{x:List (Int×Int×Int×Int)}(hx:I4 x){f:List Un}(hf:FV f):∀n i (ms:List Mk),i<=8->8<n+i->MV f ms->ms.length<=i->∃g,DR N x f n (i:Nat) ms=some g/\MV f g
 |0,i,ms,h1,h2,_,_=>by omega
 |n+1,i,ms,h1,h2,hm,hl=>by
  rw[DR];by_cases c:(i<x.length/\i<8)/\0<f.length
  ·obtain⟨⟨c1,c2⟩,c3⟩:=c;have hr:=hx _ (y7 c1);have fl:=hf.len;rw[Dq c1,Bool.true_and,aA (p:=(i:Int)<8) (by omega),Bool.true_and,aA (p:=(0:Int)<(f.length:Int)) (by omega),cT,M4,dQ c1,bS];generalize x[i]=r at hr;obtain⟨a,b,c,d⟩:=r;simp only at hr⊢;have p1:=DI (c:=b) (n:=(f.length:Int)) (by omega);obtain⟨j,hj⟩:∃j:Nat,pk b f.length=j:=⟨(pk b f.length).toNat,by omega⟩
   rw[hj]at p1;have hj2:j<f.length:=by omega
   have uv:=hf.val _ (FH hj2);have l8:=uv.l.l8;have l3:=uv.l.l3;have p2:=DI (c:=a) (n:=12) (by omega);have p3:=DI (c:=c) (n:=((A2 f j).2.2.2.1.length:Int)+2) (by omega);have p4:=DI (c:=d) (n:=5) (by omega);rw[JE hr.2.1 (by omega),bS,hj,Fs hj2,bS];simp only;rw[JE hr.1 (by omega),bS,Ae (by unfold Af;omega),JE hr.2.2.1 (by omega),bS,Ae (by unfold Af;omega),JE hr.2.2.2 (by omega),bS,Ae (by unfold Af;omega),JE hr.2.2.2 (by omega),bS];have ra:=fR hN (ms:=ms) (by omega) hm.srt (pk a 12,(A2 f j).1,pk c ((A2 f j).2.2.2.1.length+2)-2,1+pk d 5,decide (pk d 2=0));simp only at ra;rw[ra,bS];have ua:=uv.a;have okm:JF (pk a 12,(A2 f j).1,pk c ((A2 f j).2.2.2.1.length+2)-2,1+pk d 5,decide (pk d 2=0))=true:=S3.2 ⟨by omega,by omega,by simp only;omega,by simp only;omega⟩;by_cases t:∃x∈ms,x.1=pk a 12
   ·rw[dX t];simp only;rw[cF,Ae (by unfold Af;omega),<-ns];exact Pw hx hf n (i+1) _ (by omega) (by omega) hm (by omega)
   ·rw[dW t];simp only;rw[cT,Ae (by unfold Af;omega),<-ns];exact Pw hx hf n (i+1) _ (by omega) (by omega) (uM hm (by omega) okm ⟨_,FH hj2,rfl,by simp only;omega⟩ t) (by rw[Rr];omega)
  ·rw[A1 _ (by rw[vF,vF,bK,bK,bK];omega)];exact⟨ms,rfl,hm⟩
theorem AbA{x1:List (Int×Int×Int×Int×Int×Int)}{x2:List (Int×Int×Int×Int)}(x3:List (Int×Int×Int×Int×Int×Int))(h1:I6 x1)(h2:I4 x2):∃f ms,Dp N x1 x2 x3=some (f,ms)/\SV f ms:=by obtain⟨f,e,hf⟩:=eU hN h1;obtain⟨ms,e2,hm⟩:=Pw hN h2 hf N 0 [] (by omega) (by omega) (fS f) (by simp);rw[iW]at e2;refine⟨f,ms,?_,hf,hm⟩;unfold Dp;rw[e,bS,e2,bS]
theorem Y2{f:List Un}{ms:List Mk}(hf:FV f){c:Int}(hc:Af c):∃t,D1 N f ms c=some t/\0<=t/\t<=99:=by
 unfold D1;have fl:=hf.len;have hc':=hc;unfold Af at hc';have p1:=DI (c:=c) (n:=16) (by omega);have p2:=DI (c:=c) (n:=100) (by omega);rw[JE hc (by omega),BR (λ_=>fL),kK];by_cases t:f.length=0\/pk c 16=15
 ·rw[AU _ (by rw[qZ,bJ,bJ];omega),JE hc (by omega),bS];exact⟨_,rfl,by omega⟩
 ·have ht:=Pp hc (d:=16) (by omega) (by omega);have p3:=DI (c:=c.tdiv 16) (n:=(f.length:Int)) (by omega);obtain⟨j,hj⟩:∃j:Nat,pk (c.tdiv 16) f.length=j:=⟨(pk (c.tdiv 16) f.length).toNat,by omega⟩
  rw[A1 _ (by rw[uO,bK,bK];omega),Ae ht,JE ht (by omega),bS,hj,Fs (by omega),bS];exact⟨_,rfl,(hf.val _ (FH (by omega))).a⟩
theorem fT{f:List Un}{ms:List Mk}(h:SV f ms){x1 x2 x3 x4 x5 x6:Int}(h1:Af x1)(h2:Af x2)(h3:Af x3)(h4:Af x4)(h5:Af x5)(h6:Af x6):∃a:Ac,F5 N f ms x1 x2 x3 x4 x5 x6=some a/\FA a:=by
 have ml:=h.2.len;unfold F5;have p0:=DI (c:=x1) (n:=8) (by omega);rw[JE h1 (by omega),bS];by_cases e0:pk x1 8=0\/pk x1 8=1
 ·have:(bif decide (pk x1 8=0)then some (decide (pk x1 8=0))else some (decide (pk x1 8=1)):Option Bool)=some true:=by
   by_cases c:pk x1 8=0
   ·rw[aA c,cT]
   ·rw[aB c,cF,aA (by omega)]
  have t1:=Pp h5 (d:=4) (by omega) (by omega);have t2:=Pp h6 (d:=8) (by omega) (by omega);obtain⟨u,e,hu⟩:=kP (N:=N) h2 h3 h4 h5 t1 h6 t2;rw[this,bS,cT,Ae t1,Ae t2,e,bS];exact⟨_,rfl,.build hu⟩
 have:(bif decide (pk x1 8=0)then some (decide (pk x1 8=0))else some (decide (pk x1 8=1)):Option Bool)=some false:=by rw[aB (p:=pk x1 8=0) (by omega),cF,aB (by omega)]
 rw[this,bS,cF];obtain⟨t2,u2,g2⟩:=Y2 hN (ms:=ms) h.1 h2;obtain⟨t3,u3,g3⟩:=Y2 hN (ms:=ms) h.1 h3;by_cases e2:pk x1 8=2
 ·rw[AU _ (aA e2),u2,bS];exact⟨_,rfl,.remove g2⟩
 rw[A1 _ (aB e2)];by_cases e3:pk x1 8=3
 ·have p3:=DI (c:=x3) (n:=4) (by omega);have p4:=DI (c:=x4) (n:=4) (by omega);have p5:=DI (c:=x5) (n:=20) (by omega);rw[AU _ (aA e3),u2,bS,JE h3 (by omega),bS,JE h4 (by omega),bS];have q1:((t2+40)+pk x5 20).tmod 100=(t2+40+pk x5 20)%100:=Int.tmod_eq_emod_of_nonneg (by omega);by_cases c:pk x3 4=pk x4 4
  ·have q2:(pk x3 4+2).tmod 4=(pk x3 4+2)%4:=Int.tmod_eq_emod_of_nonneg (by omega);rw[AU _ (aA c),Ae (by unfold Af;omega),Ae (by unfold Af;omega),JE h5 (by omega),bS,Ae (by unfold Af;omega),q1,q2];exact⟨_,rfl,.cut g2 (by omega) (by omega) (by omega) (by omega) (by omega)⟩
  ·rw[A1 _ (aB c),Ae (by unfold Af;omega),JE h5 (by omega),bS,Ae (by unfold Af;omega),q1];exact⟨_,rfl,.cut g2 (by omega) (by omega) (by omega) (by omega) (by omega)⟩
 rw[A1 _ (aB e3)];by_cases e4:pk x1 8=4
 ·have p3:=DI (c:=x3) (n:=7) (by omega);have p4:=DI (c:=x4) (n:=5) (by omega);have p5:=DI (c:=x5) (n:=3) (by omega);rw[AU _ (aA e4),u2,bS,JE h3 (by omega),bS,Ae (by unfold Af;omega),Ae (by unfold Af;omega),JE h4 (by omega),bS,Ae (by unfold Af;omega),Ae (by unfold Af;omega)];by_cases c:4*(pk x3 7-3)=0/\4*(pk x4 5-2)=0
  ·rw[AU _ (by rw[fW,bJ,bJ];exact c),JE h5 (by omega),bS,Ae (by unfold Af;omega)];exact⟨_,rfl,.move g2 (by omega) (by omega) (by omega)⟩
  ·rw[A1 _ (by rw[vF,bK,bK];omega)];exact⟨_,rfl,.move g2 (by omega) (by omega) (by omega)⟩
 rw[A1 _ (aB e4)];by_cases e5:pk x1 8=5
 ·have p2:=DI (c:=x2) (n:=20) (by omega);have p4:=DI (c:=x4) (n:=6) (by omega);have p5:=DI (c:=x5) (n:=5) (by omega);rw[AU _ (aA e5),JE h2 (by omega),bS,u3,bS,JE h4 (by omega),bS,Ae (by unfold Af;omega),JE h5 (by omega),bS,Ae (by unfold Af;omega),JE h5 (by omega),bS];exact⟨_,rfl,.mark (S3.2 ⟨by simp only;omega,g3,by simp only;omega,by simp only;omega⟩)⟩
 rw[A1 _ (aB e5)];have p3:=DI (c:=x3) (n:=2) (by omega);have p2:=DI (c:=x2) (n:=12) (by omega);rw[JE h3 (by omega),bS,Ae (by unfold Af;omega),JE h2 (by omega),bS];have fin:∀t:Int,0<=t/\t<=99->FA (6+pk x3 2,PE,t,0,0,Xg):=λt ht=>by
  by_cases c:pk x3 2=0
  ·rw[c];exact .close ht
  ·rw[show pk x3 2=1 by omega];exact .opn ht
 by_cases c:0<ms.length
 ·have p4:=DI (c:=x2) (n:=(ms.length:Int)) (by omega);obtain⟨j,hj⟩:∃j:Nat,pk x2 ms.length=j:=⟨(pk x2 ms.length).toNat,by omega⟩
  rw[AU _ (aA (by omega)),JE h2 (by omega),bS,hj,E7 (by omega),bS];exact⟨_,rfl,fin _ (S3.1 (h.2.ok _ (J5 (by omega)))).1⟩
 ·rw[A1 _ (aB (by omega))];exact⟨_,rfl,fin _ (by omega)⟩
end
end
section
open Go
attribute [local irreducible] Ax BO BB Bj BC Bk AY BD BK Cq
def Ir(N:Nat)(l3:List (Int×(Int×Int×Int×(List (Int×Int))×Int×Int)×Int×Int×Int×(Int×Int×Int×Int×Bool))):Nat->Int->(List (Int×Int×Int×(List (Int×Int))×Int×Int))->(List (Int×Int×Int×Int×Bool))->Option (Sum ((List (Int×Int×Int×(List (Int×Int))×Int×Int))×(List (Int×Int×Int×Int×Bool))) ((((List (Int×Int×Int×(List (Int×Int))×Int×Int))×(List (Int×Int×Int×Int×Bool)))×Int×Int)))|0,_,_,_=>none|n+1,x31,Yx,Yr=>bif decide (x31<(l3.length:Int))then((A7 l3 x31).bind λ(x34,(x35,x36,x37,x38,x39,x40),x41,x42,x43,(x44,x45,x46,x47,x48))=>(JW N Yx Yr x34 x35 x36 x37 x38 x39 x40 x41 x42 x43 x44 x45 x46 x47 x48).bind λ((ae,ab),aj)=>bif (decide (aj≠0))||(decide (40<=x31))then(some (.inr (([],[]),x31,170)))else(gd (Af (x31+1))<|Ir N l3 n (x31+1) ae ab))else(some (.inl (Yx,Yr)))
def Hb(N:Nat)(s1:List (Int×Int×Int×(List (Int×Int))×Int×Int))(s2:List (Int×Int×Int×Int×Bool))(l3:List (Int×(Int×Int×Int×(List (Int×Int))×Int×Int)×Int×Int×Int×(Int×Int×Int×Int×Bool))):Option (((List (Int×Int×Int×(List (Int×Int))×Int×Int))×(List (Int×Int×Int×Int×Bool)))×Int×Int):=(Dw N s1 s2).bind λr4=>bif !r4 then(some (([],[]),0,170))else((Fh N s1 s2).bind λ(r6,r7)=>(Ir N l3 N 0 r6 r7).bind λaf=>match af with|.inl (nX,nT)=>(some ((nX,nT),(l3.length:Int),0))|.inr am=>(some am))
@[go_sem] def s17(N:Nat):Spec:=p0<|pG<|pD Ak λs1=>pD AA λs2=>pE<|pD CR λl3=>pE<|pF (Hb N s1 s2 l3) (([],[]),0,0) λr=>.tup [.agg [Ap r.1.1,AS r.1.2],.i r.2.1,.i r.2.2]
theorem pY(N:Nat):AG Tryz.prog 17 (s17 N):=by
 refine Ar x17.ok<|Aw<|AM λs1=>AM λs2=>Ad<|AM λl3=>Ad<|As λr h=>wx x17 (Ab (ZG N)<|Ab (QZ N)<|Ab (pW N)<|Aj) λ_ hS F=>?_
 dsimp only[x17,Ah,AA,Ak,CR];unfold Hb at h;obtain⟨r4,aq,h⟩:=un h;replace F:=fc aq F;refine An hS F h (λ_ h=>?_) (λ_ h=>?_)
 ·exact Ai hS F h
 ·obtain⟨⟨r6,r7⟩,an,h⟩:=un h;replace F:=fc an F;obtain⟨af,av,h⟩:=un h;refine go hS F ?_;refine Bz af (λz:(List (Int×Int×Int×(List (Int×Int))×Int×Int))×(List (Int×Int×Int×Int×Bool))×Nat=>⟨[(1,Ay l3),(2,.box (0,1) 0),(4,.box (1,1) 0)],[(.c (1,1) 0,.sl 0 true [] []),(.c (1,1) 1,.sl 0 true [] []),(.c (0,1) 0,Ap z.1),(.c (0,1) 1,AS z.2.1)],z.2.2⟩) (λz=>(.inl (z.1,z.2.1):Sum ((List (Int×Int×Int×(List (Int×Int))×Int×Int))×(List (Int×Int×Int×Int×Bool))) ((((List (Int×Int×Int×(List (Int×Int))×Int×Int))×(List (Int×Int×Int×Int×Bool)))×Int×Int)))) (.x 0) ?_ ?_
  ·refine Bp (λn (y:Int×(List (Int×Int×Int×(List (Int×Int))×Int×Int))×(List (Int×Int×Int×Int×Bool))×Nat)=>Ir N l3 n y.1 y.2.1 y.2.2.1) (λy=>⟨[(1,Ay l3),(2,.box (0,1) 0),(4,.box (1,1) 0),(17,Ay l3),(18,.i (l3.length:Int)),(19,.i y.1)],[(.c (1,1) 0,.sl 0 true [] []),(.c (1,1) 1,.sl 0 true [] []),(.c (0,1) 0,Ap y.2.1),(.c (0,1) 1,AS y.2.2.1)],y.2.2.2⟩) (0,r6,r7,4) av (Ch F) ?_;rintro n ⟨x31,Yx,Yr,ak⟩ aa;simp only[Ir]at aa;refine An hS F aa (λ_ aa=>?_) (λ_ aa=>?_)
   ·obtain⟨⟨x34,⟨x35,x36,x37,x38,x39,x40⟩,x41,x42,x43,⟨x44,x45,x46,x47,x48⟩⟩,ai,aa⟩:=un aa;obtain⟨au,F⟩:=Cb AB ai F;obtain⟨⟨⟨ae,ab⟩,aj⟩,ah,aa⟩:=un aa;replace F:=fc ah F;refine An hS F aa (λ_ aa=>?_) (λ_ aa=>?_)
    ·obtain rfl:=yJ aa;exact Ai hS F h
    ·obtain⟨aw,aa⟩:=un aa;exact Cd hS F (n,x31+1,ae,ab,ak+1+1+1+1+1+1) aa
   ·exact B4 hS F (Yx,Yr,ak+1) aa
  ·rintro⟨nX,nT,ay⟩ rfl;exact Ai hS F h
end
theorem uN{s t:F8}{a:Ac}(h:FV s.1)(e:It s a=some t):FV t.1:=by
 obtain⟨f,ms⟩:=s;unfold It at e;have rv:∀id,FV (EZ f id):=λid=>h.sub List.filter_sublist
 split at e
 ·split at e
  ·cases e;rename_i g;exact g.fv
  ·cases e
 split at e
 ·split at e
  ·cases e;exact rv _
  ·cases e
 split at e
 ·split at e
  ·cases e
  ·simp only at e;split at e
   ·cases e;rename_i g;exact g.2.2.fv
   ·cases e
 split at e
 ·split at e
  ·cases e
  ·split at e
   ·cases e;rename_i g;exact g.2.fv
   ·cases e
 split at e
 ·split at e
  ·cases e
  ·cases e;exact h
 ·split at e
  ·cases e;exact h
  ·cases e
theorem Vj{s t:F8}{a:Ac}(e:Ig s a=some t):SV s.1 s.2/\FA a/\It s a=some t/\SV t.1 t.2:=by
 unfold Ig at e;split at e
 ·rename_i h;split at e
  ·rename_i t' e';split at e
   ·rename_i m;cases e
    exact⟨h.1,h.2,e',uN h.1.1 e',m⟩
   ·cases e
  ·cases e
 ·cases e
noncomputable def C4:F8->List Ac->Nat×Option F8|s,[]=>(0,some s)|s,a::l=>match Ig s a with|none=>(0,none)|some t=>((C4 t l).1+1,(C4 t l).2)
theorem NF:∀(l:List Ac)(s:F8),(C4 s l).1<=l.length/\((C4 s l).2.isSome=true↔(C4 s l).1=l.length)
 |[],s=>by simp[C4]
 |a::l,s=>by
  rw[C4];cases Ig s a with
  |none=>simp
  |some t=>have:=NF l t;simp only[mV];refine⟨by omega,this.2.trans ⟨λh=>by omega,λh=>by omega⟩⟩
theorem Px:∀(l l':List Ac)(s:F8),C4 s (l++l')=match C4 s l with|(n,some t)=>(n+(C4 t l').1,(C4 t l').2)|(n,none)=>(n,none)
 |[],l',s=>by rw[C4,kN];simp
 |a::l,l',s=>by
  rw[oK,C4,C4];cases Ig s a with
  |none=>rfl
  |some t=>
   simp only;rw[Px l l' t];rcases C4 t l with⟨n,_|u⟩
   ·rfl
   ·simp only;rw[Nat.add_right_comm]
theorem Ac4{l:List Ac}{k:Nat}(h:k<l.length):A7 l (k:Int)=some l[k]:=by rw[M4,dQ h]
section
variable{N:Nat}(hN:1001<=N)(h9:N<=100000)
include hN h9
theorem Q2{x:List (Int×Int×Int×Int×Int×Int)}(hx:I6 x)(s0:F8):∀n i (many:Nat) (l:List Ac) (s:F8),i<=8->8<n+i->SV s.1 s.2->l.length=i->(∀a∈l,FA a)->many=(C4 s0 l).1->(many=i->C4 s0 l=(i,some s))->∃(m':Nat)(l':List Ac),Db N x n (many:Int) (i:Nat) l s.1 s.2=some ((m':Int),l')/\l'.length<=8/\(∀a∈l',FA a)/\m'=(C4 s0 l').1
 |0,i,many,l,s,h1,h2,_,_,_,_,_=>by omega
 |n+1,i,many,l,s,h1,h2,h3,h4,h5,h6,h7=>by
  rw[Db];by_cases c:i<x.length/\i<8
  ·have hr:=hx _ (y7 c.1);rw[Dq c.1,Bool.true_and,aA (p:=(i:Int)<8) (by omega),cT,M4,dQ c.1,bS];generalize x[i]=r at hr;obtain⟨a,b,c1,d,e,g⟩:=r;simp only at hr⊢;have ml:=h3.2.len;obtain⟨f,ms⟩:=s;obtain⟨y,hy,fy⟩:=fT hN h3 hr.1 hr.2.1 hr.2.2.1 hr.2.2.2.1 hr.2.2.2.2.1 hr.2.2.2.2.2;have rl:=NF l s0;have f5:∀z∈l++[y],FA z:=λz hz=>by
    rcases fU.1 hz with hz|hz
    ·exact h5 z hz
    ·rw[tJ.1 hz];exact fy
   have ap:=Px l [y] s0;have no:many≠i->(C4 s0 (l++[y])).1=many:=λhne=>by
    rw[ap];rcases hq:C4 s0 l with⟨q,_|t⟩
    ·rw[hq]at h6;exact h6.symm
    ·rw[hq]at rl h6;have:=rl.2.1 rfl;simp only at this h6;omega
   have yes:many=i->(C4 s0 (l++[y]))=(match Ig (f,ms) y with|none=>(i,none)|some t=>(i+1,some t)):=λhe=>by rw[ap,h7 he];show(i+(C4 (f,ms) [y]).1,(C4 (f,ms) [y]).2)=_;rw[C4];cases Ig (f,ms) y<;>rfl
   obtain⟨x1,⟨x2,x3,x4,x5,x6,x7⟩,x8,x9,x10,⟨eI,x12,x13,rI,Ud⟩⟩:=y;have ll:(l++[(x1,(x2,x3,x4,x5,x6,x7),x8,x9,x10,(eI,x12,x13,rI,Ud))]).length=i+1:=by simp[h4]
   rw[hy,bS];simp only;rw[Ae (by omega),qG hN _ _ _ _ _ _ _ _ _ _ _ _ _ _ h9 (show ms.length<=1000 by have:ms.length<=20:=ml;omega),bS];cases cs:Ig (f,ms) (x1,(x2,x3,x4,x5,x6,x7),x8,x9,x10,eI,x12,x13,rI,Ud)with
   |none=>
    simp only[IM];rw[A1 _ (by simp),Ae (by unfold Af;omega),<-ns];refine Q2 hx s0 n (i+1) many _ (f,ms) (by omega) (by omega) h3 ll f5 ?_ (λhe=>by omega);by_cases he:many=i
    ·rw[yes he,cs];exact he
    ·exact(no he).symm
   |some t=>
    simp only[IM];have ht:=(Vj cs).2.2.2;rw[AU _ (by simp)];by_cases he:many=i
    ·rw[AU _ (by simp;omega),Ae (by unfold Af;omega),Ae (by unfold Af;omega),<-ns,<-ns];exact Q2 hx s0 n (i+1) (many+1) _ t (by omega) (by omega) ht ll f5 (by rw[yes he,cs,he]) (λ_=>by rw[yes he,cs])
    ·rw[A1 _ (by simp;omega),Ae (by unfold Af;omega),<-ns];exact Q2 hx s0 n (i+1) many _ t (by omega) (by omega) ht ll f5 (no he).symm (λh=>by omega)
  ·rw[A1 _ (by rw[vF,bK,bK];omega)];exact⟨many,l,rfl,by omega,h5,h6⟩
theorem AbC{x1:List (Int×Int×Int×Int×Int×Int)}{x2:List (Int×Int×Int×Int)}{x3:List (Int×Int×Int×Int×Int×Int)}(h3:I6 x3){f:List Un}{ms:List Mk}(hm:Dp N x1 x2 x3=some (f,ms))(h:SV f ms):∃l:List Ac,GA N x1 x2 x3=some (l,((C4 (f,ms) l).1:Int))/\l.length<=8/\∀a∈l,FA a:=by obtain⟨m',l',e,h1,h2,h4⟩:=Q2 hN h9 h3 (f,ms) N 0 0 [] (f,ms) (by omega) (by omega) h rfl (by simp) (by rw[C4]) (λ_=>by rw[C4]);rw[iW]at e;refine⟨l',?_,h1,h2⟩;unfold GA;simp only at e;rw[hm,bS];simp only;rw[e,bS,h4]
end
