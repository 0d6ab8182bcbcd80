import Derived.Test.YtjdchfljifacoaaGreatMF
set_option linter.all false
set_option maxRecDepth 100000
set_option maxHeartbeats 8000000
noncomputable section
namespace Go.Proofs.YtjdchfljifacoaaGreat.Am
section
abbrev F8:=List Un×List Mk
def I2(id:Int)(m:Mk):Bool:=decide (m.2.1≠id)
def TF(id:Int)(b:Bool)(m:Mk):Mk:=if m.1=id then(m.1,m.2.1,m.2.2.1,m.2.2.2.1,b)else m
def Hx(ms:List Mk)(m:Mk):List Mk:=(ms.filter λx=>decide (x.1<m.1))++m::ms.filter λx=>decide (m.1<=x.1)
def Ia(u:Un)(l:List Pt):Un:=(u.1,u.2.1,u.2.2.1,l,u.2.2.2.2.1,u.2.2.2.2.2)
def Ps(u:Un)(j:Int):Un:=(j,u.2.1,u.2.2.1,u.2.2.2.1,u.2.2.2.2.1,u.2.2.2.2.2)
def Ka(l:List Pt)(i k:Int):List Pt×List Pt×Int:=if i<l.length/\k<l.length then Tq l i.toNat k.toNat else([],[],70)
def S5(d:Pt)(u:Un):Un:=(u.1,u.2.1,u.2.2.1,u.2.2.2.1.map (mv d),u.2.2.2.2.1,u.2.2.2.2.2)
def Xk(d:Pt)(u:Un):Prop:=∀p∈u.2.2.2.1,On (mv d p)
noncomputable instance(d:Pt)(u:Un):Decidable (Xk d u):=Classical.propDecidable _
open Classical in
def It(s:F8)(a:Ac):Option F8:=
 if a.1=1 then(if Fit s.1 a.2.1 then some (Gm s.1 a.2.1,s.2)else none)else
 if a.1=2 then(if∃u∈s.1,u.1=a.2.2.1 then some (EZ s.1 a.2.2.1,s.2.filter (I2 a.2.2.1))else none)else
 if a.1=3 then(match s.1.find? (λu=>decide (u.1=a.2.2.1))with
  |none=>none
  |some u=>
   let c:=Ka u.2.2.2.1 a.2.2.2.1 a.2.2.2.2.1
   let v:=Ia u c.1
   let w:=Ps (Ia u c.2.1) a.2.1.1
   if c.2.2=0/\Fit (EZ s.1 a.2.2.1) v/\Fit (Gm (EZ s.1 a.2.2.1) v) w then some (Gm (Gm (EZ s.1 a.2.2.1) v) w,s.2.filter (I2 a.2.2.1))else none)else
 if a.1=4 then(match s.1.find? (λu=>decide (u.1=a.2.2.1))with
  |none=>none
  |some u=>if Xk (a.2.2.2.1,a.2.2.2.2.1) u/\Fit (EZ s.1 a.2.2.1) (S5 (a.2.2.2.1,a.2.2.2.2.1) u)then some (Gm (EZ s.1 a.2.2.1) (S5 (a.2.2.2.1,a.2.2.2.2.1) u),s.2)else none)else
 if a.1=5 then(if∃m∈s.2,m.1=a.2.2.2.2.2.1 then none else some (s.1,Hx s.2 a.2.2.2.2.2))else
 if∃m∈s.2,m.1=a.2.2.1/\m.2.2.2.2≠decide (a.1=7)then some (s.1,s.2.map (TF a.2.2.1 (decide (a.1=7))))else none
open Classical in
theorem Abq(f:List Un)(ms:List Mk)(u:Un)(id i k:Int)(m:Mk):It (f,ms) (1,u,id,i,k,m)=if Fit f u then some (Gm f u,ms)else none:=by unfold It;exact fU rfl
open Classical in
theorem Abr(f:List Un)(ms:List Mk)(u:Un)(id i k:Int)(m:Mk):It (f,ms) (2,u,id,i,k,m)=if∃u∈f,u.1=id then some (EZ f id,ms.filter (I2 id))else none:=by unfold It;exact(eG (show¬((2:Int)=1) by decide)).trans (fU rfl)
open Classical in
theorem Abs(f:List Un)(ms:List Mk)(w:Un)(id i k:Int)(m:Mk):It (f,ms) (3,w,id,i,k,m)=(match f.find? (λu=>decide (u.1=id))with
  |none=>none
  |some u=>if(Ka u.2.2.2.1 i k).2.2=0/\Fit (EZ f id) (Ia u (Ka u.2.2.2.1 i k).1)/\Fit (Gm (EZ f id) (Ia u (Ka u.2.2.2.1 i k).1)) (Ps (Ia u (Ka u.2.2.2.1 i k).2.1) w.1)then some (Gm (Gm (EZ f id) (Ia u (Ka u.2.2.2.1 i k).1)) (Ps (Ia u (Ka u.2.2.2.1 i k).2.1) w.1),ms.filter (I2 id))else none):=by
 unfold It;exact(eG (show¬((3:Int)=1) by decide)).trans ((eG (show¬((3:Int)=2) by decide)).trans (fU rfl))
open Classical in
theorem Abt(f:List Un)(ms:List Mk)(w:Un)(id i k:Int)(m:Mk):It (f,ms) (4,w,id,i,k,m)=(match f.find? (λu=>decide (u.1=id))with
  |none=>none
  |some u=>if Xk (i,k) u/\Fit (EZ f id) (S5 (i,k) u)then some (Gm (EZ f id) (S5 (i,k) u),ms)else none):=by
 unfold It;exact(eG (show¬((4:Int)=1) by decide)).trans ((eG (show¬((4:Int)=2) by decide)).trans ((eG (show¬((4:Int)=3) by decide)).trans (fU rfl)))
open Classical in
theorem Abu(f:List Un)(ms:List Mk)(w:Un)(id i k:Int)(m:Mk):It (f,ms) (5,w,id,i,k,m)=if∃x∈ms,x.1=m.1 then none else some (f,Hx ms m):=by unfold It;exact(eG (show¬((5:Int)=1) by decide)).trans ((eG (show¬((5:Int)=2) by decide)).trans ((eG (show¬((5:Int)=3) by decide)).trans ((eG (show¬((5:Int)=4) by decide)).trans (fU rfl))))
open Classical in
theorem Abv(f:List Un)(ms:List Mk)(w:Un)(id i k:Int)(m:Mk):It (f,ms) (6,w,id,i,k,m)=if∃x∈ms,x.1=id/\x.2.2.2.2≠false then some (f,ms.map (TF id false))else none:=by unfold It;exact(eG (show¬((6:Int)=1) by decide)).trans ((eG (show¬((6:Int)=2) by decide)).trans ((eG (show¬((6:Int)=3) by decide)).trans ((eG (show¬((6:Int)=4) by decide)).trans (eG (show¬((6:Int)=5) by decide)))))
open Classical in
theorem Abw(f:List Un)(ms:List Mk)(w:Un)(id i k:Int)(m:Mk):It (f,ms) (7,w,id,i,k,m)=if∃x∈ms,x.1=id/\x.2.2.2.2≠true then some (f,ms.map (TF id true))else none:=by unfold It;exact(eG (show¬((7:Int)=1) by decide)).trans ((eG (show¬((7:Int)=2) by decide)).trans ((eG (show¬((7:Int)=3) by decide)).trans ((eG (show¬((7:Int)=4) by decide)).trans (eG (show¬((7:Int)=5) by decide)))))
def Ig(s:F8)(a:Ac):Option F8:=if SV s.1 s.2/\FA a then(match It s a with|some t=>if MV t.1 t.2 then some t else none|none=>none)else none
def IM(o:Option F8):F8×Int:=match o with|some t=>(t,0)|none=>(([],[]),170)
theorem LB{s:F8}{a:Ac}(h:SV s.1 s.2)(f:FA a):Ig s a=(match It s a with|some t=>if MV t.1 t.2 then some t else none|none=>none):=fU ⟨h,f⟩
theorem Mm{s:F8}{a:Ac}(f:¬FA a):Ig s a=none:=eG λh=>f h.2
theorem Uz(N:Nat){l:List Pt}(hl:l.length<=1000){i k:Nat}(hi:i<l.length)(hk:k<l.length):∀(n t:Nat),t<=Eb l.length i k->Eb l.length i k<n+t->ED N k l n (((i+t)%l.length:Nat):Int) (Dc l i t)=some (Dc l i (Eb l.length i k))
 |0,t,h1,h2=>by omega
 |n+1,t,h1,h2=>by
  rw[ED];have hs:=SO (i:=i) (k:=k) (show 0<l.length by omega);have ha:=Nx hi hk;by_cases e:t=Eb l.length i k
  ·subst e;rw[ha,A1 _ (by simp)]
  ·have hne:(i+t)%l.length≠k:=λq=>e (L4 (by omega) hs (by rw[q,ha]))
   have hm:(i+t)%l.length<l.length:=t6 _ (by omega);rw[AU _ (aB (by omega)),Ae (by unfold Af;omega),Ae (by omega),Nw,F1 (t6 _ (by omega)),bS];simp only;rw[Ae (by rw[By];omega)];have e2:[((pa l (((i+t)%l.length+1)%l.length)).1,(pa l (((i+t)%l.length+1)%l.length)).2)]=[qa l (i+t+1)]:=by unfold qa;rw[HG]
   rw[e2,jZ,HG];exact Uz N hl hi hk n (t+1) (by omega) (by omega)
theorem YY{N:Nat}(hN:100<=N){l:List Pt}(hl:l.length<=50){i k:Nat}(hi:i<l.length)(hk:k<l.length):Fx N l i k=some (Dc l i (Eb l.length i k)):=by
 unfold Fx;have hs:=SO (i:=i) (k:=k) (show 0<l.length by omega);have:=Uz N (by omega) hi hk N 0 (by omega) (by omega);rw[F4,tL hi]at this;have e:Dc l i 0=[((pa l i).1,(pa l i).2)]:=by unfold Dc;simp[GL hi]
 rw[e]at this;rw[F1 hi,bS];simp only;rw[this,bS]
theorem uL{N:Nat}(hN:100<=N){l:List Pt}(h:VP l){i k:Nat}(hi:i<l.length)(hk:k<l.length):EX N l i k=some (Tq l i k):=by
 unfold EX Tq;have l8:=h.l8;rw[F7 hN,Li.2 h,bS,A1 _ (by simp;omega),YY hN (by omega) hi hk,bS,YY hN (by omega) hk hi,bS,By,By];by_cases hc:Eb l.length i k<2\/Eb l.length k i<2
 ·rw[fU hc,AU _ (by simp;omega)]
 ·rw[eG hc,A1 _ (by rw[u0];simp;omega)]
open Classical in
theorem qE{N:Nat}(hN:100<=N){u:Un}(h:UV u){d:Pt}(hd:Qg d):FR N u.1 u.2.1 u.2.2.1 u.2.2.2.1 u.2.2.2.2.1 u.2.2.2.2.2 d.1 d.2=some (if Xk d u then(S5 d u,0)else(PE,80)):=by
 unfold FR;rw[YJ hN h.l hd,mT hN h];by_cases ho:Xk d u
 ·have ho':∀p∈u.2.2.2.1,On (mv d p):=ho;rw[fU ho,fU ho',bS];simp only;rw[BR (λ_=>mU),A1 _ (by rfl)];rfl
 ·have ho':¬∀p∈u.2.2.2.1,On (mv d p):=ho;rw[eG ho,eG ho',bS];simp only;rw[BR (λ_=>mU),AU _ (by rfl)];rfl
theorem FV.lens{f:List Un}(h:FV f):∀u∈f,u.2.2.2.1.length<=8:=λu hu=>(h.val u hu).l.l8
section
variable{N:Nat}(hN:1001<=N)
include hN
theorem Xl{f:List Un}(h:FV f):∀n k,k<=f.length->f.length<n+k->EC N f n (k:Nat) (f.take k)=some f
 |0,k,h1,h2=>by omega
 |n+1,k,h1,h2=>by
  rw[EC];by_cases e:k<f.length
  ·have hl:=h.len;rw[Dq e,cT,Fs e,bS];simp only;rw[Po (h.val _ (FH e)),bS,Ae (by rw[u9];omega),Ae (by unfold Af;omega),<-ns];have:=Xl h n (k+1) (by omega) (by omega);rw[KZ e]at this;exact this
  ·have e3:k=f.length:=by omega
   subst e3;rw[F2,cF,ID]
theorem LC{f:List Un}(h:FV f):Ge N f=some f:=by have hl:=h.len;have:=Xl hN h N 0 (by omega) (by omega);rw[List.take_zero,oL]at this;exact this
omit hN in
theorem YZ{L:Nat->Int->Option (Sum Unit Int)}{ms:List Mk}(p:Mk->Bool)(hl:ms.length<N)(h1:∀n (k:Nat),k<ms.length->p (Bi ms k)=false->L (n+1) k=L n ((k+1:Nat):Int))(h2:∀n (k:Nat),k<ms.length->p (Bi ms k)=true->L (n+1) k=some (.inr (k:Int)))(h3:∀n,L (n+1) ms.length=some (.inl ())):(L N 0=some (.inl ())/\∀m∈ms,p m=false)\/∃k:Nat,k<ms.length/\p (Bi ms k)=true/\(∀i,i<k->p (Bi ms i)=false)/\L N 0=some (.inr (k:Int)):=by
 have F:=GK (L:=L) (len:=ms.length) (λk=>bif p (Bi ms k)then some (k:Int)else none) (λn k hk e=>h1 n k hk (by cases c:p (Bi ms k)with|true=>rw[c,cT]at e;cases e|false=>rfl)) (λn k r hk e=>?_) h3 N hl
 ·rcases F with⟨e,h⟩|⟨j,r,hj,h,h4,e⟩
  ·refine .inl ⟨e,λm hm=>?_⟩;obtain⟨k,hk,rfl⟩:=Ml hm;have:=h k hk;cases c:p (Bi ms k)with
   |true=>rw[c,cT]at this;cases this
   |false=>rfl
  ·cases c:p (Bi ms j)with
   |false=>rw[c,cF]at h;cases h
   |true=>
    rw[c,cT]at h;cases h
    refine .inr ⟨j,hj,c,λi hi=>?_,e⟩;have:=h4 i hi;cases c:p (Bi ms i)with
    |true=>rw[c,cT]at this;cases this
    |false=>rfl
 ·cases c:p (Bi ms k)with
  |true=>rw[c,cT]at e;cases e;exact h2 n k hk c
  |false=>rw[c,cF]at e;cases e
omit hN in
theorem fN{ms:List Mk}(id:Int)(hl:ms.length<N)(h9:N<=100000):(Bt N ms id=some (-1)/\∀m∈ms,m.2.1≠id)\/∃k:Nat,k<ms.length/\(Bi ms k).2.1=id/\(∀i,i<k->(Bi ms i).2.1≠id)/\Bt N ms id=some (k:Int):=by
 unfold Bt;have F:=YZ (N:=N) (L:=Bc N ms id) (ms:=ms) (λm=>decide (m.2.1=id)) hl (λn k hk e=>by
   rw[Bc,Dq hk,cT,E7 hk,bS];simp only;rw[CF,bS,e,cF,Ae (by unfold Af;omega),ns]) (λn k hk e=>by
   rw[Bc,Dq hk,cT,E7 hk,bS];simp only;rw[CF,bS,e,cT]) (λn=>by rw[Bc,F2,cF])
 rcases F with⟨e,h⟩|⟨k,hk,h1,h2,e⟩
 ·rw[e,bS];exact .inl ⟨rfl,λm hm=>of_decide_eq_false (h m hm)⟩
 ·rw[e,bS];exact .inr ⟨k,hk,of_decide_eq_true h1,λi hi=>of_decide_eq_false (h2 i hi),rfl⟩
omit hN in
theorem fO{ms:List Mk}(id:Int)(hl:ms.length<N)(h9:N<=100000):(Bu N ms id=some (-1)/\∀m∈ms,m.1≠id)\/∃k:Nat,k<ms.length/\(Bi ms k).1=id/\(∀i,i<k->(Bi ms i).1≠id)/\Bu N ms id=some (k:Int):=by
 unfold Bu;have F:=YZ (N:=N) (L:=Bd N ms id) (ms:=ms) (λm=>decide (m.1=id)) hl (λn k hk e=>by
   rw[Bd,Dq hk,cT,E7 hk,bS];simp only;rw[GW,bS,e,cF,Ae (by unfold Af;omega),ns]) (λn k hk e=>by
   rw[Bd,Dq hk,cT,E7 hk,bS];simp only;rw[GW,bS,e,cT]) (λn=>by rw[Bd,F2,cF])
 rcases F with⟨e,h⟩|⟨k,hk,h1,h2,e⟩
 ·rw[e,bS];exact .inl ⟨rfl,λm hm=>of_decide_eq_false (h m hm)⟩
 ·rw[e,bS];exact .inr ⟨k,hk,of_decide_eq_true h1,λi hi=>of_decide_eq_false (h2 i hi),rfl⟩
omit hN in
theorem Vi{ms:List Mk}{i:Nat}(hi:i<ms.length):ms.take (i+1)=ms.take i++[Bi ms i]:=by rw[FJ hi,List.take_append_getElem]
omit hN in
theorem mV{ms l:List Mk}{j:Nat}(hj:j<ms.length)(hl:l.length=ms.length)(e:l.drop j=ms.drop j):Bi l j=Bi ms j:=by rw[FJ hj,FJ (by omega)];have h1:=pA (l:=l) (i:=j) (by omega);have h2:=pA (l:=ms) (i:=j) hj;rw[h1,h2]at e;exact(List.cons.inj e).1
omit hN in
theorem Q1{L:Nat->Int->Int->List Mk->Option (Int×List Mk)}{ms:List Mk}{id:Int}(g1:∀n (i j:Nat) (l:List Mk),i<=j->j<l.length->l.length=ms.length->(Bi l j).2.1≠id->L (n+1) i j l=L n ((i+1:Nat):Int) ((j+1:Nat):Int) (l.set i (Bi l j)))(g2:∀n (i j:Nat) (l:List Mk),i<=j->j<l.length->l.length=ms.length->(Bi l j).2.1=id->L (n+1) i j l=L n i ((j+1:Nat):Int) l)(g3:∀n (i:Nat) (l:List Mk),L (n+1) i (l.length:Nat) l=some ((i:Int),l)):∀n (i j:Nat) (l:List Mk),i<=j->j<=ms.length->ms.length<n+j->l.length=ms.length->l.take i=(ms.take j).filter (I2 id)->l.drop j=ms.drop j->∃(i':Nat)(l':List Mk),L n i j l=some ((i':Int),l')/\i'<=l'.length/\l'.length=ms.length/\l'.take i'=ms.filter (I2 id)
 |0,i,j,l,h1,h2,h3,h4,h5,h6=>by omega
 |n+1,i,j,l,h1,h2,h3,h4,h5,h6=>by
  by_cases e:j<ms.length
  ·have hm:=mV e h4 h6;by_cases c:(Bi ms j).2.1=id
   ·rw[g2 n i j l h1 (by omega) h4 (by rw[hm];exact c)];refine Q1 g1 g2 g3 n i (j+1) l (by omega) (by omega) (by omega) h4 ?_ ?_
    ·rw[Vi e,yR,h5];have:[Bi ms j].filter (I2 id)=[]:=by simp[I2,c]
     rw[this,sF]
    ·have:=congrArg (List.drop 1) h6;rw[List.drop_drop,List.drop_drop]at this;exact this
   ·rw[g1 n i j l h1 (by omega) h4 (by rw[hm];exact c)];refine Q1 g1 g2 g3 n (i+1) (j+1) (l.set i (Bi l j)) (by omega) (by omega) (by omega) (by rw[List.length_set];exact h4) ?_ ?_
    ·rw[Vi e,yR,<-h5,hm];have:[Bi ms j].filter (I2 id)=[Bi ms j]:=by simp[I2,c]
     rw[this,List.take_succ_eq_append_getElem (by rw[List.length_set];omega),List.getElem_set_self,List.take_set_of_le (jW _)]
    ·have:=congrArg (List.drop 1) h6;rw[List.drop_drop,List.drop_drop]at this;rw[List.drop_set_of_lt (by omega)];exact this
  ·have e3:j=l.length:=by omega
   subst e3;rw[g3];refine⟨i,l,rfl,h1,h4,?_⟩;rw[h5,h4,ID]
variable(h9:N<=100000)
include h9
variable(a b c p q id i k m1 m2 m3 m4:Int)(l:List Pt)(o:Bool)
omit hN h9 in
theorem NE{f:List Un}{ms:List Mk}(h:MV f ms):ms.length<=20:=h.len
omit hN h9 in
theorem RW(ms:List Mk)(p:Mk->Bool):(ms.filter p).length<=ms.length:=List.length_filter_le _ _
theorem J6{f:List Un}(hf:FV f){ms:List Mk}(hl:ms.length<=1000):((CV N f ms).bind λr=>bif !r then some ((([]:List Un),([]:List Mk)),(170:Int))else(Ge N f).bind λu=>gd (ms.length*40<=140737488355328)<|some ((u,ms),0))=some (IM (if MV f ms then some (f,ms)else none)):=by
 rw[Uy hN hf hl,bS];by_cases c:MV f ms
 ·rw[aB c,A1 _ (by rfl),fU c,LC hN hf,bS,Ae (by omega)];rfl
 ·rw[bJ c,AU _ (by rfl),eG c];rfl
theorem AcV{f:List Un}{ms:List Mk}(h:SV f ms):IU N f ms a b c l p q id i k m1 m2 m3 m4 o=some (IM (Ig (f,ms) (1,(a,b,c,l,p,q),id,i,k,(m1,m2,m3,m4,o)))):=by
 have hl:=NE h.2;unfold IU;rw[Z3 hN,bS];by_cases fa:FA (1,(a,b,c,l,p,q),id,i,k,(m1,m2,m3,m4,o))
 ·rw[aB fa,A1 _ (by rfl),LB h fa,LC hN h.1,bS,Ae (by omega)];have:=Vh hN f (a,b,c,l,p,q);simp only at this;rw[this,bS];rw[Abq];by_cases t:Fit f (a,b,c,l,p,q)
  ·rw[fU t,fU t];simp only;rw[A1 _ (by rfl)];exact J6 hN h9 t.fv (by omega)
  ·rw[eG t,eG t];simp only;rw[AU _ (by rfl)];rfl
 ·rw[bJ fa,AU _ (by rfl),Mm fa];rfl
omit hN h9 in
theorem RX{ms:List Mk}(h:∀m∈ms,m.2.1≠id):ms.filter (I2 id)=ms:=by rw[Jb];intro m hm;unfold I2;rw[bK];exact h m hm
omit hN h9 in
theorem fP{ms:List Mk}{k:Nat}(hk:k<ms.length)(h1:(Bi ms k).2.1=id)(h2:∀i,i<k->(Bi ms i).2.1≠id):ms.take k=(ms.take (k+1)).filter (I2 id):=by
 rw[Vi hk,yR];have e1:[Bi ms k].filter (I2 id)=[]:=by simp[I2,h1]
 rw[e1,sF,RX];intro m hm;obtain⟨j,hj,rfl⟩:=List.mem_iff_getElem.1 hm;rw[u9]at hj;rw[List.getElem_take,<-FJ (by omega)];exact h2 j (by omega)
theorem AcW{f:List Un}{ms:List Mk}(h:SV f ms):IV N f ms a b c l p q id i k m1 m2 m3 m4 o=some (IM (Ig (f,ms) (2,(a,b,c,l,p,q),id,i,k,(m1,m2,m3,m4,o)))):=by
 have hl:=NE h.2;have fl:=RW ms (I2 id);unfold IV;rw[Z4 hN,bS];by_cases fa:FA (2,(a,b,c,l,p,q),id,i,k,(m1,m2,m3,m4,o))
 ·rw[aB fa,A1 _ (by rfl),LB h fa,LC hN h.1,bS,Ae (by omega),kN hN f id,bS];rw[Abr];by_cases t:∃u∈f,u.1=id
  ·rw[fU ⟨h.1,t⟩,fU t];simp only;have rv:FV (EZ f id):=h.1.sub List.filter_sublist;rw[A1 _ (by rfl)];rcases fN id (ms:=ms) (N:=N) (by omega) h9 with⟨e,g⟩|⟨k,hk,g1,g2,e⟩
   ·rw[e,bS,AU _ (by rfl),RX id g];exact J6 hN h9 rv (by omega)
   ·rw[e,bS,A1 _ (by rw[cY];omega),Ae (by unfold Af;omega)];obtain⟨i',l',e1,e2,e3,e4⟩:=Q1 (L:=D8 N id) (ms:=ms) (id:=id) (λn i j l h1 h2 h4 h3=>by
      rw[D8,Dq h2,cT,E7 h2,bS];simp only;rw[CF,bS,bJ h3,AU _ (by rfl),E7 (by omega),bS];rw[Ae (by unfold Af;omega),Ae (by unfold Af;omega),ns,ns,t9]) (λn i j l h1 h2 h4 h3=>by
      rw[D8,Dq h2,cT,E7 h2,bS];simp only;rw[CF,bS,aB h3,A1 _ (by rfl),Ae (by unfold Af;omega),ns]) (λn i l=>by rw[D8,F2,cF]) N k (k+1) ms (by omega) (by omega) (by omega) rfl (fP id hk g1 g2) rfl
    rw[<-ns,e1,bS];simp only;rw[Ae (by omega),Ae (by simp only[nK,u9,List.length_replicate,t9];omega),t9,e4];exact J6 hN h9 rv (by omega)
  ·rw[eG (λw=>t w.2),eG t];simp only;rw[AU _ (by rfl)];rfl
 ·rw[bJ fa,AU _ (by rfl),Mm fa];rfl
omit hN h9 in
theorem mW{l:List Pt}(h:VP l){i k:Int}(hi:0<=i)(hk:0<=k)(hN:100<=N):Id N l i k=some (Ka l i k):=by
 unfold Ka;by_cases c:i<l.length/\k<l.length
 ·rw[fU c];have:=tI hN h (i:=i.toNat) (k:=k.toNat) (by omega) (by omega);rw[CY hi,CY hk]at this;exact this
 ·rw[eG c];unfold Id;rw[KT hN h,bS,AU _ (by simp;omega)]
omit hN h9 in
theorem fQ{l:List Pt}(h:VP l){i k:Int}(hi:0<=i)(hk:0<=k)(hN:100<=N):EX N l i k=some (Ka l i k):=by
 unfold Ka;by_cases c:i<l.length/\k<l.length
 ·rw[fU c];have:=uL hN h (i:=i.toNat) (k:=k.toNat) (by omega) (by omega);rw[CY hi,CY hk]at this;exact this
 ·rw[eG c];unfold EX;rw[F7 hN,Li.2 h,bS,AU _ (by simp;omega)]
omit hN h9 in
theorem OJ{f:List Un}(h:FV f)(t:Int):(f.find? (λu=>decide (u.1=t))=none/\Df f t=(PE,false)/\¬∃u∈f,u.1=t)\/∃u∈f,u.1=t/\f.find? (λu=>decide (u.1=t))=some u/\Df f t=(u,true):=by
 unfold Df;rw[fU h];by_cases c:∃u∈f,u.1=t
 ·obtain⟨u,hu,e⟩:=c;obtain⟨k,hk,rfl⟩:=Lm hu;right;refine⟨_,hu,e,?_⟩;rw[<-e,OE h hk];exact⟨rfl,rfl⟩
 ·left;rw[OF c];exact⟨rfl,rfl,c⟩
theorem AcX{f:List Un}{ms:List Mk}(h:SV f ms):IW N f ms a b c l p q id i k m1 m2 m3 m4 o=some (IM (Ig (f,ms) (3,(a,b,c,l,p,q),id,i,k,(m1,m2,m3,m4,o)))):=by
 have hl:=NE h.2;have fl:=RW ms (I2 id);unfold IW;rw[Z5 hN,bS];by_cases fa:FA (3,(a,b,c,l,p,q),id,i,k,(m1,m2,m3,m4,o))
 ·rw[aB fa,A1 _ (by rfl),LB h fa,LC hN h.1,bS,Ae (by omega),S4 hN,bS,Abs];have fb:=qB.1 fa;rcases OJ h.1 id with⟨e,e2,t⟩|⟨u,hu,t,e,e2⟩
  ·rw[e,e2];simp only;rw[A1 _ (by rfl)];rfl
  ·rw[e,e2];simp only;rw[AU _ (by rfl),mW (h.1.val u hu).l fb.2.2.2.1.1 fb.2.2.2.2.1.1 (by omega),bS];generalize Ka u.2.2.2.1 i k=z;obtain⟨z1,z2,z3⟩:=z;simp only;by_cases t3:z3=0
   ·subst t3;rw[A1 _ (by rfl),kN hN f id,bS,fU ⟨h.1,u,hu,t⟩];simp only;have rv:FV (EZ f id):=h.1.sub List.filter_sublist;rw[A1 _ (by rfl)];have a1:=Vh hN (EZ f id) (Ia u z1);have a2:=Vh hN (Gm (EZ f id) (Ia u z1)) (Ps (Ia u z2) a);unfold Ia at a1;unfold Ia Ps at a2⊢;simp only at a1 a2⊢;rcases fN id (ms:=ms) (N:=N) (by omega) h9 with⟨g0,g⟩|⟨k',hk,g1,g2,g0⟩
    ·rw[g0,bS,AU _ (by rfl),RX id g,a1,bS];by_cases t1:Fit (EZ f id) (u.1,u.2.1,u.2.2.1,z1,u.2.2.2.2.1,u.2.2.2.2.2)
     ·rw[fU t1];simp only;rw[A1 _ (by rfl),a2,bS];by_cases t2:Fit (Gm (EZ f id) (u.1,u.2.1,u.2.2.1,z1,u.2.2.2.2.1,u.2.2.2.2.2)) (a,u.2.1,u.2.2.1,z2,u.2.2.2.2.1,u.2.2.2.2.2)
      ·rw[fU t2,fU ⟨trivial,t1,t2⟩];simp only;rw[A1 _ (by rfl)];exact J6 hN h9 t2.fv (by omega)
      ·rw[eG t2,eG λw=>t2 w.2.2];simp only;rw[AU _ (by rfl)];rfl
     ·rw[eG t1,eG λw=>t1 w.2.1];simp only;rw[AU _ (by rfl)];rfl
    ·rw[g0,bS,A1 _ (by rw[cY];omega),Ae (by unfold Af;omega)];obtain⟨i',l',e1,e2,e3,e4⟩:=Q1 (L:=D9 N id) (ms:=ms) (id:=id) (λn i j l h1 h2 h4 h3=>by
       rw[D9,Dq h2,cT,E7 h2,bS];simp only;rw[CF,bS,bJ h3,AU _ (by rfl),E7 (by omega),bS];rw[Ae (by unfold Af;omega),Ae (by unfold Af;omega),ns,ns,t9]) (λn i j l h1 h2 h4 h3=>by
       rw[D9,Dq h2,cT,E7 h2,bS];simp only;rw[CF,bS,aB h3,A1 _ (by rfl),Ae (by unfold Af;omega),ns]) (λn i l=>by rw[D9,F2,cF]) N k' (k'+1) ms (by omega) (by omega) (by omega) rfl (fP id hk g1 g2) rfl
     rw[<-ns,e1,bS];simp only;rw[Ae (by omega),Ae (by simp only[nK,u9,List.length_replicate,t9];omega),t9,e4,a1,bS];by_cases t1:Fit (EZ f id) (u.1,u.2.1,u.2.2.1,z1,u.2.2.2.2.1,u.2.2.2.2.2)
     ·rw[fU t1];simp only;rw[A1 _ (by rfl),a2,bS];by_cases t2:Fit (Gm (EZ f id) (u.1,u.2.1,u.2.2.1,z1,u.2.2.2.2.1,u.2.2.2.2.2)) (a,u.2.1,u.2.2.1,z2,u.2.2.2.2.1,u.2.2.2.2.2)
      ·rw[fU t2,fU ⟨trivial,t1,t2⟩];simp only;rw[A1 _ (by rfl)];exact J6 hN h9 t2.fv (by omega)
      ·rw[eG t2,eG λw=>t2 w.2.2];simp only;rw[AU _ (by rfl)];rfl
     ·rw[eG t1,eG λw=>t1 w.2.1];simp only;rw[AU _ (by rfl)];rfl
   ·rw[bJ t3,AU _ (by rfl),eG λw=>t3 w.1];rfl
 ·rw[bJ fa,AU _ (by rfl),Mm fa];rfl
theorem AcY{f:List Un}{ms:List Mk}(h:SV f ms):IX N f ms a b c l p q id i k m1 m2 m3 m4 o=some (IM (Ig (f,ms) (4,(a,b,c,l,p,q),id,i,k,(m1,m2,m3,m4,o)))):=by
 have hl:=NE h.2;unfold IX;rw[Z6 hN,bS];by_cases fa:FA (4,(a,b,c,l,p,q),id,i,k,(m1,m2,m3,m4,o))
 ·rw[aB fa,A1 _ (by rfl),LB h fa,LC hN h.1,bS,Ae (by omega),S4 hN,bS,Abt];have fb:=qC.1 fa;rcases OJ h.1 id with⟨e,e2,t⟩|⟨u,hu,t,e,e2⟩
  ·rw[e,e2];simp only;rw[A1 _ (by rfl)];rfl
  ·rw[e,e2];simp only;have um:=qE (N:=N) (by omega) (h.1.val u hu) (d:=(i,k)) (by unfold Qg;omega);simp only at um;rw[AU _ (by rfl),um,bS];by_cases t3:Xk (i,k) u
   ·rw[fU t3];simp only;rw[A1 _ (by rfl),kN hN f id,bS,fU ⟨h.1,u,hu,t⟩];simp only;have a1:=Vh hN (EZ f id) (S5 (i,k) u);rw[A1 _ (by rfl),a1,bS];by_cases t1:Fit (EZ f id) (S5 (i,k) u)
    ·rw[fU t1,fU ⟨t3,t1⟩];simp only;rw[A1 _ (by rfl)];exact J6 hN h9 t1.fv (by omega)
    ·rw[eG t1,eG λw=>t1 w.2];simp only;rw[AU _ (by rfl)];rfl
   ·rw[eG t3,eG λw=>t3 w.1];simp only[PE];rw[AU _ (by rfl)];rfl
 ·rw[bJ fa,AU _ (by rfl),Mm fa];rfl
omit hN h9 in
theorem aA{f:List Un}{ms:List Mk}(h:MV f ms){i k:Nat}(hik:i<=k)(hk:k<ms.length):(Bi ms i).1<=(Bi ms k).1:=by
 by_cases e:i=k
 ·rw[e];omega
 ·have:=I1.1 h.srt i k (by omega) hk;omega
omit hN h9 in
theorem Abx(s:Nat)(h:s<60):IntKind.wrap .i64 (CW .shr .u64 (IntKind.wrap .u64 ((s:Nat):Int)) 1)=((s/2:Nat):Int):=YP s h
omit hN h9 in
theorem Aby(N:Nat)(x:Mk)(t:Int):F0 N x.1 x.2.1 x.2.2.1 x.2.2.2.1 x.2.2.2.2 t=some (if x.1<t then-1 else if t<x.1 then 1 else 0):=by unfold F0;rw[SM,bS]
omit hN h9 in
theorem TG(N:Nat){f:List Un}{ms:List Mk}(h:MV f ms)(t:Int):∀(n i j:Nat),i<=j->j<=ms.length->j<n+i->(∀k,k<i->(Bi ms k).1<t)->(∀k,j<=k->k<ms.length->t<=(Bi ms k).1)->∃r:Nat,AT N ms t n i j=some (r:Int)/\r<=ms.length/\(∀k,k<r->(Bi ms k).1<t)/\∀k,r<=k->k<ms.length->t<=(Bi ms k).1
 |0,i,j,h1,_,h3,_,_=>by omega
 |n+1,i,j,h1,h2,h3,h4,h5=>by
  have hl:=h.len;rw[AT];by_cases e:i=j
  ·subst e;rw[F2,cF];exact⟨i,rfl,h2,h4,h5⟩
  ·have hm:(i+j)/2<ms.length:=by omega
   rw[Dq (by omega),cT,Ae (by unfold Af;omega),<-Int.natCast_add,Abx _ (by omega),E7 hm,bS];simp only;rw[Aby,bS];by_cases c:(Bi ms ((i+j)/2)).1<t
   ·rw[fU c,AU _ (by rfl),Ae (by unfold Af;omega),<-ns];exact TG N h t n _ j (by omega) h2 (by omega) (λk hk=>by have:=aA h (i:=k) (k:=(i+j)/2) (by omega) hm;omega) h5
   ·rw[eG c,A1 _ (by split<;>rfl)];exact TG N h t n i _ (by omega) (by omega) (by omega) h4 (λk h6 h7=>by have:=aA h h6 h7;omega)
omit hN in
open Classical in
theorem AcZ{f:List Un}{ms:List Mk}(h:MV f ms)(t:Int)(hN:1001<=N):∃r:Nat,r<=ms.length/\ms.take r=(ms.filter λx=>decide (x.1<t))/\ms.drop r=(ms.filter λx=>decide (t<=x.1))/\BE N ms t=some ((r:Int),decide (∃x∈ms,x.1=t)):=by
 have hl:=h.len;obtain⟨r,e,h1,h2,h3⟩:=TG N h t N 0 ms.length (by omega) (by omega) (by omega) (λk hk=>by omega) (λk h1 h2=>by omega);rw[oL]at e;have tk:∀x∈ms.take r,x.1<t:=λx hx=>by obtain⟨j,hj,rfl⟩:=List.mem_iff_getElem.1 hx;rw[u9]at hj;rw[List.getElem_take,<-FJ (by omega)];exact h2 j (by omega)
 have dp:∀x∈ms.drop r,t<=x.1:=λx hx=>by obtain⟨j,hj,rfl⟩:=List.mem_iff_getElem.1 hx;rw[tD]at hj;rw[List.getElem_drop,<-FJ (by omega)];exact h3 (r+j) (by omega) (by omega)
 have sp:=y8 r ms;refine⟨r,h1,?_,?_,?_⟩
 ·rw[<-y8 r ms,yR,y8 r ms,Jb.2 λx hx=>aB (tk x hx),Jh.2 λx hx=>by rw[bK];have:=dp x hx;omega,sF]
 ·rw[<-y8 r ms,yR,y8 r ms,Jh.2 λx hx=>by rw[bK];have:=tk x hx;omega,Jb.2 λx hx=>aB (dp x hx),rA]
 ·unfold BE;have cm:=Aby N (Bi ms r) t;unfold Bi at cm;rw[e,bS,BR (λh=>by simp only[bK]at h;omega),t9,cm,BR (λ_=>mU),qO];congr 2;rw[Gv,bK,oK,bK,bK];constructor
  ·rintro⟨g1,g2⟩;refine⟨_,J5 (k:=r) (by omega),?_⟩;unfold Bi;split at g2
   ·omega
   ·split at g2<;>omega
  ·rintro⟨x,hx,e⟩;obtain⟨k,hk,rfl⟩:=Ml hx;have g1:r<=k:=by
    by_cases c:r<=k
    ·exact c
    ·have:=h2 k (by omega);omega
   have g2:=h3 r (jW _) (by omega);have g3:=aA h g1 hk;unfold Bi at g2 g3 e;refine⟨by omega,?_⟩;unfold Bi at*;rw[eG (by omega),eG (by omega)]
theorem Ac0{f:List Un}{ms:List Mk}(h:SV f ms):IY N f ms a b c l p q id i k m1 m2 m3 m4 o=some (IM (Ig (f,ms) (5,(a,b,c,l,p,q),id,i,k,(m1,m2,m3,m4,o)))):=by
 have hl:=NE h.2;unfold IY;rw[Z7 hN,bS];by_cases fa:FA (5,(a,b,c,l,p,q),id,i,k,(m1,m2,m3,m4,o))
 ·obtain⟨r,r1,r2,r3,r4⟩:=AcZ h9 h.2 m1 (by omega);rw[aB fa,A1 _ (by rfl),LB h fa,LC hN h.1,bS,Ae (by omega),r4,bS,Abu];simp only;by_cases t:∃x∈ms,x.1=m1
  ·rw[aB t,AU _ (by rfl),fU t];rfl
  ·rw[bJ t,A1 _ (by rfl),eG t,Ae (by omega),Ae (by omega),t9];have il:(ms.take r++[(m1,m2,m3,m4,o)]++ms.drop r).length=ms.length+1:=by simp only[nK,u9,tD,rB,yH];omega
   have ie:Hx ms (m1,m2,m3,m4,o)=ms.take r++[(m1,m2,m3,m4,o)]++ms.drop r:=by unfold Hx;rw[r2,r3,sG];rfl
   rw[ie];exact J6 hN h9 h.1 (by omega)
 ·rw[bJ fa,AU _ (by rfl),Mm fa];rfl
omit hN h9 in
theorem TH{f:List Un}{ms:List Mk}(h:MV f ms){k:Nat}(hk:k<ms.length)(b:Bool):ms.set k ((Bi ms k).1,(Bi ms k).2.1,(Bi ms k).2.2.1,(Bi ms k).2.2.2.1,b)=ms.map (TF (Bi ms k).1 b):=by
 refine List.ext_getElem (by rw[List.length_set,rC]) λj h1 h2=>?_
 rw[List.length_set]at h1;rw[List.getElem_map,List.getElem_set];unfold TF;rw[<-FJ h1];by_cases e:k=j
 ·subst e;rw[fU rfl,fU rfl]
 ·rw[eG e,eG];intro w;by_cases c:k<j
  ·have:=I1.1 h.srt k j c h1;omega
  ·have:=I1.1 h.srt j k (by omega) hk;omega
theorem Ac1{f:List Un}{ms:List Mk}(h:SV f ms):IZ N f ms a b c l p q id i k m1 m2 m3 m4 o=some (IM (Ig (f,ms) (6,(a,b,c,l,p,q),id,i,k,(m1,m2,m3,m4,o)))):=by
 have hl:=NE h.2;unfold IZ;rw[Z8 hN,bS];by_cases fa:FA (6,(a,b,c,l,p,q),id,i,k,(m1,m2,m3,m4,o))
 ·rw[aB fa,A1 _ (by rfl),LB h fa,LC hN h.1,bS,Ae (by omega),Abv];rcases fO id (ms:=ms) (N:=N) (by omega) h9 with⟨e,g⟩|⟨k',hk,g1,g2,e⟩
  ·rw[e,bS,BR (λh=>by cases h),BR (λh=>by cases h),show decide (0<=(-1:Int))=false from rfl,Bool.false_and,AU _ (by rfl),eG]
   ·rfl
   ·rintro⟨x,hx,e,_⟩;exact g x hx e
  ·rw[e,bS,Ae (λ_=>by omega),Ae (λ_=>by omega),aB (p:=(0:Int)<=(k':Int)) (by omega),Jy,t9,show(ms.getD k' (0,0,0,0,false))=Bi ms k' from rfl];by_cases t:(Bi ms k').2.2.2.2=false
   ·rw[t,AU _ (by rfl),eG]
    ·rfl
    ·rintro⟨x,hx,e,e2⟩;obtain⟨j,hj,rfl⟩:=Ml hx;have:j=k':=by
      apply IG;intro hne;by_cases c:k'<j
      ·have:=I1.1 h.2.srt k' j c hj;omega
      ·have:=I1.1 h.2.srt j k' (by omega) hk;omega
     subst this;exact e2 t
   ·rw[A1 _ (by rw[Bool.not_eq_false',bne_iff_ne];exact t),E7 hk,bS,fU ⟨_,J5 hk,g1,t⟩];simp only;rw[TH h.2 hk false,g1];exact J6 hN h9 h.1 (by rw[rC];omega)
 ·rw[bJ fa,AU _ (by rfl),Mm fa];rfl
theorem Ac2{f:List Un}{ms:List Mk}(h:SV f ms):I0 N f ms a b c l p q id i k m1 m2 m3 m4 o=some (IM (Ig (f,ms) (7,(a,b,c,l,p,q),id,i,k,(m1,m2,m3,m4,o)))):=by
 have hl:=NE h.2;unfold I0;rw[Z9 hN,bS];by_cases fa:FA (7,(a,b,c,l,p,q),id,i,k,(m1,m2,m3,m4,o))
 ·rw[aB fa,A1 _ (by rfl),LB h fa,LC hN h.1,bS,Ae (by omega),Abw];rcases fO id (ms:=ms) (N:=N) (by omega) h9 with⟨e,g⟩|⟨k',hk,g1,g2,e⟩
  ·rw[e,bS,BR (λh=>by cases h),BR (λh=>by cases h),show decide (0<=(-1:Int))=false from rfl,Bool.false_and,AU _ (by rfl),eG]
   ·rfl
   ·rintro⟨x,hx,e,_⟩;exact g x hx e
  ·rw[e,bS,Ae (λ_=>by omega),Ae (λ_=>by omega),aB (p:=(0:Int)<=(k':Int)) (by omega),Jy,t9,show(ms.getD k' (0,0,0,0,false))=Bi ms k' from rfl];by_cases t:(Bi ms k').2.2.2.2=true
   ·rw[t,AU _ (by rfl),eG]
    ·rfl
    ·rintro⟨x,hx,e,e2⟩;obtain⟨j,hj,rfl⟩:=Ml hx;have:j=k':=by
      apply IG;intro hne;by_cases c:k'<j
      ·have:=I1.1 h.2.srt k' j c hj;omega
      ·have:=I1.1 h.2.srt j k' (by omega) hk;omega
     subst this;exact e2 t
   ·rw[A1 _ (by rw[Bool.not_eq_false',bne_iff_ne];exact t),E7 hk,bS,fU ⟨_,J5 hk,g1,t⟩];simp only;rw[TH h.2 hk true,g1];exact J6 hN h9 h.1 (by rw[rC];omega)
 ·rw[bJ fa,AU _ (by rfl),Mm fa];rfl
theorem qF{f:List Un}{ms:List Mk}(h:SV f ms)(n:Int):JW N f ms n a b c l p q id i k m1 m2 m3 m4 o=some (IM (Ig (f,ms) (n,(a,b,c,l,p,q),id,i,k,(m1,m2,m3,m4,o)))):=by
 unfold JW;split;·subst n;exact AcV hN h9 _ _ _ _ _ _ _ _ _ _ _ _ _ _ h
 split;·subst n;exact AcW hN h9 _ _ _ _ _ _ _ _ _ _ _ _ _ _ h
 split;·subst n;exact AcX hN h9 _ _ _ _ _ _ _ _ _ _ _ _ _ _ h
 split;·subst n;exact AcY hN h9 _ _ _ _ _ _ _ _ _ _ _ _ _ _ h
 split;·subst n;exact Ac0 hN h9 _ _ _ _ _ _ _ _ _ _ _ _ _ _ h
 split;·subst n;exact Ac1 hN h9 _ _ _ _ _ _ _ _ _ _ _ _ _ _ h
 split;·subst n;exact Ac2 hN h9 _ _ _ _ _ _ _ _ _ _ _ _ _ _ h
 unfold Kz;have hh:¬FA (n,(a,b,c,l,p,q),id,i,k,(m1,m2,m3,m4,o)):=fM (by omega);rw[Xj hN _ _ _ _ _ _ _ _ _ _ _ _ _ _ (by omega),bS,bJ hh,Ae rfl,Mm hh];rfl
theorem AgW{f:List Un}{ms:List Mk}(hl:ms.length<=1000)(n:Int):CZ N f ms n a b c l p q id i k m1 m2 m3 m4 o=some (IM (Ig (f,ms) (n,(a,b,c,l,p,q),id,i,k,(m1,m2,m3,m4,o)))):=by
 unfold CZ;rw[fL hN f hl,bS];by_cases h:SV f ms
 ·rw[aB h,A1 _ (by rfl),qF hN h9 _ _ _ _ _ _ _ _ _ _ _ _ _ _ h,bS]
 ·rw[bJ h,AU _ (by rfl),show Ig (f,ms) (n,(a,b,c,l,p,q),id,i,k,(m1,m2,m3,m4,o))=none from eG λw=>h w.1];rfl
end
end
open Go
attribute [local irreducible] Ax BO BB Bj BC Bk AY BD BK Cq
