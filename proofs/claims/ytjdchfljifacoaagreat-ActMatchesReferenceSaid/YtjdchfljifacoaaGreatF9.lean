import Derived.Test.YtjdchfljifacoaaGreatF5
set_option linter.all false
set_option maxRecDepth 100000
set_option maxHeartbeats 8000000
noncomputable section
namespace Go.Proofs.YtjdchfljifacoaaGreat.Am
section
def UV(u:Un):Prop:=UP u.1 u.2.1 u.2.2.1 u.2.2.2.1 u.2.2.2.2.1 u.2.2.2.2.2
def WV(u:Un):Bool:=Ji u.1 u.2.1 u.2.2.1 u.2.2.2.2.1 u.2.2.2.2.2&&vB u.2.2.2.1
theorem Ve{u:Un}:WV u=true↔UV u:=Is
def WW(u v:Un):Bool:=TE u.1 u.2.1 u.2.2.1 u.2.2.2.1 u.2.2.2.2.1 u.2.2.2.2.2 v.1 v.2.1 v.2.2.1 v.2.2.2.1 v.2.2.2.2.1 v.2.2.2.2.2
open Classical in
def Hv(u v:Un):Bool:=WW u v&&decide (¬apart u.2.2.2.1 v.2.2.2.1)
theorem Vf{u v:Un}:WW u v=true↔(max u.2.2.2.2.1 v.2.2.2.2.1<min u.2.2.2.2.2 v.2.2.2.2.2)/\UV u/\UV v:=by unfold WW TE UV;rw[nK,nK,bK,Is,Is,and_assoc]
open Classical in
theorem oU{u v:Un}:Hv u v=true↔((max u.2.2.2.2.1 v.2.2.2.2.1<min u.2.2.2.2.2 v.2.2.2.2.2)/\UV u/\UV v)/\¬apart u.2.2.2.1 v.2.2.2.1:=by unfold Hv;rw[nK,Vf,bK]
theorem Pn(u v:Un):Hv u v=Hv v u:=by rw[IF,oU,oU,Int.max_comm,Int.min_comm,and_comm (a:=UV u),show apart u.2.2.2.1 v.2.2.2.1↔apart v.2.2.2.1 u.2.2.2.1 from⟨apart.symm,apart.symm⟩]
structure FV(f:List Un):Prop where
 len:f.length<=12
 val:∀u∈f,UV u
 srt:f.Pairwise λu v=>u.1<v.1
 dis:f.Pairwise λu v=>Hv u v=false
noncomputable instance(f:List Un):Decidable (FV f):=Classical.propDecidable _
def A2(f:List Un)(k:Nat):Un:=f.getD k (0,0,0,[],0,0)
theorem Fs{f:List Un}{k:Nat}(h:k<f.length):A7 f (k:Int)=some ((A2 f k).1,(A2 f k).2.1,(A2 f k).2.2.1,(A2 f k).2.2.2.1,(A2 f k).2.2.2.2.1,(A2 f k).2.2.2.2.2):=by rw[Ou (0,0,0,[],0,0) (by omega) (by omega),tK];rfl
theorem Fb{f:List Un}{k:Nat}(h:k<f.length):A2 f k=f[k]:=by grind[A2]
theorem FH{f:List Un}{k:Nat}(h:k<f.length):A2 f k∈f:=by rw[Fb h];exact by grind
theorem Lm{f:List Un}{u:Un}(h:u∈f):∃k,k<f.length/\A2 f k=u:=by obtain⟨k,hk,e⟩:=List.mem_iff_getElem.1 h;exact⟨k,hk,(Fb hk).trans e⟩
theorem Lo{f:List Un}{R:Un->Un->Prop}:f.Pairwise R↔∀i k,i<k->k<f.length->R (A2 f i) (A2 f k):=by rw[List.pairwise_iff_getElem];grind[Fb]
theorem tX{f:List Un}(h:∀k,0<k->k<f.length->(A2 f (k-1)).1<(A2 f k).1):f.Pairwise λu v=>u.1<v.1:=by rw[Lo];intro i k hik hk;induction k<;>grind
theorem Qo{E:Type}{R:E->E->Prop}:∀{f:List E},(∀e∈FI f,R e.1 e.2)↔f.Pairwise R
 |[]=>by simp[FI]
 |u::r=>by
  rw[vE,FI,<-Qo];constructor
  ·simp_all
  grind
def LQ(f:List Un)(k:Nat):Prop:=WV (A2 f k)=true/\(0<k->(A2 f (k-1)).1<(A2 f k).1)
def WX(f:List Un)(k:Nat):Prop:=LQ f k/\∀j,j<k->Hv (A2 f k) (A2 f j)=false
theorem OD{f:List Un}{k:Nat}(hk:k<f.length):((!WV (A2 f k))||((decide (0<(k:Int)))&&(decide ((A2 f k).1<=(f.getD ((k:Int)-1).toNat (0,0,0,[],0,0)).1))))=true↔¬LQ f k:=by
 have e:((k:Int)-1).toNat=k-1:=by omega
 rw[e,show f.getD (k-1) (0,0,0,[],0,0)=A2 f (k-1)from rfl];unfold LQ;cases WV (A2 f k)<;>simp<;>omega
section
variable{N:Nat}(hN:1001<=N)
include hN
theorem kK(u:Un):B6 N u.1 u.2.1 u.2.2.1 u.2.2.2.1 u.2.2.2.2.1 u.2.2.2.2.2=some (WV u):=K0 (by omega) _ _ _ _ _ _
theorem AaC(u:Un):BU N u.1 u.2.1 u.2.2.1 u.2.2.2.1 u.2.2.2.2.1 u.2.2.2.2.2=some (WV u):=OI hN _ _ _ _ _ _
open Classical in
theorem uov(u v:Un):Fy N u.1 u.2.1 u.2.2.1 u.2.2.2.1 u.2.2.2.2.1 u.2.2.2.2.2 v.1 v.2.1 v.2.2.1 v.2.2.2.1 v.2.2.2.2.1 v.2.2.2.2.2=some (Hv u v):=by
 obtain⟨h1,h2⟩:=YW hN u.1 u.2.1 u.2.2.1 u.2.2.2.1 u.2.2.2.2.1 u.2.2.2.2.2 v.1 v.2.1 v.2.2.1 v.2.2.2.1 v.2.2.2.2.1 v.2.2.2.2.2;obtain⟨r,g1,g2⟩:=Uq hN u.2.2.2.1 v.2.2.2.1;unfold Fy;rw[h1,g1,bS];simp only;rw[BR (by grind),oK];unfold Hv;rw[show TE u.1 u.2.1 u.2.2.1 u.2.2.2.1 u.2.2.2.2.1 u.2.2.2.2.2 v.1 v.2.1 v.2.2.1 v.2.2.2.1 v.2.2.2.2.1 v.2.2.2.2.2=WW u v from rfl];cases hd:WW u v with
 |false=>rfl
 |true=>have hv:=Vf.1 hd;have e:=SQ hN hv.2.1.l hv.2.2.l;rw[g1]at e;rw[yJ e];congr 2;rw[IF,w6,bK,<-QU,Bool.not_eq_true]
theorem rov(u v:Un):EF N u.1 u.2.1 u.2.2.1 u.2.2.2.1 u.2.2.2.2.1 u.2.2.2.2.2 v.1 v.2.1 v.2.2.1 v.2.2.2.1 v.2.2.2.2.1 v.2.2.2.2.2=some (Hv u v):=by obtain⟨r,h1,h2⟩:=AcR hN u.1 u.2.1 u.2.2.1 u.2.2.2.1 u.2.2.2.2.1 u.2.2.2.2.2 v.1 v.2.1 v.2.2.1 v.2.2.2.1 v.2.2.2.2.1 v.2.2.2.2.2;rw[h2,<-h1,uov hN]
theorem tY{f:List Un}(hf:f.length<=12):(Dd N f N 0=some (.inl ())/\∀k,k<f.length->LQ f k)\/(Dd N f N 0=some (.inr false)/\∃k,k<f.length/\¬LQ f k):=by
 classical
 have F:=GK (L:=Dd N f) (len:=f.length) (λk=>if LQ f k then none else some false) (λn k hk e=>?_) (λn k r hk e=>?_) (λn=>?_) N (by omega)
 ·grind
 ·by_cases c:LQ f k
  ·rw[Dd,Dq hk,cT,Fs hk,bS];simp only;rw[kK hN,bS,BR (by omega),BR (by grind),A1 _ (by rw[tU];exact λh=>(OD hk).1 h c),Ae (by omega),ns]
  grind
 ·by_cases c:LQ f k
  ·rw[dW c]at e;cases e
  ·rw[dQ c]at e;cases e
   rw[Dd,Dq hk,cT,Fs hk,bS];simp only;rw[kK hN,bS,BR (by omega),BR (by grind),AU _ ((OD hk).2 c)]
 ·rw[Dd,F2,cF]
open Classical in
theorem YN:∀ps:List (Un×Un),Eh N ps=some (if∀e∈ps,Hv e.1 e.2=false then .inl ()else .inr false)
 |[]=>by rw[Eh,dW (by simp)]
 |((y29,y30,y31,y32,y33,y34),(y35,y36,y37,y38,y39,y40))::ys=>by have e:=uov hN (y29,y30,y31,y32,y33,y34) (y35,y36,y37,y38,y39,y40);rw[Eh,e,bS,YN ys];cases h:Hv (y29,y30,y31,y32,y33,y34) (y35,y36,y37,y38,y39,y40)<;>simp_all
omit hN in
theorem oV{f:List Un}(h1:f.length<=12)(h2:∀k,k<f.length->LQ f k)(h3:f.Pairwise λu v=>Hv u v=false):FV f:=⟨h1,λu hu=>by obtain⟨k,hk,rfl⟩:=Lm hu;exact Ve.1 (h2 k hk).1,tX λk h0 hk=>(h2 k hk).2 h0,h3⟩
omit hN in
theorem FV.at{f:List Un}(h:FV f){k:Nat}(hk:k<f.length):LQ f k:=⟨Ve.2 (h.val _ (FH hk)),λh0=>Lo.1 h.srt (k-1) k (by omega) hk⟩
open Classical in
theorem ZU(f:List Un):ER N f=some (decide (FV f)):=by
 unfold ER;by_cases hl:f.length<=12
 ·rw[A1 _ (by rw[cY];omega)];rcases tY hN hl with⟨e,h⟩|⟨e,k,hk,h⟩
  ·rw[e,bS];rw[Ae (by omega),YN hN,bS];by_cases c:∀e∈FI f,Hv e.1 e.2=false
   ·rw[dW c];rw[aB (oV hl h (Qo.1 c))]
   ·rw[dQ c];rw[bJ λv=>c (Qo.2 v.dis)]
  ·rw[e,bS];rw[bJ λv=>h (v.at hk)]
 ·rw[AU _ (by rw[bK];omega),bJ λv=>hl v.len]
theorem YO{f:List Un}{i:Nat}(hi:i<f.length)(hf:f.length<=12):(Cl N i f (A2 f i).1 (A2 f i).2.1 (A2 f i).2.2.1 (A2 f i).2.2.2.1 (A2 f i).2.2.2.2.1 (A2 f i).2.2.2.2.2 N 0=some (.inl ())/\∀k,k<i->Hv (A2 f i) (A2 f k)=false)\/(Cl N i f (A2 f i).1 (A2 f i).2.1 (A2 f i).2.2.1 (A2 f i).2.2.2.1 (A2 f i).2.2.2.2.1 (A2 f i).2.2.2.2.2 N 0=some (.inr false)/\∃k,k<i/\Hv (A2 f i) (A2 f k)=true):=by
 have F:=GK (L:=Cl N i f (A2 f i).1 (A2 f i).2.1 (A2 f i).2.2.1 (A2 f i).2.2.2.1 (A2 f i).2.2.2.2.1 (A2 f i).2.2.2.2.2) (len:=i) (λk=>bif Hv (A2 f i) (A2 f k)then some false else none) (λn k hk e=>?_) (λn k r hk e=>?_) (λn=>?_) N (by omega)
 ·grind
 ·cases c:Hv (A2 f i) (A2 f k)with
  |true=>rw[c,cT]at e;cases e
  |false=>rw[Cl,Dq hk,cT,Fs (by omega),bS];simp only;rw[rov hN,bS,c,cF,Ae (by omega),ns]
 ·cases c:Hv (A2 f i) (A2 f k)with
  |false=>rw[c,cF]at e;cases e
  |true=>
   rw[c,cT]at e;cases e
   rw[Cl,Dq hk,cT,Fs (by omega),bS];simp;rw[rov hN,bS,c,cT]
 ·rw[Cl,F2,cF]
theorem kL{f:List Un}(hf:f.length<=12):(Cm N f N 0=some (.inl ())/\∀k,k<f.length->WX f k)\/(Cm N f N 0=some (.inr false)/\∃k,k<f.length/\¬WX f k):=by
 classical
 have F:=GK (L:=Cm N f) (len:=f.length) (λk=>if WX f k then none else some false) (λn k hk e=>?_) (λn k r hk e=>?_) (λn=>?_) N (by omega)
 ·grind
 ·by_cases c:WX f k
  ·rw[Cm,Dq hk,cT,Fs hk,bS];simp only;rw[AaC hN,bS,BR (by omega),BR (by grind),A1 _ (by rw[tU];exact λh=>(OD hk).1 h c.1)];rcases YO hN hk hf with⟨e,h⟩|⟨e,j,hj,h⟩
   ·rw[e,bS];rw[Ae (by omega),ns]
   ·have:=c.2 j hj;rw[h]at this;cases this
  grind
 ·by_cases c:WX f k
  ·rw[dW c]at e;cases e
  ·rw[dQ c]at e;cases e
   rw[Cm,Dq hk,cT,Fs hk,bS];simp only;rw[AaC hN,bS,BR (by omega),BR (by grind)];by_cases c1:LQ f k
   ·rw[A1 _ (by rw[tU];exact λh=>(OD hk).1 h c1)];rcases YO hN hk hf with⟨e,h⟩|⟨e,j,hj,h⟩
    ·exact absurd ⟨c1,h⟩ c
    ·rw[e,bS]
   ·rw[AU _ ((OD hk).2 c1)]
 ·rw[Cm,F2,cF]
open Classical in
theorem SZ(f:List Un):C8 N f=some (decide (FV f)):=by
 unfold C8;by_cases hl:f.length<=12
 ·rw[A1 _ (by rw[cY];omega)];rcases kL hN hl with⟨e,h⟩|⟨e,k,hk,h⟩
  ·rw[e,bS];rw[aB (oV hl (λk hk=>(h k hk).1) (Lo.2 λi k hik hk=>by rw[Pn];exact(h k hk).2 i hik))]
  ·rw[e,bS];rw[bJ λv=>h ⟨v.at hk,by grind[Pn,Lo,v.dis]⟩]
 ·rw[AU _ (by rw[bK];omega),bJ λv=>hl v.len]
end
structure Pos(f:List Un)(t:Int)(i:Nat):Prop where
 le:i<=f.length
 lo:∀k,k<i->(A2 f k).1<t
 hi:∀k,i<=k->k<f.length->t<=(A2 f k).1
theorem YP:∀s,s<60->IntKind.wrap .i64 (CW .shr .u64 (IntKind.wrap .u64 ((s:Nat):Int)) 1)=((s/2:Nat):Int):=by decide+kernel
theorem WY{f:List Un}(h:FV f){i k:Nat}(hik:i<=k)(hk:k<f.length):(A2 f i).1<=(A2 f k).1:=by
 by_cases e:i=k
 ·rw[e];omega
 ·have:=Lo.1 h.srt i k (by omega) hk;omega
theorem ZV(N:Nat)(u:Un)(t:Int):GP N u.1 u.2.1 u.2.2.1 u.2.2.2.1 u.2.2.2.2.1 u.2.2.2.2.2 t=some (if u.1<t then-1 else if t<u.1 then 1 else 0):=by unfold GP;rw[SM,bS]
theorem Tx(N:Nat){f:List Un}(h:FV f)(t:Int):∀(n i j:Nat),i<=j->j<=f.length->j<n+i->(∀k,k<i->(A2 f k).1<t)->(∀k,j<=k->k<f.length->t<=(A2 f k).1)->∃r:Nat,AW N f t n i j=some (r:Int)/\Pos f t r
 |0,i,j,h1,_,h3,_,_=>by omega
 |n+1,i,j,h1,h2,h3,h4,h5=>by
  have hl:=h.len;rw[AW];by_cases e:i=j
  ·subst e;rw[F2,cF];exact⟨i,rfl,h2,h4,h5⟩
  ·have hm:(i+j)/2<f.length:=by omega
   rw[Dq (by omega),cT,Ae (by unfold Af;omega),<-Int.natCast_add,YP _ (by omega),Fs hm,bS];simp only;rw[ZV,bS];by_cases c:(A2 f ((i+j)/2)).1<t
   ·rw[dW c,AU _ (by rfl),Ae (by unfold Af;omega),<-ns];exact Tx N h t n _ j (by omega) h2 (by omega) (λk hk=>by have:=WY h (i:=k) (k:=(i+j)/2) (by omega) hm;omega) h5
   ·rw[dQ c,A1 _ (by split<;>rfl)];exact Tx N h t n i _ (by omega) (by omega) (by omega) h4 (λk h6 h7=>by have:=WY h h6 h7;omega)
theorem Pos.found{f:List Un}(h:FV f){t:Int}{i:Nat}(p:Pos f t i):(i<f.length/\(A2 f i).1=t)↔∃u∈f,u.1=t:=by
 constructor
 ·rintro⟨h1,h2⟩;exact⟨_,FH h1,h2⟩
 ·rintro⟨u,hu,e⟩;obtain⟨k,hk,rfl⟩:=Lm hu;have h1:i<=k:=by
   by_cases c:i<=k
   ·exact c
   ·have:=p.lo k (by omega);omega
  have h2:=p.hi i (fW _) (by omega);have h3:=WY h h1 hk;exact⟨by omega,by omega⟩
open Classical in
theorem Vg{N:Nat}(hN:1001<=N){f:List Un}(h:FV f)(t:Int):∃r:Nat,Pos f t r/\A5 N f t=some ((r:Int),decide (∃u∈f,u.1=t)):=by
 have hl:=h.len;obtain⟨r,e,p⟩:=Tx N h t N 0 f.length (by omega) (by omega) (by omega) (λk hk=>by omega) (λk h1 h2=>by omega);rw[nL]at e;refine⟨r,p,?_⟩;unfold A5;rw[e,bS,BR (λh=>by simp only[bK]at h;omega),BR (λ_=>?_)]
 ·congr 2;rw[IF,bK,<-p.found h,nK,bK,bK,tK];have:=ZV N (A2 f r) t;unfold A2 at this;rw[this,oK];constructor
  ·rintro⟨h1,h2⟩;refine⟨by omega,?_⟩;show(f.getD r _).1=t;split at h2
   ·omega
   ·split at h2<;>omega
  ·rintro⟨h1,h2⟩;have h2:(f.getD r (0,0,0,[],0,0)).1=t:=h2;exact⟨by omega,by rw[dQ (by omega),dQ (by omega)]⟩
 ·have:=ZV N (A2 f r) t;unfold A2 at this;rw[tK,this,jS]
def PE:Un:=(0,0,0,[],0,0)
open Classical in
def Df(f:List Un)(t:Int):Un×Bool:=if FV f then(match f.find? (λu=>decide (u.1=t))with|some u=>(u,true)|none=>(PE,false))else(PE,false)
theorem FV.uniq{f:List Un}(h:FV f){i k:Nat}(hi:i<f.length)(hk:k<f.length)(e:(A2 f i).1=(A2 f k).1):i=k:=by
 by_cases c:i=k
 ·exact c
 by_cases l:i<k
 ·have:=Lo.1 h.srt i k l hk;omega
 ·have:=Lo.1 h.srt k i (by omega) hi;omega
theorem OE{f:List Un}(h:FV f){i:Nat}(hi:i<f.length):f.find? (λu=>decide (u.1=(A2 f i).1))=some (A2 f i):=by
 cases e:f.find? (λu=>decide (u.1=(A2 f i).1))with
 |none=>have:=List.find?_eq_none.1 e _ (FH hi);simp at this
 |some u=>have h1:=List.find?_some e;obtain⟨k,hk,rfl⟩:=Lm (List.mem_of_find?_eq_some e);rw[bK]at h1;rw[h.uniq hk hi h1]
theorem OF{f:List Un}{t:Int}(h:¬∃u∈f,u.1=t):f.find? (λu=>decide (u.1=t))=none:=List.find?_eq_none.2 λu hu=>by rw[bK];exact λe=>h ⟨u,hu,e⟩
theorem WZ{u:Un}(h:UV u):u.2.2.2.1≠[]:=λe=>by have:=h.l.l3;rw[e]at this;simp at this
theorem AcH{N:Nat}(hN:1001<=N)(f:List Un)(t:Int):Dk N f t=some (Df f t):=by
 unfold Dk Df;rw[ZU hN,bS];by_cases hf:FV f
 ·obtain⟨r,p,e⟩:=Vg hN hf t;rw[aB hf,A1 _ (by rfl),dW hf,e,bS];simp only;by_cases c:∃u∈f,u.1=t
  ·obtain⟨h1,h2⟩:=(p.found hf).2 c;have u:=hf.val _ (FH h1);have l8:=u.l.l8;rw[aB c,A1 _ (by rfl),Fs h1,bS];simp only;rw[Ae (WZ u),Ae (by omega),<-h2,OE hf h1]
  ·rw[bJ c,AU _ (by rfl),OF c];rfl
 ·rw[bJ hf,AU _ (by rfl),dQ hf];rfl
theorem KX(N:Nat){u:Un}(h:u.2.2.2.1.length<=1000):BY N u.1 u.2.1 u.2.2.1 u.2.2.2.1 u.2.2.2.2.1 u.2.2.2.2.2=some u:=by unfold BY;rw[Ae (by omega)]
theorem oW{N:Nat}(hN:1001<=N){f:List Un}(hl:f.length<=1000)(t:Int):Dm N f t=some (Df f t):=by
 classical
 have F:=GK (L:=Da N f t) (len:=f.length) (λk=>if(A2 f k).1=t/\FV f then some (A2 f k,true)else none) (λn k hk e=>?_) (λn k r hk e=>?_) (λn=>?_) N (by omega)
 ·unfold Dm Df;rcases F with⟨e,h⟩|⟨j,r,hj,h,_,e⟩
  ·rw[e,bS];simp only;by_cases hf:FV f
   ·rw[dW hf,OF]
    ·rfl
    ·rintro⟨u,hu,e⟩;obtain⟨k,hk,rfl⟩:=Lm hu;have:=h k hk;rw[dW ⟨e,hf⟩]at this;cases this
   ·rw[dQ hf];rfl
  ·rw[e,bS];simp only;by_cases c:(A2 f j).1=t/\FV f
   ·rw[dW c]at h;cases h
    rw[dW c.2,<-c.1,OE c.2 hj]
   ·rw[dQ c]at h;cases h
 ·have c:¬((A2 f k).1=t/\FV f):=λc=>by rw[dW c]at e;cases e
  rw[Da,Dq hk,cT,Fs hk,bS];simp only;rw[SZ hN,BR (λ_=>jS),oK,A1 _ (by rw[tU,Ne,nK,bK,bK];exact c),Ae (by unfold Af;omega),ns]
 ·by_cases c:(A2 f k).1=t/\FV f
  ·rw[dW c]at e;cases e
   have l8:=(c.2.val _ (FH hk)).l.l8;rw[Da,Dq hk,cT,Fs hk,bS];simp only;rw[SZ hN,BR (λ_=>jS),oK,AU _ (by rw[nK,bK,bK];exact c),KX N (by omega),bS]
  ·rw[dQ c]at e;cases e
 ·rw[Da,F2,cF]
structure Fit(f:List Un)(u:Un):Prop where
 hf:FV f
 hu:UV u
 hl:f.length<12
 hi:∀v∈f,v.1≠u.1
 ho:∀v∈f,Hv u v=false
noncomputable instance(f:List Un)(u:Un):Decidable (Fit f u):=Classical.propDecidable _
def Of(f:List Un)(t:Int):List Un:=f.filter λv=>decide (v.1<t)
def Ro(f:List Un)(t:Int):List Un:=f.filter λv=>decide (t<=v.1)
def Gm(f:List Un)(u:Un):List Un:=Of f u.1++u::Ro f u.1
def EZ(f:List Un)(t:Int):List Un:=f.filter λv=>decide (v.1≠t)
theorem Pos.split{f:List Un}{t:Int}{r:Nat}(p:Pos f t r):f.take r=Of f t/\f.drop r=Ro f t:=by
 have h1:∀u∈f.take r,u.1<t:=λu hu=>by obtain⟨k,hk,rfl⟩:=List.mem_take_iff_getElem.1 hu;rw[<-Fb (by omega)];exact p.lo k (by omega)
 have h2:∀u∈f.drop r,t<=u.1:=λu hu=>by obtain⟨k,hk,rfl⟩:=List.mem_drop_iff_getElem.1 hu;rw[<-Fb (by omega)];exact p.hi _ (by omega) (by omega)
 have e:f=f.take r++f.drop r:=by simp_all
 constructor
 ·unfold Of;conv=>rhs;rw[e,yI]
  rw[L2.2 λu hu=>by grind,L5.2 λu hu=>by have:=h2 u hu;rw[bK];omega,qO]
 ·unfold Ro;conv=>rhs;rw[e,yI]
  rw[L2.2 λu hu=>aB (h2 u hu),L5.2 λu hu=>by have:=h1 u hu;rw[bK];omega,pA]
theorem FV.pos{f:List Un}(h:FV f)(t:Int):∃r,Pos f t r:=by obtain⟨r,p,_⟩:=Vg (fW _) h t;exact⟨r,p⟩
theorem FV.cut{f:List Un}(h:FV f)(t:Int):Of f t++Ro f t=f:=by obtain⟨r,p⟩:=h.pos t;rw[<-p.split.1,<-p.split.2,y9]
theorem FV.sub{f g:List Un}(h:FV f)(s:g.Sublist f):FV g:=⟨rC s.length_le h.len,λu hu=>h.val u (s.subset hu),h.srt.sublist s,h.dis.sublist s⟩
theorem Fit.fv{f:List Un}{u:Un}(h:Fit f u):FV (Gm f u):=by
 have e:=h.hf.cut u.1;have hm:∀v,v∈Of f u.1->v∈f/\v.1<u.1:=λv hv=>by have:=List.mem_filter.1 hv;rwa [bK]at this
 have hg:∀v,v∈Ro f u.1->v∈f/\u.1<=v.1:=λv hv=>by have:=List.mem_filter.1 hv;rwa [bK]at this
 have hd:=h.hf.dis;rw[<-e,List.pairwise_append]at hd;have hs:=h.hf.srt;rw[<-e,List.pairwise_append]at hs;unfold Gm;refine⟨?_,λv hv=>?_,?_,?_⟩
 ·have:=h.hl;grind
 ·rcases mU.1 hv with h1|h1
  ·exact h.hf.val v (hm v h1).1
  ·rcases kC.1 h1 with rfl|h1
   ·exact h.hu
   ·exact h.hf.val v (hg v h1).1
 ·rw[List.pairwise_append,vE];refine⟨hs.1,⟨λv hv=>?_,hs.2.1⟩,λa ha b hb=>?_⟩
  ·have:=hg v hv;have:=h.hi v this.1;omega
  grind
 ·rw[List.pairwise_append,vE];refine⟨hd.1,⟨λv hv=>h.ho v (hg v hv).1,hd.2.1⟩,λa ha b hb=>?_⟩;rcases kC.1 hb with rfl|hb
  ·rw[Pn];exact h.ho a (hm a ha).1
  ·exact hd.2.2 a ha b hb
def N1(f:List Un)(u:Un):List Un:=(f.filter λv=>decide (v.1<=u.1))++u::f.filter λv=>decide (u.1<v.1)
theorem Ty{f:List Un}{u:Un}(h:∀v∈f,v.1≠u.1):N1 f u=Gm f u:=by
 have e1:(f.filter λv=>decide (v.1<=u.1))=Of f u.1:=List.filter_congr λv hv=>by have:=h v hv;rw[decide_eq_decide];omega
 have e2:(f.filter λv=>decide (u.1<v.1))=Ro f u.1:=List.filter_congr λv hv=>by have:=h v hv;rw[decide_eq_decide];omega
 unfold N1 Gm;rw[e1,e2]
theorem YQ{f:List Un}{u:Un}(hf:FV f):FV (N1 f u)↔Fit f u:=by
 constructor
 ·intro h;have hs:=h.srt;have hd:=h.dis;have hl:=h.len;have hid:∀v∈f,v.1≠u.1:=λv hv e=>by unfold N1 at hs;rw[List.pairwise_append]at hs;have:=hs.2.2 v (by grind) u List.mem_cons_self;omega
  rw[Ty hid]at hd hl;refine⟨hf,h.val u (by unfold N1;simp),?_,hid,λv hv=>?_⟩
  ·have e2:(Of f u.1++Ro f u.1).length=f.length:=by rw[hf.cut]
   grind[Gm]
  ·unfold Gm at hd;rw[List.pairwise_append,vE]at hd;by_cases c:v.1<u.1
   ·rw[Pn];exact hd.2.2 v (List.mem_filter.2 ⟨hv,aB c⟩) u List.mem_cons_self
   ·exact hd.2.1.1 v (List.mem_filter.2 ⟨hv,by grind⟩)
 ·intro h;rw[Ty h.hi];exact h.fv
section
variable{N:Nat}(hN:1001<=N)
include hN
open Classical in
theorem kM(f:List Un)(hl:f.length<=1000)(u:Un):BH N f u.1 u.2.1 u.2.2.1 u.2.2.2.1 u.2.2.2.2.1 u.2.2.2.2.2=some (decide (∃v∈f,Hv u v=true)):=by
 have st:∀v,Iq N v.1 v.2.1 v.2.2.1 v.2.2.2.1 v.2.2.2.2.1 v.2.2.2.2.2 u.1 u.2.1 u.2.2.1 u.2.2.2.1 u.2.2.2.2.1 u.2.2.2.2.2=some (Hv u v):=by simp_all[Iq,uov]
 have F:=GK (L:=Bb N f u.1 u.2.1 u.2.2.1 u.2.2.2.1 u.2.2.2.2.1 u.2.2.2.2.2) (len:=f.length) (λk=>bif Hv u (A2 f k)then some (k)else none) (λn k hk e=>?_) (λn k r hk e=>?_) (λn=>?_) N (by omega)
 ·unfold BH CS;rcases F with⟨e,h⟩|⟨j,r,hj,h,_,e⟩
  ·rw[e,bS];rw[bS,bJ (p:=(0)<=-1) (by omega),bJ];rintro⟨v,hv,c⟩;obtain⟨k,hk,rfl⟩:=Lm hv;have:=h k hk;rw[c,cT]at this;cases this
  ·rw[e,bS];cases c:Hv u (A2 f j)with
   |false=>rw[c,cF]at h;cases h
   |true=>
    rw[c,cT]at h;cases h
    rw[bS,aB (p:=(0:Int)<=(j)) (by omega),aB ⟨_,FH hj,c⟩]
 ·cases c:Hv u (A2 f k)with
  |true=>rw[c,cT]at e;cases e
  |false=>rw[Bb,Dq hk,cT,Fs hk,bS];simp only;rw[st,bS,c,cF,Ae (by omega),ns]
 ·cases c:Hv u (A2 f k)with
  |false=>rw[c,cF]at e;cases e
  |true=>
   rw[c,cT]at e;cases e
   rw[Bb,Dq hk,cT,Fs hk,bS];simp;rw[st,bS,c,cT]
 simp[Bb]
omit hN in
theorem W0{f:List Un}{k:Nat}(hk:k<f.length):f.set k ((A2 f k).1,(A2 f k).2.1,(A2 f k).2.2.1,(A2 f k).2.2.2.1,(A2 f k).2.2.2.2.1,(A2 f k).2.2.2.2.2)=f:=by rw[Fb hk,List.set_getElem_self]
omit hN in
theorem Po{u:Un}(h:UV u):BJ N u.2.2.2.1=some u.2.2.2.1:=by have l8:=h.l.l8;unfold BJ;rw[Ae (WZ h),Ae (by omega)]
omit hN in
theorem eN{f:List Un}(h:FV f):∀n k,k<=f.length->f.length<n+k->FX N f n k f=some f
 |0,k,h1,h2=>by omega
 |n+1,k,h1,h2=>by
  have hl:=h.len;rw[FX];by_cases e:k=f.length
  ·subst e;rw[F2,cF]
  ·have hk:k<f.length:=by omega
   rw[Dq hk,cT,Fs hk,bS];simp only;rw[Po (h.val _ (FH hk)),bS,Ae (by omega),tK,W0 hk,<-ns];exact eN h n _ (by omega) (by omega)
omit hN in
theorem eR{f:List Un}(h:FV f):∀n k,k<=f.length->f.length<n+k->FB N f n k f=some f
 |0,k,h1,h2=>by omega
 |n+1,k,h1,h2=>by
  have hl:=h.len;rw[FB];by_cases e:k=f.length
  ·subst e;rw[F2,cF]
  ·have hk:k<f.length:=by omega
   rw[Dq hk,cT,Fs hk,bS];simp only;rw[Po (h.val _ (FH hk)),bS,Ae (by omega),tK,W0 hk,<-ns];exact eR h n _ (by omega) (by omega)
open Classical in
theorem Vh(f:List Un)(u:Un):Fd N f u.1 u.2.1 u.2.2.1 u.2.2.2.1 u.2.2.2.2.1 u.2.2.2.2.2=some (if Fit f u then(Gm f u,0)else([],120)):=by
 unfold Fd;rw[ZU hN,bS,kK hN,BR (by grind),oK];by_cases c1:FV f/\UV u/\f.length≠12
 ·obtain⟨h1,h2,h3⟩:=c1;have hl:=h1.len;obtain⟨r,p,e⟩:=Vg hN h1 u.1;rw[aB h1,Ve.2 h2,A1 _ (by rw[bJ (by omega)];rfl),e,bS];simp only;rw[kM hN f (by omega) u,BR (by grind),oK];by_cases c2:(∃v∈f,v.1=u.1)\/∃v∈f,Hv u v=true
  ·rw[AU _ (by rw[sW,bK,bK];exact c2),dQ λh=>?_];rcases c2 with⟨v,hv,e⟩|⟨v,hv,e⟩
   ·exact h.hi v hv e
   ·have:=h.ho v hv;rw[e]at this;cases this
  ·have hid:∀v∈f,v.1≠u.1:=by grind
   have hov:∀v∈f,Hv u v=false:=by grind
   have pl:=p.le;rw[A1 _ (by rw[tU,Ne,sW,bK,bK];exact c2),Ae (by omega),<-nL,eN h1 N 0 (by omega) (by omega),bS,Po h2,bS,Ae (by omega),Ae (by omega),dW ⟨h1,h2,by omega,hid,hov⟩,tK,p.split.1,p.split.2,qZ];rfl
 ·rw[dQ λh=>by grind[h.hf,h.hu,h.hl],AU];by_cases h1:FV f
  ·by_cases h2:UV u
   ·have h3:f.length=12:=by grind
    rw[aB (p:=(f.length:Int)=12) (by omega),Bool.or_true]
   ·rw[show WV u=false by rw[tU];exact λh=>h2 (Ve.1 h),Iv,Bool.or_true,Bool.true_or]
  grind
open Classical in
theorem kN(f:List Un)(t:Int):FY N f t=some (if FV f/\∃u∈f,u.1=t then(EZ f t,0)else([],120)):=by
 unfold FY;rw[ZU hN,bS];by_cases h1:FV f
 ·have hl:=h1.len;obtain⟨r,p,e⟩:=Vg hN h1 t;rw[aB h1,A1 _ (by rfl),e,bS];simp only;by_cases c:∃u∈f,u.1=t
  ·obtain⟨g1,g2⟩:=(p.found h1).2 c;have hne:f≠[]:=by grind
   rw[aB c,A1 _ (by rfl),dW ⟨h1,c⟩,Ae hne,Ae (by omega),<-nL,eR h1 N 0 (by omega) (by omega),bS,Ae (by omega),Ae (by omega),Ae (by omega),tK];have hlo:∀v∈f.take r,v.1≠t:=λv hv=>by obtain⟨k,hk,rfl⟩:=List.mem_take_iff_getElem.1 hv;have:=p.lo k (by omega);rw[Fb (by omega)]at this;omega
   have hhi:∀v∈f.drop (r+1),v.1≠t:=λv hv=>by obtain⟨k,hk,rfl⟩:=List.mem_drop_iff_getElem.1 hv;have:=Lo.1 h1.srt r (k+(r+1)) (by omega) (by omega);rw[Fb (show k+(r+1)<f.length by omega)]at this;grind
   have e:f=f.take r++f[r]::f.drop (r+1):=by rw[<-oH g1,y9]
   unfold EZ;conv=>rhs;rw[e,yI,List.filter_cons]
   rw[L2.2 λv hv=>by simpa using hlo v hv,L2.2 λv hv=>by simpa using hhi v hv,dQ (by rw[<-Fb g1];simpa using g2)]
  grind
 grind
end
end
section
open Go
attribute [local irreducible] Ax BO BB Bj BC Bk AY BD BK Cq
def ES(N:Nat)(f1886:List (Int×Int×Int×(List (Int×Int))×Int×Int))(ab:Int)(aj:Int)(ai:Int)(ah:List (Int×Int))(af:Int)(ae:Int):Nat->Bool->Int->(List (Int×Int×Int×(List (Int×Int))×Int×Int))->Option (Bool×(List (Int×Int×Int×(List (Int×Int))×Int×Int)))|0,_,_,_=>none|n+1,aa,i1968,l1969=>bif decide (i1968<(f1886.length:Int))then(gd ((!aa)=true->(0<=i1968/\i1968<(f1886.length:Int)))<|(bif (!aa)&&(decide (ab<(f1886.getD i1968.toNat (0,0,0,[],0,0)).1))then((BY N ab aj ai ah af ae).bind λ(bp,bo,bn,bm,bl,bj)=>gd ((l1969.length+1)*64<=140737488355328)<|some (true,l1969++[(bp,bo,bn,bm,bl,bj)]))else(some (aa,l1969)):Option (Bool×(List (Int×Int×Int×(List (Int×Int))×Int×Int)))).bind λ(ak,l2000)=>(A7 f1886 i1968).bind λ(ci,ce,b9,b7,bz,bw)=>(BY N ci ce b9 b7 bz bw).bind λ(bi,bh,bg,bf,be,bb)=>gd ((l2000.length+1)*64<=140737488355328)<|gd (Af (i1968+1))<|ES N f1886 ab aj ai ah af ae n ak (i1968+1) (l2000++[(bi,bh,bg,bf,be,bb)]))else(some (aa,l1969))
def DK(N:Nat)(f1886:List (Int×Int×Int×(List (Int×Int))×Int×Int))(ab:Int)(aj:Int)(ai:Int)(ah:List (Int×Int))(af:Int)(ae:Int):Option ((List (Int×Int×Int×(List (Int×Int))×Int×Int))×Int):=(C8 N f1886).bind λcn=>bif !cn then(some ([],120))else((ES N f1886 ab aj ai ah af ae N false 0 []).bind λ(am,l2022)=>(bif !am then((BY N ab aj ai ah af ae).bind λ(ba,az,ay,av,au,aq)=>gd ((l2022.length+1)*64<=140737488355328)<|some (l2022++[(ba,az,ay,av,au,aq)]))else(some l2022):Option ((List (Int×Int×Int×(List (Int×Int))×Int×Int)))).bind λbq=>(C8 N bq).bind λcj=>bif !cj then(some ([],120))else(some (bq,0)))
@[go_sem] def s92(N:Nat):Spec:=p0<|(Aoh<|qD Ak<|Aof<|Aoh<|Aoi<|Aoi<|Aoi<|qD Aq<|Aoi<|Aoi<|Aof<|Aof<|Aog ([],0) λr=>.tup [.agg [Ap r.1],.i r.2]) (DK N)
theorem nU(N:Nat):AG Tryz.prog 92 (s92 N):=by
 refine fk (Aoq x92 (Ab (ZB N)<|Ab (UY N)<|Aj)) ?_;intro f1886 ab aj ai ah af ae r h _ hS F;dsimp only[x92,Ah,Aq,Ak];unfold DK at h;obtain⟨cn,cz,h⟩:=un h;replace F:=fc cz F;refine An hS F h (λ_ h=>?_) (λ_ h=>?_)
 ·exact Ai hS F h
 ·refine go hS F ?_;refine Fc 1000001 (300,3) 0 6 [.i 0,.i 0,.i 0,.sl 0 true [] [],.i 0,.i 0] (by omega) (ev F) ?_;obtain⟨de,dq,h⟩:=un h;refine go hS F ?_;refine Bz de (λz:Bool×(List (Int×Int×Int×(List (Int×Int))×Int×Int))×Nat=>⟨[(3,.box (1,1) 0),(4,.box (2,1) 0),(6,.box (300,3) 0),(7,.b z.1)],[(.c (300,3) 0,.own (1000001,6) z.2.1.length),(.a (1000001,6),B7 z.2.1),(.c (2,1) 0,.sl 0 true [] []),(.c (1,1) 0,.i ab),(.c (1,1) 1,.i aj),(.c (1,1) 2,.i ai),(.c (1,1) 3,BP ah),(.c (1,1) 4,.i af),(.c (1,1) 5,.i ae)],z.2.2⟩) (λz=>((z.1,z.2.1):Bool×(List (Int×Int×Int×(List (Int×Int))×Int×Int)))) (.x 0) ?_ ?_
  ·refine Bp (λn (y:Bool×Int×(List (Int×Int×Int×(List (Int×Int))×Int×Int))×Nat)=>ES N f1886 ab aj ai ah af ae n y.1 y.2.1 y.2.2.1) (λy=>⟨[(2,.box (0,1) 0),(3,.box (1,1) 0),(4,.box (2,1) 0),(6,.box (300,3) 0),(7,.b y.1),(8,.i y.2.1)],[(.c (300,3) 0,.own (1000001,6) y.2.2.1.length),(.a (1000001,6),B7 y.2.2.1),(.c (2,1) 0,.sl 0 true [] []),(.c (1,1) 0,.i ab),(.c (1,1) 1,.i aj),(.c (1,1) 2,.i ai),(.c (1,1) 3,BP ah),(.c (1,1) 4,.i af),(.c (1,1) 5,.i ae),(.c (0,1) 0,Ap f1886)],y.2.2.2⟩) (false,0,[],6) dq (Ch F) ?_;rintro n ⟨aa,i1968,l1969,br⟩ an;simp only[ES]at an;refine An hS F an (λ_ an=>?_) (λ_ an=>?_)
   ·obtain⟨d7,an⟩:=un an;obtain⟨dg,bv,an⟩:=un an;refine go hS F ?_;refine Bz dg (λz:Bool×(List (Int×Int×Int×(List (Int×Int))×Int×Int))×Nat=>⟨[(2,.box (0,1) 0),(3,.box (1,1) 0),(4,.box (2,1) 0),(6,.box (300,3) 0),(7,.b z.1),(8,.i i1968)],[(.c (300,3) 0,.own (1000001,6) z.2.1.length),(.a (1000001,6),B7 z.2.1),(.c (2,1) 0,.sl 0 true [] []),(.c (1,1) 0,.i ab),(.c (1,1) 1,.i aj),(.c (1,1) 2,.i ai),(.c (1,1) 3,BP ah),(.c (1,1) 4,.i af),(.c (1,1) 5,.i ae),(.c (0,1) 0,Ap f1886)],z.2.2⟩) (λz=>((z.1,z.2.1):Bool×(List (Int×Int×Int×(List (Int×Int))×Int×Int)))) .n ?_ ?_
    ·refine An hS F bv (λ_ bv=>?_) (λ_ bv=>?_)
     ·obtain⟨⟨bp,bo,bn,bm,bl,bj⟩,cy,bv⟩:=un bv;obtain⟨dz,bv⟩:=un bv;exact B4 hS (fc cy F) (true,l1969++[(bp,bo,bn,bm,bl,bj)],br+1+1+1+1) bv
     ·exact B4 hS F (aa,l1969,br+1+1) bv
    ·rintro⟨ak,l2000,dh⟩ rfl;obtain⟨⟨ci,ce,b9,b7,bz,bw⟩,da,an⟩:=un an;obtain⟨dl,F⟩:=Cb Au da F;obtain⟨⟨bi,bh,bg,bf,be,bb⟩,cu,an⟩:=un an;obtain⟨dw,du,an⟩:=un an;exact Cd hS (fc cu F) (n,ak,i1968+1,l2000++[(bi,bh,bg,bf,be,bb)],dh+1+1) an
   ·exact B4 hS F (aa,l1969,br+1) an
  ·rintro⟨am,l2022,co⟩ rfl;obtain⟨db,bu,h⟩:=un h;refine go hS F ?_;refine Bz db (λz:(List (Int×Int×Int×(List (Int×Int))×Int×Int))×Nat=>⟨[(4,.box (2,1) 0),(6,.box (300,3) 0)],[(.c (300,3) 0,.own (1000001,6) z.1.length),(.a (1000001,6),B7 z.1),(.c (2,1) 0,.sl 0 true [] [])],z.2⟩) (λz=>(z.1:(List (Int×Int×Int×(List (Int×Int))×Int×Int)))) .n ?_ ?_
   ·refine An hS F bu (λ_ bu=>?_) (λ_ bu=>?_)
    ·obtain⟨⟨ba,az,ay,av,au,aq⟩,cr,bu⟩:=un bu;obtain⟨dt,bu⟩:=un bu;exact B4 hS (fc cr F) (l2022++[(ba,az,ay,av,au,aq)],co+1+1) bu
    ·exact B4 hS F (l2022,co+1) bu
   ·rintro⟨bq,dm⟩ rfl;obtain⟨cj,cq,h⟩:=un h;replace F:=fc cq F;refine An hS F h (λ_ h=>?_) (λ_ h=>?_)
    ·exact Ai hS F h
    ·exact Ai hS F h
end
open Go
attribute [local irreducible] Ax BO BB Bj BC Bk AY BD BK Cq
def GQ(x:Int×Int×Int×Int×Int×Int):List AV:=[.i x.1,.i x.2.1,.i x.2.2.1,.i x.2.2.2.1,.i x.2.2.2.2.1,.i x.2.2.2.2.2]
def Pk:List AV->Int×Int×Int×Int×Int×Int|[.v (.int _ a1),.v (.int _ a2),.v (.int _ a3),.v (.int _ a4),.v (.int _ a5),.v (.int _ a6)]=>(a1,a2,a3,a4,a5,a6)|_=>(0,0,0,0,0,0)
theorem cW(x:Int×Int×Int×Int×Int×Int):Pk (GQ x)=x:=by rfl
theorem cX(R:List (Int×Int×Int×Int×Int×Int)):(R.map GQ).map Pk=R:=by
 induction R with
 |nil=>rfl
 |cons r R ih=>rw[eG,eG,ih,cW]
def GR:Rw (Int×Int×Int×Int×Int×Int):=⟨6,GQ,Pk,[.i 0,.i 0,.i 0,.i 0,.i 0,.i 0]⟩
def GS(l:List (Int×Int×Int×Int×Int×Int)):AV:=.sl 6 false (l.map GQ) [.i 0,.i 0,.i 0,.i 0,.i 0,.i 0]
def jJ(l:List (Int×Int×Int×Int×Int×Int)):AV:=.sl 6 true (l.map GQ) [.i 0,.i 0,.i 0,.i 0,.i 0,.i 0]
attribute [go_sem] GR GS jJ GQ Pk cX
def El(N:Nat)(ah:Int)(cr:Int)(cq:Int)(co:Int)(cn:Int)(cj:Int)(x2051:Int):Option (Int×Int×Int×(List (Int×Int))×Int×Int):=(Al N cr 9).bind λaa=>gd (Af (4*aa))<|(Al N cq 6).bind λab=>gd (Af (4*ab))<|(Al N co 4).bind λae=>gd (Af (1+ae))<|gd (Af (4*(1+ae)))<|gd (Af ((4*aa)+(4*(1+ae))))<|(Al N cn 2).bind λaf=>gd (Af (1+af))<|gd (Af (4*(1+af)))<|gd (Af ((4*ab)+(4*(1+af))))<|(Al N cj 8).bind λay=>bif decide (ay=4)then(gd (Af ((min ((4*aa)+(4*(1+ae))) 40)-1))<|gd (Af ((4*aa)+1))<|(Al N x2051 4).bind λfp=>bif decide (fp=3)then(gd (Af (x2051.tdiv 4))<|(Al N (x2051.tdiv 4) 4).bind λav=>gd (Af (av+1))<|gd (Af (x2051.tdiv 16))<|(Al N (x2051.tdiv 16) 4).bind λbv=>gd (Af ((av+1)+bv))<|(Al N ah 100).bind λfo=>gd (Af (x2051.tdiv 64))<|(Al N (x2051.tdiv 64) 8).bind λbu=>gd (Af (1+bu))<|gd (Af (x2051.tdiv 512))<|(Al N (x2051.tdiv 512) 8).bind λfm=>some (fo,1+bu,fm,[(4*aa,4*ab),(min ((4*aa)+(4*(1+ae))) 40,4*ab),((min ((4*aa)+(4*(1+ae))) 40)-1,(4*ab)+(4*(1+af))),((4*aa)+1,(4*ab)+(4*(1+af)))],av,(av+1)+bv))else((Al N ah 100).bind λfj=>gd (Af (x2051.tdiv 64))<|(Al N (x2051.tdiv 64) 8).bind λbr=>gd (Af (1+br))<|gd (Af (x2051.tdiv 512))<|(Al N (x2051.tdiv 512) 8).bind λfh=>some (fj,1+br,fh,[(4*aa,4*ab),(min ((4*aa)+(4*(1+ae))) 40,4*ab),((min ((4*aa)+(4*(1+ae))) 40)-1,(4*ab)+(4*(1+af))),((4*aa)+1,(4*ab)+(4*(1+af)))],0,4)))else(bif decide (ay=5)then(gd (Af ((4*aa)+1))<|gd (Af ((min ((4*aa)+(4*(1+ae))) 40)-1))<|(Al N x2051 4).bind λfg=>bif decide (fg=3)then(gd (Af (x2051.tdiv 4))<|(Al N (x2051.tdiv 4) 4).bind λau=>gd (Af (au+1))<|gd (Af (x2051.tdiv 16))<|(Al N (x2051.tdiv 16) 4).bind λbq=>gd (Af ((au+1)+bq))<|(Al N ah 100).bind λe9=>gd (Af (x2051.tdiv 64))<|(Al N (x2051.tdiv 64) 8).bind λbp=>gd (Af (1+bp))<|gd (Af (x2051.tdiv 512))<|(Al N (x2051.tdiv 512) 8).bind λe8=>some (e9,1+bp,e8,[((4*aa)+1,4*ab),((min ((4*aa)+(4*(1+ae))) 40)-1,4*ab),(min ((4*aa)+(4*(1+ae))) 40,(4*ab)+(4*(1+af))),(4*aa,(4*ab)+(4*(1+af)))],au,(au+1)+bq))else((Al N ah 100).bind λez=>gd (Af (x2051.tdiv 64))<|(Al N (x2051.tdiv 64) 8).bind λbo=>gd (Af (1+bo))<|gd (Af (x2051.tdiv 512))<|(Al N (x2051.tdiv 512) 8).bind λep=>some (ez,1+bo,ep,[((4*aa)+1,4*ab),((min ((4*aa)+(4*(1+ae))) 40)-1,4*ab),(min ((4*aa)+(4*(1+ae))) 40,(4*ab)+(4*(1+af))),(4*aa,(4*ab)+(4*(1+af)))],0,4)))else(bif decide (ay=6)then((Al N x2051 4).bind λej=>bif decide (ej=3)then(gd (Af (x2051.tdiv 4))<|(Al N (x2051.tdiv 4) 4).bind λaq=>gd (Af (aq+1))<|gd (Af (x2051.tdiv 16))<|(Al N (x2051.tdiv 16) 4).bind λbn=>gd (Af ((aq+1)+bn))<|(Al N ah 100).bind λei=>gd (Af (x2051.tdiv 64))<|(Al N (x2051.tdiv 64) 8).bind λbm=>gd (Af (1+bm))<|gd (Af (x2051.tdiv 512))<|(Al N (x2051.tdiv 512) 8).bind λeh=>some (ei,1+bm,eh,[(4*aa,4*ab),(min ((4*aa)+(4*(1+ae))) 40,4*ab),(min ((4*aa)+(4*(1+ae))) 40,(4*ab)+(4*(1+af)))],aq,(aq+1)+bn))else((Al N ah 100).bind λee=>gd (Af (x2051.tdiv 64))<|(Al N (x2051.tdiv 64) 8).bind λbl=>gd (Af (1+bl))<|gd (Af (x2051.tdiv 512))<|(Al N (x2051.tdiv 512) 8).bind λd9=>some (ee,1+bl,d9,[(4*aa,4*ab),(min ((4*aa)+(4*(1+ae))) 40,4*ab),(min ((4*aa)+(4*(1+ae))) 40,(4*ab)+(4*(1+af)))],0,4)))else(bif decide (ay=7)then((Al N x2051 4).bind λd8=>bif decide (d8=3)then(gd (Af (x2051.tdiv 4))<|(Al N (x2051.tdiv 4) 4).bind λan=>gd (Af (an+1))<|gd (Af (x2051.tdiv 16))<|(Al N (x2051.tdiv 16) 4).bind λbj=>gd (Af ((an+1)+bj))<|(Al N ah 100).bind λd7=>gd (Af (x2051.tdiv 64))<|(Al N (x2051.tdiv 64) 8).bind λbi=>gd (Af (1+bi))<|gd (Af (x2051.tdiv 512))<|(Al N (x2051.tdiv 512) 8).bind λdz=>some (d7,1+bi,dz,[(4*aa,4*ab),(min ((4*aa)+(4*(1+ae))) 40,(4*ab)+(4*(1+af))),(4*aa,(4*ab)+(4*(1+af)))],an,(an+1)+bj))else((Al N ah 100).bind λdw=>gd (Af (x2051.tdiv 64))<|(Al N (x2051.tdiv 64) 8).bind λbh=>gd (Af (1+bh))<|gd (Af (x2051.tdiv 512))<|(Al N (x2051.tdiv 512) 8).bind λdu=>some (dw,1+bh,du,[(4*aa,4*ab),(min ((4*aa)+(4*(1+ae))) 40,(4*ab)+(4*(1+af))),(4*aa,(4*ab)+(4*(1+af)))],0,4)))else((Al N x2051 4).bind λdt=>bif decide (dt=3)then(gd (Af (x2051.tdiv 4))<|(Al N (x2051.tdiv 4) 4).bind λam=>gd (Af (am+1))<|gd (Af (x2051.tdiv 16))<|(Al N (x2051.tdiv 16) 4).bind λbg=>gd (Af ((am+1)+bg))<|(Al N ah 100).bind λdq=>gd (Af (x2051.tdiv 64))<|(Al N (x2051.tdiv 64) 8).bind λbf=>gd (Af (1+bf))<|gd (Af (x2051.tdiv 512))<|(Al N (x2051.tdiv 512) 8).bind λdm=>some (dq,1+bf,dm,[(4*aa,4*ab),(min ((4*aa)+(4*(1+ae))) 40,4*ab),(min ((4*aa)+(4*(1+ae))) 40,(4*ab)+(4*(1+af))),(4*aa,(4*ab)+(4*(1+af)))],am,(am+1)+bg))else((Al N ah 100).bind λdl=>gd (Af (x2051.tdiv 64))<|(Al N (x2051.tdiv 64) 8).bind λbe=>gd (Af (1+be))<|gd (Af (x2051.tdiv 512))<|(Al N (x2051.tdiv 512) 8).bind λdh=>some (dl,1+be,dh,[(4*aa,4*ab),(min ((4*aa)+(4*(1+ae))) 40,4*ab),(min ((4*aa)+(4*(1+ae))) 40,(4*ab)+(4*(1+af))),(4*aa,(4*ab)+(4*(1+af)))],0,4))))))
@[go_sem] def s88(N:Nat):Spec:=p0<|(Aoi<|Aoh<|Aoi<|Aoi<|Aoi<|Aoi<|Aoi<|Aoi<|Aof<|Aof<|Aog (0,0,0,[],0,0) λr=>.agg [.i r.1,.i r.2.1,.i r.2.2.1,BP r.2.2.2.1,.i r.2.2.2.2.1,.i r.2.2.2.2.2]) (El N)
theorem nV(N:Nat):AG Tryz.prog 88 (s88 N):=by
 refine fk (Aoq x88 (Ab (nS N)<|Aj)) ?_;intro ah cr cq co cn cj x2051 r h _ hS F;dsimp only[x88,Ah];unfold El at h;obtain⟨aa,jp,nv,ab,jo,nu,ae,jn,mb,lf,kf,af,jm,jx,nr,nq,ay,jl,h⟩:=un h;replace F:=fc jl (fc jm (fc jn (fc jo (fc jp F))));refine An hS F h (λ_ h=>?_) (λ_ h=>?_)
 ·obtain⟨nk,nh,fp,jk,h⟩:=un h;replace F:=fc jk F;refine An hS F h (λ_ h=>?_) (λ_ h=>?_)
  ·obtain⟨ng,av,jj,nf,nc,bv,ji,nb,fo,jh,mz,bu,jg,my,mu,fm,jf,h⟩:=un h;exact Ai hS (fc jf (fc jg (fc jh (fc ji (fc jj F))))) h
  ·obtain⟨fj,je,mt,br,jd,mr,mq,fh,jc,h⟩:=un h;exact Ai hS (fc jc (fc jd (fc je F))) h
 ·refine An hS F h (λ_ h=>?_) (λ_ h=>?_)
  ·obtain⟨mo,mn,fg,jb,h⟩:=un h;replace F:=fc jb F;refine An hS F h (λ_ h=>?_) (λ_ h=>?_)
   ·obtain⟨mj,au,ja,mh,mg,bq,i9,mf,e9,i8,me,bp,i7,md,mc,e8,i6,h⟩:=un h;exact Ai hS (fc i6 (fc i7 (fc i8 (fc i9 (fc ja F))))) h
   ·obtain⟨ez,i5,ma,bo,iz,l7,lz,ep,iy,h⟩:=un h;exact Ai hS (fc iy (fc iz (fc i5 F))) h
  ·refine An hS F h (λ_ h=>?_) (λ_ h=>?_)
   ·obtain⟨ej,iw,h⟩:=un h;replace F:=fc iw F;refine An hS F h (λ_ h=>?_) (λ_ h=>?_)
    ·obtain⟨lr,aq,iv,lq,lm,bn,ir,lj,ei,iq,li,bm,ip,lh,lg,eh,im,h⟩:=un h;exact Ai hS (fc im (fc ip (fc iq (fc ir (fc iv F))))) h
    ·obtain⟨ee,ij,kz,bl,ii,kv,kr,d9,ig,h⟩:=un h;exact Ai hS (fc ig (fc ii (fc ij F))) h
   ·refine An hS F h (λ_ h=>?_) (λ_ h=>?_)
    ·obtain⟨d8,ic,h⟩:=un h;replace F:=fc ic F;refine An hS F h (λ_ h=>?_) (λ_ h=>?_)
     ·obtain⟨kq,an,ib,km,kl,bj,g9,kj,d7,g8,ki,bi,gz,kh,kg,dz,gy,h⟩:=un h;exact Ai hS (fc gy (fc gz (fc g8 (fc g9 (fc ib F))))) h
     ·obtain⟨dw,gx,ke,bh,gw,ka,j9,du,gv,h⟩:=un h;exact Ai hS (fc gv (fc gw (fc gx F))) h
    ·obtain⟨dt,gu,h⟩:=un h;replace F:=fc gu F;refine An hS F h (λ_ h=>?_) (λ_ h=>?_)
     ·obtain⟨j8,am,gt,j7,j6,bg,gr,j5,dq,gm,j4,bf,gj,jz,jy,dm,gi,h⟩:=un h;exact Ai hS (fc gi (fc gj (fc gm (fc gr (fc gt F))))) h
     ·obtain⟨dl,gh,jw,be,gg,jv,ju,dh,ge,h⟩:=un h;exact Ai hS (fc ge (fc gg (fc gh F))) h
def DO(N:Nat)(x2314:List (Int×Int×Int×Int×Int×Int)):Nat->Int->(List (Int×Int×Int×(List (Int×Int))×Int×Int))->Option ((List (Int×Int×Int×(List (Int×Int))×Int×Int)))|0,_,_=>none|n+1,ai,ak=>bif (decide (ai<(x2314.length:Int)))&&(decide (ai<12))then(gd (Af (3*ai))<|(A7 x2314 ai).bind λ(ci,ce,b9,b7,bz,az)=>(Al N az 3).bind λbb=>gd (Af ((3*ai)+bb))<|(El N ((3*ai)+bb) ci ce b9 b7 bz az).bind λ(dg,de,db,da,cz,cy)=>(DK N ak dg de db da cz cy).bind λ(ba,cu)=>bif decide (cu=0)then(gd (Af (ai+1))<|DO N x2314 n (ai+1) ba)else(gd (Af (ai+1))<|DO N x2314 n (ai+1) ak))else(some ak)
def FD(N:Nat)(x2314:List (Int×Int×Int×Int×Int×Int)):Option (List (Int×Int×Int×(List (Int×Int))×Int×Int)):=(DO N x2314 N 0 []).bind λfq=>some fq
@[go_sem] def s50(N:Nat):Spec:=p0<|(Aon GR<|Aof<|Aog [] λr=>.agg [Ap r]) (FD N)
theorem Ace(N:Nat):AG Tryz.prog 50 (s50 N):=by
 refine fk (Aoq x50 (Ab (nS N)<|Ab (nV N)<|Ab (nU N)<|Aj)) ?_;intro x2314 r h _ hS F;dsimp only[x50,Ah,GR];unfold FD at h;refine go hS F ?_;refine Yd (100,2) 0 6 [.i 0,.i 0,.i 0,.sl 0 true [] [],.i 0,.i 0] (ev F) ?_;obtain⟨jr,nj,h⟩:=un h;refine go hS F ?_;refine Bz jr (λz:(List (Int×Int×Int×(List (Int×Int))×Int×Int))×Nat=>⟨[(2,.box (0,1) 0),(3,.box (100,2) 0)],[(.c (100,2) 0,Ap z.1),(.c (0,1) 0,.sl 0 true [] [])],z.2⟩) (λz=>(z.1:(List (Int×Int×Int×(List (Int×Int))×Int×Int)))) (.x 0) ?_ ?_
 ·refine Bp (λn (y:Int×(List (Int×Int×Int×(List (Int×Int))×Int×Int))×Nat)=>DO N x2314 n y.1 y.2.1) (λy=>⟨[(0,GS x2314),(2,.box (0,1) 0),(3,.box (100,2) 0),(4,.i y.1)],[(.c (100,2) 0,Ap y.2.1),(.c (0,1) 0,.sl 0 true [] [])],y.2.2⟩) (0,[],3) nj (Ch F) ?_;rintro n ⟨ai,ak,bw⟩ aj;simp only[DO]at aj;refine An hS F aj (λ_ aj=>?_) (λ_ aj=>?_)
  ·obtain⟨mb,⟨ci,ce,b9,b7,bz,az⟩,jq,aj⟩:=un aj;obtain⟨js,F⟩:=Cb GQ jq F;obtain⟨bb,gc,lf,⟨dg,de,db,da,cz,cy⟩,fx,aj⟩:=un aj;obtain⟨⟨ba,cu⟩,fr,aj⟩:=un aj;replace F:=fc fr (fc fx (fc gc F));refine An hS F aj (λ_ aj=>?_) (λ_ aj=>?_)
   ·obtain⟨kf,aj⟩:=un aj;exact Cd hS F (n,ai+1,ba,bw+1+1+1+1+1) aj
   ·obtain⟨jx,aj⟩:=un aj;exact Cd hS F (n,ai+1,ak,bw+1+1+1+1) aj
  ·exact B4 hS F (ak,bw+1) aj
 ·rintro⟨fq,jt⟩ rfl;exact Ai hS F h
