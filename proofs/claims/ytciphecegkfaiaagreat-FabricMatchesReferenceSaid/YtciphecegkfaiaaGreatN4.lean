import Derived.Test.YtciphecegkfaiaaGreatW4
import Derived.Test.YtciphecegkfaiaaGreatF4
import Derived.Test.YtciphecegkfaiaaGreatF9
set_option linter.unusedSimpArgs false
set_option linter.unusedVariables false
set_option linter.unusedSectionVars false
noncomputable section
namespace Go.Proofs.YtciphecegkfaiaaGreat.Am
def UV(u:Un):Prop:=UP u.1 u.2.1 u.2.2.1 u.2.2.2.1 u.2.2.2.2.1 u.2.2.2.2.2
def V3(u:Un):Bool:=Gw u.1 u.2.1 u.2.2.1 u.2.2.2.2.1 u.2.2.2.2.2&&vB u.2.2.2.1
theorem UI{u:Un}:V3 u=true↔UV u:=HL
def V4(u v:Un):Bool:=Rm u.1 u.2.1 u.2.2.1 u.2.2.2.1 u.2.2.2.2.1 u.2.2.2.2.2 v.1 v.2.1 v.2.2.1 v.2.2.2.1 v.2.2.2.2.1 v.2.2.2.2.2
open Classical in
def Hc(u v:Un):Bool:=V4 u v&&decide (¬apart u.2.2.2.1 v.2.2.2.1)
theorem UJ{u v:Un}:V4 u v=true↔(max u.2.2.2.2.1 v.2.2.2.2.1<min u.2.2.2.2.2 v.2.2.2.2.2)/\UV u/\UV v:=by unfold V4 Rm UV;rw[lP,lP,eR,HL,HL,and_assoc]
open Classical in
theorem UK{u v:Un}:Hc u v=true↔((max u.2.2.2.2.1 v.2.2.2.2.1<min u.2.2.2.2.2 v.2.2.2.2.2)/\UV u/\UV v)/\¬apart u.2.2.2.1 v.2.2.2.1:=by unfold Hc;rw[lP,UJ,eR]
theorem Ot(u v:Un):Hc u v=Hc v u:=by rw[Sw,UK,UK,Int.max_comm,Int.min_comm,and_comm (a:=UV u),show apart u.2.2.2.1 v.2.2.2.1↔apart v.2.2.2.1 u.2.2.2.1 from⟨apart.symm,apart.symm⟩]
structure FV(f:List Un):Prop where
 len:f.length<=12
 val:∀u∈f,UV u
 srt:f.Pairwise λu v=>u.1<v.1
 dis:f.Pairwise λu v=>Hc u v=false
noncomputable instance(f:List Un):Decidable (FV f):=Classical.propDecidable _
def Ao(f:List Un)(k:Nat):Un:=f.getD k (0,0,0,[],0,0)
theorem Cq{f:List Un}{k:Nat}(h:k<f.length):AA f (k:Int)=some ((Ao f k).1,(Ao f k).2.1,(Ao f k).2.2.1,(Ao f k).2.2.2.1,(Ao f k).2.2.2.2.1,(Ao f k).2.2.2.2.2):=by rw[Km (0,0,0,[],0,0) (by omega) (by omega),uS];rfl
theorem Cj{f:List Un}{k:Nat}(h:k<f.length):Ao f k=f[k]:=by unfold Ao;rw[eT,eV h];rfl
theorem Bi{f:List Un}{k:Nat}(h:k<f.length):Ao f k∈f:=by rw[Cj h];exact S7 h
theorem Ic{f:List Un}{u:Un}(h:u∈f):∃k,k<f.length/\Ao f k=u:=by obtain⟨k,hk,e⟩:=List.mem_iff_getElem.1 h;exact⟨k,hk,(Cj hk).trans e⟩
theorem GP{f:List Un}{R:Un->Un->Prop}:f.Pairwise R↔∀i k,i<k->k<f.length->R (Ao f i) (Ao f k):=by
 rw[L6];constructor
 ·intro h i k hik hk;rw[Cj (by omega),Cj hk];exact h i k (by omega) hk hik
 ·intro h i k hi hk hik;have:=h i k hik hk;rw[Cj hi,Cj hk]at this;exact this
theorem uH{f:List Un}(h:∀k,0<k->k<f.length->(Ao f (k-1)).1<(Ao f k).1):f.Pairwise λu v=>u.1<v.1:=by
 rw[GP];intro i k hik hk;induction k with
 |zero=>omega
 |succ k ih=>
  have h1:=h (k+1) (by omega) hk;rw[Nat.add_sub_cancel]at h1;by_cases e:i=k
  ·rw[e];exact h1
  ·have:=ih (by omega) (by omega);omega
theorem Lr{E:Type}{R:E->E->Prop}:∀{f:List E},(∀e∈B1 f,R e.1 e.2)↔f.Pairwise R
 |[]=>by simp[B1]
 |u::r=>by
  rw[yI,B1,<-Lr];simp only[lO,tI];constructor
  ·intro h;exact⟨λv hv=>h (u,v) (.inl ⟨v,hv,rfl⟩),λe he=>h e (.inr he)⟩
  ·rintro⟨h1,h2⟩ e (⟨v,hv,rfl⟩|he)
   ·exact h1 v hv
   ·exact h2 e he
def KO(f:List Un)(k:Nat):Prop:=V3 (Ao f k)=true/\(0<k->(Ao f (k-1)).1<(Ao f k).1)
def V5(f:List Un)(k:Nat):Prop:=KO f k/\∀j,j<k->Hc (Ao f k) (Ao f j)=false
theorem NF{f:List Un}{k:Nat}(hk:k<f.length):((!V3 (Ao f k))||((decide (0<(k:Int)))&&(decide ((Ao f k).1<=(f.getD ((k:Int)-1).toNat (0,0,0,[],0,0)).1))))=true↔¬KO f k:=by
 have e:((k:Int)-1).toNat=k-1:=by omega
 rw[e,show f.getD (k-1) (0,0,0,[],0,0)=Ao f (k-1)from rfl];unfold KO;simp only[tV,lP,eR,zT];cases V3 (Ao f k)<;>simp<;>omega
section
variable{N:Nat}(hN:1001<=N)
include hN
theorem lZ(u:Un):BN N u.1 u.2.1 u.2.2.1 u.2.2.2.1 u.2.2.2.2.1 u.2.2.2.2.2=some (V3 u):=HK (by omega) _ _ _ _ _ _
theorem Aak(u:Un):Bw N u.1 u.2.1 u.2.2.1 u.2.2.2.1 u.2.2.2.2.1 u.2.2.2.2.2=some (V3 u):=IN hN _ _ _ _ _ _
open Classical in
theorem uov(u v:Un):Ei N u.1 u.2.1 u.2.2.1 u.2.2.2.1 u.2.2.2.2.1 u.2.2.2.2.2 v.1 v.2.1 v.2.2.1 v.2.2.2.1 v.2.2.2.2.1 v.2.2.2.2.2=some (Hc u v):=by
 obtain⟨h1,h2⟩:=Tp hN u.1 u.2.1 u.2.2.1 u.2.2.2.1 u.2.2.2.2.1 u.2.2.2.2.2 v.1 v.2.1 v.2.2.1 v.2.2.2.1 v.2.2.2.2.1 v.2.2.2.2.2;obtain⟨r,g1,g2⟩:=TW hN u.2.2.2.1 v.2.2.2.1;unfold Ei;rw[h1,g1,bS];simp only;rw[A8 (λ_=>fD),mN];unfold Hc;rw[show Rm u.1 u.2.1 u.2.2.1 u.2.2.2.1 u.2.2.2.2.1 u.2.2.2.2.2 v.1 v.2.1 v.2.2.1 v.2.2.2.1 v.2.2.2.2.1 v.2.2.2.2.2=V4 u v from rfl];cases hd:V4 u v with
 |false=>rfl
 |true=>have hv:=UJ.1 hd;have e:=LQ hN hv.2.1.l hv.2.2.l;rw[g1]at e;rw[yJ e];congr 2;rw[Sw,zT,eR,<-LY (a:=u.2.2.2.1),XZ]
theorem rov(u v:Un):ED N u.1 u.2.1 u.2.2.1 u.2.2.2.1 u.2.2.2.2.1 u.2.2.2.2.2 v.1 v.2.1 v.2.2.1 v.2.2.2.1 v.2.2.2.2.1 v.2.2.2.2.2=some (Hc u v):=by obtain⟨r,h1,h2⟩:=Ach hN u.1 u.2.1 u.2.2.1 u.2.2.2.1 u.2.2.2.2.1 u.2.2.2.2.2 v.1 v.2.1 v.2.2.1 v.2.2.2.1 v.2.2.2.2.1 v.2.2.2.2.2;rw[h2,<-h1,uov hN]
theorem uI{f:List Un}(hf:f.length<=12):(Dg N f N 0=some (.inl ())/\∀k,k<f.length->KO f k)\/(Dg N f N 0=some (.inr false)/\∃k,k<f.length/\¬KO f k):=by
 classical
 have F:=Hh (L:=Dg N f) (len:=f.length) (λk=>if KO f k then none else some false) (λn k hk e=>?_) (λn k r hk e=>?_) (λn=>?_) N (by omega)
 ·rcases F with⟨e,h⟩|⟨j,r,hj,h,_,e⟩
  ·refine .inl ⟨e,λk hk=>?_⟩;have:=h k hk;by_cases c:KO f k
   ·exact c
   ·rw[eW c]at this;cases this
  ·by_cases c:KO f j
   ·rw[eX c]at h;cases h
   ·rw[eW c]at h;cases h
    exact .inr ⟨e,j,hj,c⟩
 ·by_cases c:KO f k
  ·rw[Dg,Ch hk,cT,Cq hk,bS];simp only;rw[lZ hN,bS,A8 (λh=>by simp only[eR]at h;unfold Ab;omega),A8 (λh=>by simp only[eR]at h;omega),Az _ (by rw[w6];exact λh=>(NF hk).1 h c),Aa (by unfold Ab;omega),ns]
  ·rw[eW c]at e;cases e
 ·by_cases c:KO f k
  ·rw[eX c]at e;cases e
  ·rw[eW c]at e;cases e
   rw[Dg,Ch hk,cT,Cq hk,bS];simp only;rw[lZ hN,bS,A8 (λh=>by simp only[eR]at h;unfold Ab;omega),A8 (λh=>by simp only[eR]at h;omega),AG _ ((NF hk).2 c)]
 ·rw[Dg,CT,cF]
open Classical in
theorem Ye:∀ps:List (Un×Un),En N ps=some (if∀e∈ps,Hc e.1 e.2=false then .inl ()else .inr false)
 |[]=>by rw[En,eX (by simp)]
 |((y29,y30,y31,y32,y33,y34),(y35,y36,y37,y38,y39,y40))::ys=>by
  have e:=uov hN (y29,y30,y31,y32,y33,y34) (y35,y36,y37,y38,y39,y40);simp only at e;rw[En,e,bS,Ye ys];cases h:Hc (y29,y30,y31,y32,y33,y34) (y35,y36,y37,y38,y39,y40)with
  |true=>rw[cT,eW λh2=>by have:=h2 _ zW;rw[h]at this;cases this]
  |false=>
   rw[cF];congr 1;by_cases c:∀e∈ys,Hc e.1 e.2=false
   ·rw[eX c,eX];intro e he;rcases lJ.1 he with rfl|he
    ·exact h
    ·exact c e he
   ·rw[eW c,eW λh2=>c λe he=>h2 e (tO _ he)]
omit hN in
theorem pZ{f:List Un}(h1:f.length<=12)(h2:∀k,k<f.length->KO f k)(h3:f.Pairwise λu v=>Hc u v=false):FV f:=⟨h1,λu hu=>by obtain⟨k,hk,rfl⟩:=Ic hu;exact UI.1 (h2 k hk).1,uH λk h0 hk=>(h2 k hk).2 h0,h3⟩
omit hN in
theorem FV.at{f:List Un}(h:FV f){k:Nat}(hk:k<f.length):KO f k:=⟨UI.2 (h.val _ (Bi hk)),λh0=>GP.1 h.srt (k-1) k (by omega) hk⟩
open Classical in
theorem Jy(f:List Un):Br N f=some (decide (FV f)):=by
 unfold Br;by_cases hl:f.length<=12
 ·rw[Az _ (by rw[eS];omega)];rcases uI hN hl with⟨e,h⟩|⟨e,k,hk,h⟩
  ·rw[e,bS];simp only;rw[Aa (by omega),Ye hN,bS];by_cases c:∀e∈B1 f,Hc e.1 e.2=false
   ·rw[eX c];simp only;rw[dC (pZ hl h (Lr.1 c))]
   ·rw[eW c];simp only;rw[dJ λv=>c (Lr.2 v.dis)]
  ·rw[e,bS];simp only;rw[dJ λv=>h (v.at hk)]
 ·rw[AG _ (by rw[eR];omega),dJ λv=>hl v.len]
theorem Yf{f:List Un}{i:Nat}(hi:i<f.length)(hf:f.length<=12):(Cc N i f (Ao f i).1 (Ao f i).2.1 (Ao f i).2.2.1 (Ao f i).2.2.2.1 (Ao f i).2.2.2.2.1 (Ao f i).2.2.2.2.2 N 0=some (.inl ())/\∀k,k<i->Hc (Ao f i) (Ao f k)=false)\/(Cc N i f (Ao f i).1 (Ao f i).2.1 (Ao f i).2.2.1 (Ao f i).2.2.2.1 (Ao f i).2.2.2.2.1 (Ao f i).2.2.2.2.2 N 0=some (.inr false)/\∃k,k<i/\Hc (Ao f i) (Ao f k)=true):=by
 have F:=Hh (L:=Cc N i f (Ao f i).1 (Ao f i).2.1 (Ao f i).2.2.1 (Ao f i).2.2.2.1 (Ao f i).2.2.2.2.1 (Ao f i).2.2.2.2.2) (len:=i) (λk=>bif Hc (Ao f i) (Ao f k)then some false else none) (λn k hk e=>?_) (λn k r hk e=>?_) (λn=>?_) N (by omega)
 ·rcases F with⟨e,h⟩|⟨j,r,hj,h,_,e⟩
  ·refine .inl ⟨e,λk hk=>?_⟩;have:=h k hk;cases c:Hc (Ao f i) (Ao f k)with
   |false=>rfl
   |true=>rw[c,cT]at this;cases this
  ·cases c:Hc (Ao f i) (Ao f j)with
   |false=>rw[c,cF]at h;cases h
   |true=>rw[c,cT]at h;cases h;exact .inr ⟨e,j,hj,c⟩
 ·cases c:Hc (Ao f i) (Ao f k)with
  |true=>rw[c,cT]at e;cases e
  |false=>rw[Cc,Ch hk,cT,Cq (by omega),bS];simp only;rw[rov hN,bS,c,cF,Aa (by unfold Ab;omega),ns]
 ·cases c:Hc (Ao f i) (Ao f k)with
  |false=>rw[c,cF]at e;cases e
  |true=>
   rw[c,cT]at e;cases e
   rw[Cc,Ch hk,cT,Cq (by omega),bS];simp only;rw[rov hN,bS,c,cT]
 ·rw[Cc,CT,cF]
theorem mA{f:List Un}(hf:f.length<=12):(Cd N f N 0=some (.inl ())/\∀k,k<f.length->V5 f k)\/(Cd N f N 0=some (.inr false)/\∃k,k<f.length/\¬V5 f k):=by
 classical
 have F:=Hh (L:=Cd N f) (len:=f.length) (λk=>if V5 f k then none else some false) (λn k hk e=>?_) (λn k r hk e=>?_) (λn=>?_) N (by omega)
 ·rcases F with⟨e,h⟩|⟨j,r,hj,h,_,e⟩
  ·refine .inl ⟨e,λk hk=>?_⟩;have:=h k hk;by_cases c:V5 f k
   ·exact c
   ·rw[eW c]at this;cases this
  ·by_cases c:V5 f j
   ·rw[eX c]at h;cases h
   ·rw[eW c]at h;cases h
    exact .inr ⟨e,j,hj,c⟩
 ·by_cases c:V5 f k
  ·rw[Cd,Ch hk,cT,Cq hk,bS];simp only;rw[Aak hN,bS,A8 (λh=>by simp only[eR]at h;unfold Ab;omega),A8 (λh=>by simp only[eR]at h;omega),Az _ (by rw[w6];exact λh=>(NF hk).1 h c.1)];rcases Yf hN hk hf with⟨e,h⟩|⟨e,j,hj,h⟩
   ·rw[e,bS];simp only;rw[Aa (by unfold Ab;omega),ns]
   ·have:=c.2 j hj;rw[h]at this;cases this
  ·rw[eW c]at e;cases e
 ·by_cases c:V5 f k
  ·rw[eX c]at e;cases e
  ·rw[eW c]at e;cases e
   rw[Cd,Ch hk,cT,Cq hk,bS];simp only;rw[Aak hN,bS,A8 (λh=>by simp only[eR]at h;unfold Ab;omega),A8 (λh=>by simp only[eR]at h;omega)];by_cases c1:KO f k
   ·rw[Az _ (by rw[w6];exact λh=>(NF hk).1 h c1)];rcases Yf hN hk hf with⟨e,h⟩|⟨e,j,hj,h⟩
    ·exact absurd ⟨c1,h⟩ c
    ·rw[e,bS]
   ·rw[AG _ ((NF hk).2 c1)]
 ·rw[Cd,CT,cF]
open Classical in
theorem Iu(f:List Un):Bj N f=some (decide (FV f)):=by
 unfold Bj;by_cases hl:f.length<=12
 ·rw[Az _ (by rw[eS];omega)];rcases mA hN hl with⟨e,h⟩|⟨e,k,hk,h⟩
  ·rw[e,bS];simp only;rw[dC (pZ hl (λk hk=>(h k hk).1) (GP.2 λi k hik hk=>by rw[Ot];exact(h k hk).2 i hik))]
  ·rw[e,bS];simp only;rw[dJ λv=>h ⟨v.at hk,λj hj=>by rw[Ot];exact GP.1 v.dis j k hj hk⟩]
 ·rw[AG _ (by rw[eR];omega),dJ λv=>hl v.len]
end
structure Pos(f:List Un)(t:Int)(i:Nat):Prop where
 le:i<=f.length
 lo:∀k,k<i->(Ao f k).1<t
 hi:∀k,i<=k->k<f.length->t<=(Ao f k).1
theorem uJ:∀s,s<60->IntKind.wrap .i64 (CQ .shr .u64 (IntKind.wrap .u64 ((s:Nat):Int)) 1)=((s/2:Nat):Int):=by decide+kernel
theorem Sp{f:List Un}(h:FV f){i k:Nat}(hik:i<=k)(hk:k<f.length):(Ao f i).1<=(Ao f k).1:=by
 by_cases e:i=k
 ·rw[e];omega
 ·have:=GP.1 h.srt i k (by omega) hk;omega
theorem ZN(N:Nat)(u:Un)(t:Int):GB N u.1 u.2.1 u.2.2.1 u.2.2.2.1 u.2.2.2.2.1 u.2.2.2.2.2 t=some (if u.1<t then-1 else if t<u.1 then 1 else 0):=by unfold GB;rw[LP,bS]
theorem S9(N:Nat){f:List Un}(h:FV f)(t:Int):∀(n i j:Nat),i<=j->j<=f.length->j<n+i->(∀k,k<i->(Ao f k).1<t)->(∀k,j<=k->k<f.length->t<=(Ao f k).1)->∃r:Nat,AR N f t n i j=some (r:Int)/\Pos f t r
 |0,i,j,h1,_,h3,_,_=>by omega
 |n+1,i,j,h1,h2,h3,h4,h5=>by
  have hl:=h.len;rw[AR];by_cases e:i=j
  ·subst e;rw[CT,cF];exact⟨i,rfl,h2,h4,h5⟩
  ·have hm:(i+j)/2<f.length:=by omega
   rw[Ch (by omega),cT,Aa (by unfold Ab;omega),<-Int.natCast_add,uJ _ (by omega),Cq hm,bS];simp only;rw[ZN,bS];by_cases c:(Ao f ((i+j)/2)).1<t
   ·rw[eX c,AG _ (by rfl),Aa (by unfold Ab;omega),<-ns];exact S9 N h t n _ j (by omega) h2 (by omega) (λk hk=>by have:=Sp h (i:=k) (k:=(i+j)/2) (by omega) hm;omega) h5
   ·rw[eW c,Az _ (by split<;>rfl)];exact S9 N h t n i _ (by omega) (by omega) (by omega) h4 (λk h6 h7=>by have:=Sp h h6 h7;omega)
theorem Pos.found{f:List Un}(h:FV f){t:Int}{i:Nat}(p:Pos f t i):(i<f.length/\(Ao f i).1=t)↔∃u∈f,u.1=t:=by
 constructor
 ·rintro⟨h1,h2⟩;exact⟨_,Bi h1,h2⟩
 ·rintro⟨u,hu,e⟩;obtain⟨k,hk,rfl⟩:=Ic hu;have h1:i<=k:=by
   by_cases c:i<=k
   ·exact c
   ·have:=p.lo k (by omega);omega
  have h2:=p.hi i (fA _) (by omega);have h3:=Sp h h1 hk;exact⟨by omega,by omega⟩
open Classical in
theorem UL{N:Nat}(hN:1001<=N){f:List Un}(h:FV f)(t:Int):∃r:Nat,Pos f t r/\AW N f t=some ((r:Int),decide (∃u∈f,u.1=t)):=by
 have hl:=h.len;obtain⟨r,e,p⟩:=S9 N h t N 0 f.length (by omega) (by omega) (by omega) (λk hk=>by omega) (λk h1 h2=>by omega);rw[mK]at e;refine⟨r,p,?_⟩;unfold AW;rw[e,bS,A8 (λh=>by simp only[eR]at h;omega),A8 (λ_=>?_)]
 ·congr 2;rw[Sw,eR,<-p.found h,lP,eR,eR,uS];have:=ZN N (Ao f r) t;unfold Ao at this;rw[this,mN];constructor
  ·rintro⟨h1,h2⟩;refine⟨by omega,?_⟩;show(f.getD r _).1=t;split at h2
   ·omega
   ·split at h2<;>omega
  ·rintro⟨h1,h2⟩;have h2:(f.getD r (0,0,0,[],0,0)).1=t:=h2;exact⟨by omega,by rw[eW (by omega),eW (by omega)]⟩
 ·have:=ZN N (Ao f r) t;unfold Ao at this;rw[uS,this,fD]
def V6:Un:=(0,0,0,[],0,0)
open Classical in
def Cr(f:List Un)(t:Int):Un×Bool:=if FV f then(match f.find? (λu=>decide (u.1=t))with|some u=>(u,true)|none=>(V6,false))else(V6,false)
theorem FV.uniq{f:List Un}(h:FV f){i k:Nat}(hi:i<f.length)(hk:k<f.length)(e:(Ao f i).1=(Ao f k).1):i=k:=by
 by_cases c:i=k
 ·exact c
 by_cases l:i<k
 ·have:=GP.1 h.srt i k l hk;omega
 ·have:=GP.1 h.srt k i (by omega) hi;omega
theorem Qf{f:List Un}(h:FV f){i:Nat}(hi:i<f.length):f.find? (λu=>decide (u.1=(Ao f i).1))=some (Ao f i):=by
 cases e:f.find? (λu=>decide (u.1=(Ao f i).1))with
 |none=>have:=List.find?_eq_none.1 e _ (Bi hi);simp at this
 |some u=>have h1:=List.find?_some e;obtain⟨k,hk,rfl⟩:=Ic (List.mem_of_find?_eq_some e);rw[eR]at h1;rw[h.uniq hk hi h1]
theorem Ta{f:List Un}{t:Int}(h:¬∃u∈f,u.1=t):f.find? (λu=>decide (u.1=t))=none:=List.find?_eq_none.2 λu hu=>by rw[eR];exact λe=>h ⟨u,hu,e⟩
theorem V7{u:Un}(h:UV u):u.2.2.2.1≠[]:=λe=>by have:=h.l.l3;rw[e]at this;simp at this
theorem qA{N:Nat}(hN:1001<=N)(f:List Un)(t:Int):Fi N f t=some (Cr f t):=by
 unfold Fi Cr;rw[Jy hN,bS];by_cases hf:FV f
 ·obtain⟨r,p,e⟩:=UL hN hf t;rw[dC hf,Az _ (by rfl),eX hf,e,bS];simp only;by_cases c:∃u∈f,u.1=t
  ·obtain⟨h1,h2⟩:=(p.found hf).2 c;have u:=hf.val _ (Bi h1);have l8:=u.l.l8;rw[dC c,Az _ (by rfl),Cq h1,bS];simp only;rw[Aa (V7 u),Aa (by omega),<-h2,Qf hf h1]
  ·rw[dJ c,AG _ (by rfl),Ta c];rfl
 ·rw[dJ hf,AG _ (by rfl),eW hf];rfl
theorem I7(N:Nat){u:Un}(h:u.2.2.2.1.length<=1000):Bd N u.1 u.2.1 u.2.2.1 u.2.2.2.1 u.2.2.2.2.1 u.2.2.2.2.2=some u:=by unfold Bd;rw[Aa (by omega)]
theorem qB{N:Nat}(hN:1001<=N){f:List Un}(hl:f.length<=1000)(t:Int):DY N f t=some (Cr f t):=by
 classical
 have F:=Hh (L:=Dd N f t) (len:=f.length) (λk=>if(Ao f k).1=t/\FV f then some (Ao f k,true)else none) (λn k hk e=>?_) (λn k r hk e=>?_) (λn=>?_) N (by omega)
 ·unfold DY Cr;rcases F with⟨e,h⟩|⟨j,r,hj,h,_,e⟩
  ·rw[e,bS];simp only;by_cases hf:FV f
   ·rw[eX hf,Ta]
    ·rfl
    ·rintro⟨u,hu,e⟩;obtain⟨k,hk,rfl⟩:=Ic hu;have:=h k hk;rw[eX ⟨e,hf⟩]at this;cases this
   ·rw[eW hf];rfl
  ·rw[e,bS];simp only;by_cases c:(Ao f j).1=t/\FV f
   ·rw[eX c]at h;cases h
    rw[eX c.2,<-c.1,Qf c.2 hj]
   ·rw[eW c]at h;cases h
 ·have c:¬((Ao f k).1=t/\FV f):=λc=>by rw[eX c]at e;cases e
  rw[Dd,Ch hk,cT,Cq hk,bS];simp only;rw[Iu hN,A8 (λ_=>fD),mN,Az _ (by rw[w6,Ne,lP,eR,eR];exact c),Aa (by unfold Ab;omega),ns]
 ·by_cases c:(Ao f k).1=t/\FV f
  ·rw[eX c]at e;cases e
   have l8:=(c.2.val _ (Bi hk)).l.l8;rw[Dd,Ch hk,cT,Cq hk,bS];simp only;rw[Iu hN,A8 (λ_=>fD),mN,AG _ (by rw[lP,eR,eR];exact c),I7 N (by omega),bS]
  ·rw[eW c]at e;cases e
 ·rw[Dd,CT,cF]
structure Fit(f:List Un)(u:Un):Prop where
 hf:FV f
 hu:UV u
 hl:f.length<12
 hi:∀v∈f,v.1≠u.1
 ho:∀v∈f,Hc u v=false
noncomputable instance(f:List Un)(u:Un):Decidable (Fit f u):=Classical.propDecidable _
def Nk(f:List Un)(t:Int):List Un:=f.filter λv=>decide (v.1<t)
def QF(f:List Un)(t:Int):List Un:=f.filter λv=>decide (t<=v.1)
def Id(f:List Un)(u:Un):List Un:=Nk f u.1++u::QF f u.1
def Mu(f:List Un)(t:Int):List Un:=f.filter λv=>decide (v.1≠t)
theorem Pos.split{f:List Un}{t:Int}{r:Nat}(p:Pos f t r):f.take r=Nk f t/\f.drop r=QF f t:=by
 have h1:∀u∈f.take r,u.1<t:=λu hu=>by obtain⟨k,hk,rfl⟩:=List.mem_take_iff_getElem.1 hu;rw[<-Cj (by omega)];exact p.lo k (by omega)
 have h2:∀u∈f.drop r,t<=u.1:=λu hu=>by obtain⟨k,hk,rfl⟩:=List.mem_drop_iff_getElem.1 hu;rw[<-Cj (by omega)];exact p.hi _ (by omega) (by omega)
 have e:f=f.take r++f.drop r:=(KL r f).symm;constructor
 ·unfold Nk;conv=>rhs;rw[e,CW]
  rw[List.filter_eq_self.2 λu hu=>dC (h1 u hu),List.filter_eq_nil_iff.2 λu hu=>by have:=h2 u hu;rw[eR];omega,qF]
 ·unfold QF;conv=>rhs;rw[e,CW]
  rw[List.filter_eq_self.2 λu hu=>dC (h2 u hu),List.filter_eq_nil_iff.2 λu hu=>by have:=h1 u hu;rw[eR];omega,nJ]
theorem FV.pos{f:List Un}(h:FV f)(t:Int):∃r,Pos f t r:=by obtain⟨r,p,_⟩:=UL (N:=1001) (fA _) h t;exact⟨r,p⟩
theorem FV.cut{f:List Un}(h:FV f)(t:Int):Nk f t++QF f t=f:=by obtain⟨r,p⟩:=h.pos t;rw[<-p.split.1,<-p.split.2,KL]
theorem FV.sub{f g:List Un}(h:FV f)(s:g.Sublist f):FV g:=⟨s7 s.length_le h.len,λu hu=>h.val u (s.subset hu),h.srt.sublist s,h.dis.sublist s⟩
theorem Fit.fv{f:List Un}{u:Un}(h:Fit f u):FV (Id f u):=by
 have e:=h.hf.cut u.1;have hm:∀v,v∈Nk f u.1->v∈f/\v.1<u.1:=λv hv=>by have:=uQ.1 hv;rwa [eR]at this
 have hg:∀v,v∈QF f u.1->v∈f/\u.1<=v.1:=λv hv=>by have:=uQ.1 hv;rwa [eR]at this
 have hd:=h.hf.dis;rw[<-e,List.pairwise_append]at hd;have hs:=h.hf.srt;rw[<-e,List.pairwise_append]at hs;unfold Id;refine⟨?_,λv hv=>?_,?_,?_⟩
 ·have:=h.hl;have e2:(Nk f u.1++QF f u.1).length=f.length:=by rw[e]
  rw[fF]at e2;rw[fF,pC];omega
 ·rcases lO.1 hv with h1|h1
  ·exact h.hf.val v (hm v h1).1
  ·rcases lJ.1 h1 with rfl|h1
   ·exact h.hu
   ·exact h.hf.val v (hg v h1).1
 ·rw[List.pairwise_append,yI];refine⟨hs.1,⟨λv hv=>?_,hs.2.1⟩,λa ha b hb=>?_⟩
  ·have:=hg v hv;have:=h.hi v this.1;omega
  ·rcases lJ.1 hb with rfl|hb
   ·exact(hm a ha).2
   ·exact hs.2.2 a ha b hb
 ·rw[List.pairwise_append,yI];refine⟨hd.1,⟨λv hv=>h.ho v (hg v hv).1,hd.2.1⟩,λa ha b hb=>?_⟩;rcases lJ.1 hb with rfl|hb
  ·rw[Ot];exact h.ho a (hm a ha).1
  ·exact hd.2.2 a ha b hb
def MZ(f:List Un)(u:Un):List Un:=(f.filter λv=>decide (v.1<=u.1))++u::f.filter λv=>decide (u.1<v.1)
theorem Tb{f:List Un}{u:Un}(h:∀v∈f,v.1≠u.1):MZ f u=Id f u:=by
 have e1:(f.filter λv=>decide (v.1<=u.1))=Nk f u.1:=List.filter_congr λv hv=>by have:=h v hv;rw[decide_eq_decide];omega
 have e2:(f.filter λv=>decide (u.1<v.1))=QF f u.1:=List.filter_congr λv hv=>by have:=h v hv;rw[decide_eq_decide];omega
 unfold MZ Id;rw[e1,e2]
theorem Yg{f:List Un}{u:Un}(hf:FV f):FV (MZ f u)↔Fit f u:=by
 constructor
 ·intro h;have hs:=h.srt;have hd:=h.dis;have hl:=h.len;have hid:∀v∈f,v.1≠u.1:=λv hv e=>by unfold MZ at hs;rw[List.pairwise_append]at hs;have:=hs.2.2 v (uQ.2 ⟨hv,dC (by omega)⟩) u zW;omega
  rw[Tb hid]at hd hl;refine⟨hf,h.val u (by unfold MZ;simp),?_,hid,λv hv=>?_⟩
  ·have e2:(Nk f u.1++QF f u.1).length=f.length:=by rw[hf.cut]
   unfold Id at hl;rw[fF]at e2 hl;rw[pC]at hl;omega
  ·unfold Id at hd;rw[List.pairwise_append,yI]at hd;by_cases c:v.1<u.1
   ·rw[Ot];exact hd.2.2 v (uQ.2 ⟨hv,dC c⟩) u zW
   ·exact hd.2.1.1 v (uQ.2 ⟨hv,dC (by omega)⟩)
 ·intro h;rw[Tb h.hi];exact h.fv
section
variable{N:Nat}(hN:1001<=N)
include hN
open Classical in
theorem mB(f:List Un)(hl:f.length<=1000)(u:Un):Bx N f u.1 u.2.1 u.2.2.1 u.2.2.2.1 u.2.2.2.2.1 u.2.2.2.2.2=some (decide (∃v∈f,Hc u v=true)):=by
 have st:∀v:Un,H9 N v.1 v.2.1 v.2.2.1 v.2.2.2.1 v.2.2.2.2.1 v.2.2.2.2.2 u.1 u.2.1 u.2.2.1 u.2.2.2.1 u.2.2.2.2.1 u.2.2.2.2.2=some (Hc u v):=λv=>by unfold H9;rw[uov hN,bS]
 have F:=Hh (L:=A5 N f u.1 u.2.1 u.2.2.1 u.2.2.2.1 u.2.2.2.2.1 u.2.2.2.2.2) (len:=f.length) (λk=>bif Hc u (Ao f k)then some (k:Int)else none) (λn k hk e=>?_) (λn k r hk e=>?_) (λn=>?_) N (by omega)
 ·unfold Bx C0;rcases F with⟨e,h⟩|⟨j,r,hj,h,_,e⟩
  ·rw[e,bS];simp only;rw[bS,dJ (p:=(0:Int)<=-1) (by omega),dJ];rintro⟨v,hv,c⟩;obtain⟨k,hk,rfl⟩:=Ic hv;have:=h k hk;rw[c,cT]at this;cases this
  ·rw[e,bS];simp only;cases c:Hc u (Ao f j)with
   |false=>rw[c,cF]at h;cases h
   |true=>
    rw[c,cT]at h;cases h
    rw[bS,dC (p:=(0:Int)<=(j:Int)) (by omega),dC ⟨_,Bi hj,c⟩]
 ·cases c:Hc u (Ao f k)with
  |true=>rw[c,cT]at e;cases e
  |false=>rw[A5,Ch hk,cT,Cq hk,bS];simp only;rw[st,bS,c,cF,Aa (by unfold Ab;omega),ns]
 ·cases c:Hc u (Ao f k)with
  |false=>rw[c,cF]at e;cases e
  |true=>
   rw[c,cT]at e;cases e
   rw[A5,Ch hk,cT,Cq hk,bS];simp only;rw[st,bS,c,cT]
 ·rw[A5,CT,cF]
omit hN in
theorem V8{f:List Un}{k:Nat}(hk:k<f.length):f.set k ((Ao f k).1,(Ao f k).2.1,(Ao f k).2.2.1,(Ao f k).2.2.2.1,(Ao f k).2.2.2.2.1,(Ao f k).2.2.2.2.2)=f:=by show f.set k (Ao f k)=f;rw[Cj hk,List.set_getElem_self]
omit hN in
theorem Q4{u:Un}(h:UV u):BR N u.2.2.2.1=some u.2.2.2.1:=by have l8:=h.l.l8;unfold BR;rw[Aa (V7 h),Aa (by omega)]
omit hN in
theorem eD{f:List Un}(h:FV f):∀n k,k<=f.length->f.length<n+k->FG N f n k f=some f
 |0,k,h1,h2=>by omega
 |n+1,k,h1,h2=>by
  have hl:=h.len;rw[FG];by_cases e:k=f.length
  ·subst e;rw[CT,cF]
  ·have hk:k<f.length:=by omega
   rw[Ch hk,cT,Cq hk,bS];simp only;rw[Q4 (h.val _ (Bi hk)),bS,Aa (by unfold Ab;omega),uS,V8 hk,<-ns];exact eD h n _ (by omega) (by omega)
omit hN in
theorem eE{f:List Un}(h:FV f):∀n k,k<=f.length->f.length<n+k->Fp N f n k f=some f
 |0,k,h1,h2=>by omega
 |n+1,k,h1,h2=>by
  have hl:=h.len;rw[Fp];by_cases e:k=f.length
  ·subst e;rw[CT,cF]
  ·have hk:k<f.length:=by omega
   rw[Ch hk,cT,Cq hk,bS];simp only;rw[Q4 (h.val _ (Bi hk)),bS,Aa (by unfold Ab;omega),uS,V8 hk,<-ns];exact eE h n _ (by omega) (by omega)
open Classical in
theorem qC(f:List Un)(u:Un):Gk N f u.1 u.2.1 u.2.2.1 u.2.2.2.1 u.2.2.2.2.1 u.2.2.2.2.2=some (if Fit f u then(Id f u,0)else([],120)):=by
 unfold Gk;rw[Jy hN,bS,lZ hN,A8 (λ_=>fD),mN];by_cases c1:FV f/\UV u/\f.length≠12
 ·obtain⟨h1,h2,h3⟩:=c1;have hl:=h1.len;obtain⟨r,p,e⟩:=UL hN h1 u.1;rw[dC h1,UI.2 h2,Az _ (by rw[dJ (by omega)];rfl),e,bS];simp only;rw[mB hN f (by omega) u,A8 (λ_=>fD),mN];by_cases c2:(∃v∈f,v.1=u.1)\/∃v∈f,Hc u v=true
  ·rw[AG _ (by rw[tV,eR,eR];exact c2),eW λh=>?_];rcases c2 with⟨v,hv,e⟩|⟨v,hv,e⟩
   ·exact h.hi v hv e
   ·have:=h.ho v hv;rw[e]at this;cases this
  ·have hid:∀v∈f,v.1≠u.1:=λv hv e=>c2 (.inl ⟨v,hv,e⟩)
   have hov:∀v∈f,Hc u v=false:=λv hv=>by
    cases c:Hc u v with
    |false=>rfl
    |true=>exact absurd (.inr ⟨v,hv,c⟩) c2
   have pl:=p.le;rw[Az _ (by rw[w6,Ne,tV,eR,eR];exact c2),Aa (by omega),<-mK,eD h1 N 0 (by omega) (by omega),bS,Q4 h2,bS,Aa (by omega),Aa (by omega),eX ⟨h1,h2,by omega,hid,hov⟩,uS,p.split.1,p.split.2,qV];rfl
 ·rw[eW λh=>c1 ⟨h.hf,h.hu,by have:=h.hl;omega⟩,AG];by_cases h1:FV f
  ·by_cases h2:UV u
   ·have h3:f.length=12:=by
     by_cases h3:f.length=12
     ·exact h3
     ·exact absurd ⟨h1,h2,h3⟩ c1
    rw[dC (p:=(f.length:Int)=12) (by omega),Bool.or_true]
   ·rw[show V3 u=false by rw[w6];exact λh=>h2 (UI.1 h),S4,Bool.or_true,Bool.true_or]
  ·rw[dJ h1];rfl
open Classical in
theorem Aam(f:List Un)(t:Int):Ex N f t=some (if FV f/\∃u∈f,u.1=t then(Mu f t,0)else([],120)):=by
 unfold Ex;rw[Jy hN,bS];by_cases h1:FV f
 ·have hl:=h1.len;obtain⟨r,p,e⟩:=UL hN h1 t;rw[dC h1,Az _ (by rfl),e,bS];simp only;by_cases c:∃u∈f,u.1=t
  ·obtain⟨g1,g2⟩:=(p.found h1).2 c;have hne:f≠[]:=λe=>by rw[e]at g1;exact absurd g1 (Nat.not_lt_zero _)
   rw[dC c,Az _ (by rfl),eX ⟨h1,c⟩,Aa hne,Aa (by omega),<-mK,eE h1 N 0 (by omega) (by omega),bS,Aa (by unfold Ab;omega),Aa (by omega),Aa (by omega),uS];congr 2;have hlo:∀v∈f.take r,v.1≠t:=λv hv=>by obtain⟨k,hk,rfl⟩:=List.mem_take_iff_getElem.1 hv;have:=p.lo k (by omega);rw[Cj (by omega)]at this;omega
   have hhi:∀v∈f.drop (r+1),v.1≠t:=λv hv=>by obtain⟨k,hk,rfl⟩:=List.mem_drop_iff_getElem.1 hv;have:=GP.1 h1.srt r (k+(r+1)) (by omega) (by omega);rw[Cj (show k+(r+1)<f.length by omega)]at this;simp only[P9 (r+1) k]at*;omega
   have e:f=f.take r++f[r]::f.drop (r+1):=by rw[<-mL g1,KL]
   unfold Mu;conv=>rhs;rw[e,CW,zM]
   rw[List.filter_eq_self.2 λv hv=>by simpa using hlo v hv,List.filter_eq_self.2 λv hv=>by simpa using hhi v hv,eW (by rw[<-Cj g1];simpa using g2)]
  ·rw[dJ c,AG _ (by rfl),eW λh=>c h.2]
 ·rw[dJ h1,AG _ (by rfl),eW λh=>h1 h.1]
end
def IJ(p:List Un)(t:Int):Bool:=p.any λv=>decide (t<v.1)
def J4(p:List Un)(u:Un):List Un:=(p.filter λv=>decide (v.1<=u.1))++((bif IJ p u.1 then[u]else[])++p.filter λv=>decide (u.1<v.1))
theorem ZO{p:List Un}{t:Int}(h:IJ p t=false):(p.filter λv=>decide (t<v.1))=[]:=by rw[List.filter_eq_nil_iff];intro v hv c;unfold IJ at h;rw[List.any_eq_false]at h;exact h v hv c
theorem Yh{p:List Un}{u:Un}:(J4 p u).length<=2*p.length+1:=by have h1:=Oy (λv:Un=>decide (v.1<=u.1)) p;have h2:=Oy (λv:Un=>decide (u.1<v.1)) p;unfold J4;cases IJ p u.1<;>simp<;>omega
theorem uK{f:List Un}(h:FV f){i:Nat}(hi:i<f.length):∀v∈f.take i,v.1<(Ao f i).1:=λv hv=>by obtain⟨k,hk,rfl⟩:=List.mem_take_iff_getElem.1 hv;rw[<-Cj (by omega)];exact GP.1 h.srt k i (by omega) hi
theorem M0{f:List Un}{i:Nat}(hi:i<f.length):f.take (i+1)=f.take i++[Ao f i]:=by rw[Pq hi,Cj hi]
section
variable{N:Nat}(hN:1001<=N)
include hN
omit hN in
theorem TY{f:List Un}(hf:FV f){u:Un}(hu:u.2.2.2.1.length<=1000):∀n i,i<=f.length->f.length<n+i->EU N f u.1 u.2.1 u.2.2.1 u.2.2.2.1 u.2.2.2.2.1 u.2.2.2.2.2 n (IJ (f.take i) u.1) i (J4 (f.take i) u)=some (IJ f u.1,J4 f u)
 |0,i,h1,h2=>by omega
 |n+1,i,h1,h2=>by
  have hl:=hf.len;rw[EU];by_cases e:i=f.length
  ·subst e;rw[CT,cF,Wq]
  ·have hi:i<f.length:=by omega
   have v8:=(hf.val _ (Bi hi)).l.l8;have hlen:=Yh (p:=f.take i) (u:=u);have ht:(f.take i).length=i:=by rw[w8];omega
   have tl:=uK hf hi;rw[Ch hi,cT,A8 (λ_=>by omega),uS,show f.getD i (0,0,0,[],0,0)=Ao f i from rfl];have key:(bif (!IJ (f.take i) u.1)&&decide (u.1<(Ao f i).1)then
     (Bd N u.1 u.2.1 u.2.2.1 u.2.2.2.1 u.2.2.2.2.1 u.2.2.2.2.2).bind λ(r106,r107,r108,r109,r110,r111)=>gd (((J4 (f.take i) u).length+1)*64<=140737488355328)<|some (true,J4 (f.take i) u++[(r106,r107,r108,r109,r110,r111)])
    else some (IJ (f.take i) u.1,J4 (f.take i) u))=some (IJ (f.take (i+1)) u.1,bif (!IJ (f.take i) u.1)&&decide (u.1<(Ao f i).1)then J4 (f.take i) u++[u]else J4 (f.take i) u):=by
    have g:IJ (f.take (i+1)) u.1=(IJ (f.take i) u.1||decide (u.1<(Ao f i).1)):=by rw[M0 hi];unfold IJ;rw[List.any_append,List.any_cons,List.any_nil,Bool.or_false]
    rw[g];cases h3:IJ (f.take i) u.1<;>cases h4:decide (u.1<(Ao f i).1)
    ·rfl
    ·rw[S4,Wk,cT,cT,I7 N hu,bS];simp only;rw[Aa (by omega)];rfl
    ·rfl
    ·rfl
   rw[key,bS];simp only;rw[Cq hi,bS];simp only;rw[I7 N (by omega),bS];have e2:(bif (!IJ (f.take i) u.1)&&decide (u.1<(Ao f i).1)then J4 (f.take i) u++[u]else J4 (f.take i) u)++[Ao f i]=J4 (f.take (i+1)) u:=by
    have g:IJ (f.take (i+1)) u.1=(IJ (f.take i) u.1||decide (u.1<(Ao f i).1)):=by rw[M0 hi];unfold IJ;rw[List.any_append,List.any_cons,List.any_nil,Bool.or_false]
    by_cases c:u.1<(Ao f i).1
    ·rw[dC c,Wk];unfold J4;rw[g,dC c,Bool.or_true,cT,M0 hi,CW,CW,zM,eW (by rw[eR];omega),Q8,qF,zM,eX (by rw[eR];omega),Q8];cases h3:IJ (f.take i) u.1 with
     |false=>rw[S4,cT,cF,ZO h3,qF,qF,qV];rfl
     |true=>rw[T8,cF,cT,qV,qV]
    ·have h3:IJ (f.take i) u.1=false:=by unfold IJ;rw[List.any_eq_false];intro v hv;have:=tl v hv;rw[eR];omega
     rw[dJ c,Bool.and_false,cF];unfold J4;rw[g,dJ c,Bool.or_false,h3,cF,M0 hi,CW,CW,zM,eX (by rw[eR];omega),Q8,zM,eW (by rw[eR];omega),Q8,qF,ZO h3];simp
   show gd ((List.length _+1)*64<=140737488355328) _=_;rw[Aa (by cases((!IJ (f.take i) u.1)&&decide (u.1<(Ao f i).1))<;>simp<;>omega),Aa (by unfold Ab;omega)];have e3:∀l:List Un,l++[((Ao f i).1,(Ao f i).2.1,(Ao f i).2.2.1,(Ao f i).2.2.2.1,(Ao f i).2.2.2.2.1,(Ao f i).2.2.2.2.2)]=l++[Ao f i]:=λl=>rfl
   rw[e3,e2,<-ns];exact TY hf hu n (i+1) (by omega) (by omega)
theorem Aan(f:List Un){u:Un}(hu:u.2.2.2.1.length<=1000):FS N f u.1 u.2.1 u.2.2.1 u.2.2.2.1 u.2.2.2.2.1 u.2.2.2.2.2=some (if Fit f u then(Id f u,0)else([],120)):=by
 unfold FS;rw[Iu hN,bS];by_cases hf:FV f
 ·have hl:=hf.len;have L:=TY (N:=N) hf hu N 0 (by omega) (by omega);have glen:=Yh (p:=f) (u:=u);rw[dC hf,Az _ (by rfl)];rw[Ws,mK]at L;rw[show IJ [] u.1=false from rfl,show J4 [] u=[]from rfl]at L;rw[L,bS];simp only;have key:(bif !IJ f u.1 then(Bd N u.1 u.2.1 u.2.2.1 u.2.2.2.1 u.2.2.2.2.1 u.2.2.2.2.2).bind λ(r148,r149,r150,r151,r152,r153)=>gd (((J4 f u).length+1)*64<=140737488355328)<|some (J4 f u++[(r148,r149,r150,r151,r152,r153)])else some (J4 f u))=some (MZ f u):=by
   cases h:IJ f u.1 with
   |false=>rw[S4,cT,I7 N hu,bS];simp only;rw[Aa (by omega)];unfold J4 MZ;rw[h,cF,ZO h,qF,qF]
   |true=>rw[T8,cF];unfold J4 MZ;rw[h,cT];rfl
  rw[key,bS,Iu hN,bS];by_cases c:Fit f u
  ·rw[dC ((Yg hf).2 c),Az _ (by rfl),eX c,Tb c.hi]
  ·rw[dJ λh=>c ((Yg hf).1 h),AG _ (by rfl),eW c]
 ·rw[dJ hf,AG _ (by rfl),eW λh=>hf h.hf]
end
theorem GV{N:Nat}{c n:Int}(hc:Ab c)(hn:0<n):Ae N c n=some (pk c n):=by
 unfold Ae pk;unfold Ab at hc;by_cases h:c<0
 ·rw[dC h,cT,eX h,Aa (by unfold Ab;omega),Aa (by unfold Ab;omega),Aa (by omega)]
 ·rw[dJ h,cF,eW h,Aa (by omega)]
theorem V9{N:Nat}{c n:Int}(hc:Ab c)(hn:0<n):CH N c n=some (pk c n):=by
 unfold CH pk;unfold Ab at hc;by_cases h:c<0
 ·rw[dC h,cT,eX h,Aa (by unfold Ab;omega),Aa (by unfold Ab;omega),Aa (by omega)]
 ·rw[dJ h,cF,eW h,Aa (by omega)]
def vpT(l:List Pt):Bool:=((decide (3<=l.length)&&decide (l.length<=8))&&l.all λp=>decide (On p))&&(List.range l.length).all λi=>(List.range l.length).all λk=>decide (k=i)||(decide (k=(i+1)%l.length)||decide (0<Ah (pa l i) (pa l ((i+1)%l.length)) (pa l k)))
theorem Aap{l:List Pt}(h:vpT l=true):VP l:=by
 unfold vpT at h;simp only[lP,eR,Ft,Sv,tV]at h;obtain⟨⟨⟨h1,h2⟩,h3⟩,h4⟩:=h;refine⟨h1,h2,h3,λi k hi hk n1 n2=>?_⟩;rcases h4 i hi k hk with e|e|e
 ·exact absurd e n1
 ·exact absurd e n2
 ·exact e
def shp(t:Nat)(a b c d:Int):List Pt:=match t with|0=>[(a,b),(c,b),(c-1,d),(a+1,d)]|1=>[(a+1,b),(c-1,b),(c,d),(a,d)]|2=>[(a,b),(c,b),(c,d)]|3=>[(a,b),(c,d),(a,d)]|_=>[(a,b),(c,b),(c,d),(a,d)]
theorem uL:∀a,a<9->∀b,b<6->∀c,c<4->∀d,d<2->∀t,t<5->vpT (shp t (4*((a:Nat):Int)) (4*((b:Nat):Int)) (min (4*(a:Int)+4*(1+((c:Nat):Int))) 40) (4*(b:Int)+4*(1+((d:Nat):Int))))=true:=by decide+kernel
theorem Aaq{a b c d:Int}(ha:0<=a/\a<9)(hb:0<=b/\b<6)(hc:0<=c/\c<4)(hd:0<=d/\d<2){t:Nat}(ht:t<5):VP (shp t (4*a) (4*b) (min (4*a+4*(1+c)) 40) (4*b+4*(1+d))):=by have:=uL a.toNat (by omega) b.toNat (by omega) c.toNat (by omega) d.toNat (by omega) t ht;rw[Mw ha.1,Mw hb.1,Mw hc.1,Mw hd.1]at this;exact Aap this
theorem Kw{n:Int}(h:Ab n){d:Int}(h1:1<d)(h2:d<=1000):Ab (n.tdiv d):=VQ h h1 h2
def qD(N:Nat)(id x:Int)(l:List Pt):Option Un:=(Ae N x 4).bind λr401=>bif decide (r401=3)then(gd (Ab (x.tdiv 4))<|(Ae N (x.tdiv 4) 4).bind λr413=>gd (Ab (r413+1))<|gd (Ab (x.tdiv 16))<|(Ae N (x.tdiv 16) 4).bind λr415=>gd (Ab ((r413+1)+r415))<|(Ae N id 100).bind λr417=>gd (Ab (x.tdiv 64))<|(Ae N (x.tdiv 64) 8).bind λr419=>gd (Ab (1+r419))<|gd (Ab (x.tdiv 512))<|(Ae N (x.tdiv 512) 8).bind λr421=>some (r417,1+r419,r421,l,r413,(r413+1)+r415))else((Ae N id 100).bind λr423=>gd (Ab (x.tdiv 64))<|(Ae N (x.tdiv 64) 8).bind λr425=>gd (Ab (1+r425))<|gd (Ab (x.tdiv 512))<|(Ae N (x.tdiv 512) 8).bind λr427=>some (r423,1+r425,r427,l,0,4))
theorem NG{N:Nat}{id x:Int}(hi:Ab id)(hx:Ab x){l:List Pt}(hl:VP l):∃u,qD N id x l=some u/\UV u/\u.1=pk id 100:=by
 have k1:=@Gu x 4 (by omega);have k2:=@Gu (x.tdiv 4) 4 (by omega);have k3:=@Gu (x.tdiv 16) 4 (by omega);have k4:=@Gu id 100 (by omega);have k5:=@Gu (x.tdiv 64) 8 (by omega);have k6:=@Gu (x.tdiv 512) 8 (by omega);have d1:=Kw hx (d:=4) (by omega) (by omega);have d2:=Kw hx (d:=16) (by omega) (by omega);have d3:=Kw hx (d:=64) (by omega) (by omega);have d4:=Kw hx (d:=512) (by omega) (by omega);unfold qD;rw[GV hx (by omega),bS];by_cases c:pk x 4=3
 ·rw[dC c,cT,Aa d1,GV d1 (by omega),bS,Aa (by unfold Ab;omega),Aa d2,GV d2 (by omega),bS,Aa (by unfold Ab;omega),GV hi (by omega),bS,Aa d3,GV d3 (by omega),bS,Aa (by unfold Ab;omega),Aa d4,GV d4 (by omega),bS];exact⟨_,rfl,⟨by show 0<=pk id 100/\pk id 100<=99;omega,by show 1<=1+pk (x.tdiv 64) 8/\1+pk (x.tdiv 64) 8<=8;omega,by show 0<=pk (x.tdiv 512) 8/\pk (x.tdiv 512) 8<=7;omega,by show 0<=pk (x.tdiv 4) 4/\pk (x.tdiv 4) 4<pk (x.tdiv 4) 4+1+pk (x.tdiv 16) 4/\pk (x.tdiv 4) 4+1+pk (x.tdiv 16) 4<=8;omega,hl⟩,rfl⟩
 ·rw[dJ c,cF,GV hi (by omega),bS,Aa d3,GV d3 (by omega),bS,Aa (by unfold Ab;omega),Aa d4,GV d4 (by omega),bS];exact⟨_,rfl,⟨by show 0<=pk id 100/\pk id 100<=99;omega,by show 1<=1+pk (x.tdiv 64) 8/\1+pk (x.tdiv 64) 8<=8;omega,by show 0<=pk (x.tdiv 512) 8/\pk (x.tdiv 512) 8<=7;omega,by show(0:Int)<=0/\(0:Int)<4/\(4:Int)<=8;omega,hl⟩,rfl⟩
theorem TZ{N:Nat}{id a b c d e f:Int}(hi:Ab id)(h1:Ab a)(h2:Ab b)(h3:Ab c)(h4:Ab d)(h5:Ab e)(h6:Ab f):∃u:Un,B7 N id a b c d e f=some u/\UV u/\u.1=pk id 100:=by
 have k1:=@Gu a 9 (by omega);have k2:=@Gu b 6 (by omega);have k3:=@Gu c 4 (by omega);have k4:=@Gu d 2 (by omega);have Γ:=λt (ht:t<5)=>Aaq k1 k2 k3 k4 ht
 unfold B7;rw[GV h1 (by omega),bS,Aa (by unfold Ab;omega),GV h2 (by omega),bS,Aa (by unfold Ab;omega),GV h3 (by omega),bS,Aa (by unfold Ab;omega),Aa (by unfold Ab;omega),Aa (by unfold Ab;omega),GV h4 (by omega),bS,Aa (by unfold Ab;omega),Aa (by unfold Ab;omega),Aa (by unfold Ab;omega),GV h5 (by omega),bS];by_cases c4:pk e 8=4
 ·rw[dC c4,cT,Aa (by unfold Ab;omega),Aa (by unfold Ab;omega)];exact NG hi h6 (Γ 0 (by omega))
 rw[dJ c4,cF];by_cases c5:pk e 8=5
 ·rw[dC c5,cT,Aa (by unfold Ab;omega),Aa (by unfold Ab;omega)];exact NG hi h6 (Γ 1 (by omega))
 rw[dJ c5,cF];by_cases c6:pk e 8=6
 ·rw[dC c6,cT];exact NG hi h6 (Γ 2 (by omega))
 rw[dJ c6,cF];by_cases c7:pk e 8=7
 ·rw[dC c7,cT];exact NG hi h6 (Γ 3 (by omega))
 ·rw[dJ c7,cF];exact NG hi h6 (Γ 4 (by omega))
theorem Wa{N:Nat}{id a b c d e f:Int}(hi:Ab id)(h1:Ab a)(h2:Ab b)(h3:Ab c)(h4:Ab d)(h5:Ab e)(h6:Ab f):∃u:Un,B7 N id a b c d e f=some u/\UV u:=by obtain⟨u,k,v,_⟩:=TZ (N:=N) hi h1 h2 h3 h4 h5 h6;exact⟨u,k,v⟩
def I6(x:List (Int×Int×Int×Int×Int×Int)):Prop:=∀r∈x,Ab r.1/\Ab r.2.1/\Ab r.2.2.1/\Ab r.2.2.2.1/\Ab r.2.2.2.2.1/\Ab r.2.2.2.2.2
theorem eF:FV []:=⟨by simp,by simp,List.Pairwise.nil,List.Pairwise.nil⟩
theorem Q5{f:List Un}{u v:Un}:v∈Id f u↔v∈f\/v=u:=by
 unfold Id Nk QF;rw[lO,lJ,uQ,uQ,eR,eR];constructor
 ·rintro(⟨k,_⟩|k|⟨k,_⟩)
  ·exact .inl k
  ·exact .inr k
  ·exact .inl k
 ·rintro(k|k)
  ·by_cases c:v.1<u.1
   ·exact .inl ⟨k,c⟩
   ·exact .inr (.inr ⟨k,by omega⟩)
  ·exact .inr (.inl k)
theorem mC{f:List Un}{u:Un}(h:Fit f u):(Id f u).length=f.length+1:=by
 have e:(Nk f u.1++QF f u.1).length=f.length:=by rw[h.hf.cut]
 rw[fF]at e;unfold Id;rw[fF,pC];omega
theorem mD{c n:Int}(h0:0<=c)(h:c<n):pk c n=c:=by unfold pk;rw[eW (by omega),Int.tmod_eq_of_lt h0 h]
structure Frst(i:Nat)(f:List Un):Prop where
 fv:FV f
 len:f.length<=i
 ids:∀u∈f,u.1<3*i
theorem Frst.up{i:Nat}{f:List Un}(h:Frst i f){j:Nat}(hj:i<=j):Frst j f:=⟨h.fv,by have:=h.len;omega,λu hu=>by have:=h.ids u hu;omega⟩
theorem Px{N:Nat}(hN:1001<=N){x:List (Int×Int×Int×Int×Int×Int)}(hx:I6 x):∀n i f,i<=12->i<=x.length->12<n+i->Frst i f->∃g,DU N x n (i:Nat) f=some g/\Frst (min x.length 12) g
 |0,i,f,h1,_,h2,_=>by omega
 |n+1,i,f,h1,h3,h2,hf=>by
  rw[DU];by_cases c:i<x.length/\i<12
  ·have hr:=hx _ (S7 c.1);have k:=@Gu (x[i].2.2.2.2.2) 3 (by omega);rw[Ch c.1,Xi,dC (p:=(i:Int)<12) (by omega),cT,Aa (by unfold Ab;omega),C7,eV c.1,bS];generalize x[i]=r at hr k;obtain⟨a,b,c1,d,e,g⟩:=r;simp only at hr k⊢;obtain⟨u,hu,vu,iu⟩:=TZ (N:=N) (id:=3*(i:Int)+pk g 3) (by unfold Ab;omega) hr.1 hr.2.1 hr.2.2.1 hr.2.2.2.1 hr.2.2.2.2.1 hr.2.2.2.2.2;have iu:u.1<3*((i+1:Nat):Int):=by rw[iu,mD (by omega) (by omega)];omega
   have l8:=vu.l.l8;have ha:=Aan hN f (u:=u) (by omega);obtain⟨u1,u2,u3,u4,u5,u6⟩:=u;simp only at ha iu;rw[GV hr.2.2.2.2.2 (by omega),bS,Aa (by unfold Ab;omega),hu,bS];simp only;rw[ha,bS];by_cases ft:Fit f (u1,u2,u3,u4,u5,u6)
   ·rw[eX ft];simp only;rw[AG _ (by rfl),Aa (by unfold Ab;omega),<-ns];refine Px hN hx n (i+1) _ (by omega) (by omega) (by omega) ⟨ft.fv,by rw[mC ft];have:=hf.len;omega,λv hv=>?_⟩;rcases Q5.1 hv with q|q
    ·exact(hf.up (Nat.le_succ i)).ids v q
    ·rw[q];exact iu
   ·rw[eW ft];simp only;rw[Az _ (by rfl),Aa (by unfold Ab;omega),<-ns];exact Px hN hx n (i+1) _ (by omega) (by omega) (by omega) (hf.up (Nat.le_succ i))
  ·rw[Az _ (by rw[KV,eS,eS];omega)];exact⟨f,rfl,hf.up (by omega)⟩
theorem eG{N:Nat}(hN:1001<=N){x:List (Int×Int×Int×Int×Int×Int)}(hx:I6 x):∃f,DZ N x=some f/\Frst (min x.length 12) f:=by obtain⟨f,h,v⟩:=Px hN hx N 0 [] (by omega) (by omega) (by omega) ⟨eF,by simp,by simp⟩;unfold DZ;rw[mK]at h;rw[h,bS];exact⟨f,rfl,v⟩
theorem Py{N:Nat}(hN:1001<=N){x:List (Int×Int×Int×Int×Int×Int)}(hx:I6 x):∃f,DZ N x=some f/\FV f:=by obtain⟨f,h,v⟩:=eG hN hx;exact⟨f,h,v.fv⟩
