import Derived.Test.YtciphecegkfaiaaGreatNE
import Derived.Test.YtciphecegkfaiaaGreatNF
import Derived.Test.YtciphecegkfaiaaGreatNZ
import Derived.Test.YtciphecegkfaiaaGreatFR
import Derived.Test.YtciphecegkfaiaaGreatF6
set_option linter.unusedSimpArgs false
set_option linter.unusedVariables false
set_option linter.unusedSectionVars false
namespace Go.Proofs.YtciphecegkfaiaaGreat.Am
section
variable{N:Nat}(hN:1001<=N)
include hN
theorem Ab4{u:Un}(h:UV u):EC N u.1 u.2.1 u.2.2.1 u.2.2.2.1 u.2.2.2.2.1 u.2.2.2.2.2=some (Ox u):=by obtain⟨r,e1,e2,_⟩:=nK hN u.1 u.2.1 u.2.2.1 u.2.2.2.1 u.2.2.2.2.1 u.2.2.2.2.2;rw[WS (by omega) h]at e1;rw[e2,<-e1];rfl
theorem Aaz{u:Un}(h:UV u):Eb N u.1 u.2.1 u.2.2.1 u.2.2.2.1 u.2.2.2.2.1 u.2.2.2.2.2=some (match EW u with|some c=>(c,true)|none=>(JV,false)):=by obtain⟨r,e1,e2⟩:=vN hN u.1 u.2.1 u.2.2.1 u.2.2.2.1 u.2.2.2.2.1 u.2.2.2.2.2;rw[Sr (by omega) h]at e1;exact e2.trans e1.symm
theorem AdH{u v:Un}(h:UV u)(h':UV v):E8 N u.1 u.2.1 u.2.2.1 u.2.2.2.1 u.2.2.2.2.1 u.2.2.2.2.2 v.1 v.2.1 v.2.2.1 v.2.2.2.1 v.2.2.2.2.1 v.2.2.2.2.2=some (match Ey u v with|some c=>(c,true)|none=>(JV,false)):=by obtain⟨r,e1,e2⟩:=Aa0 hN u.1 u.2.1 u.2.2.1 u.2.2.2.1 u.2.2.2.2.1 u.2.2.2.2.2 v.1 v.2.1 v.2.2.1 v.2.2.2.1 v.2.2.2.2.1 v.2.2.2.2.2;rw[ZP hN h h']at e1;exact e2.trans e1.symm
theorem T9{f:List Un}(h:FV f):∀n i (o:Int),i<=f.length->f.length<n+i->(-128000000*i<=o/\o<=128000000*i)->DT N f n o (i:Nat)=some (o+Nl (f.drop i))
 |0,i,o,h1,h2,_=>by omega
 |n+1,i,o,h1,h2,h3=>by
  have hl:=h.len;rw[DT];by_cases e:i=f.length
  ·subst e;rw[CT,cF,w5];unfold Nl;simp
  ·have hi:i<f.length:=by omega
   have u:=h.val _ (Bi hi);have vb:=Wi u;rw[Ch hi,cT,Cq hi,bS];simp only;rw[Ab4 hN u,bS,Aa (by unfold Ab;omega),Aa (by unfold Ab;omega),<-ns,T9 h n (i+1) _ (by omega) (by omega) (by omega),mL hi,<-Cj hi];unfold Nl;rw[eZ,List.sum_cons,Int.add_assoc]
theorem mR(f:List Un):∃r,A7 N f=some r/\AT N f=some r:=by
 by_cases h:FV f
 ·have hl:=h.len;have L:=T9 hN h N 0 0 (by omega) (by omega) (by omega);rw[mK,uP,X3]at L;refine⟨_,AdG hN h,?_⟩;unfold AT;rw[Iu hN,bS,dC h,Az _ (by rfl),L,bS]
 ·refine⟨0,?_,?_⟩
  ·unfold A7;rw[Jy hN,bS,dJ h,AG _ (by rfl)]
  ·unfold AT;rw[Iu hN,bS,dJ h,AG _ (by rfl)]
theorem Te{f:List Un}(h:FV f){u:Un}(hu:UV u):∀n i (l:List EX),i<=f.length->f.length<n+i->l.length+(f.length-i)<=1000->Cy N f u.1 u.2.1 u.2.2.1 u.2.2.2.1 u.2.2.2.2.1 u.2.2.2.2.2 n (i:Nat) l=some (l++(f.drop i).filterMap (Ey u))
 |0,i,l,h1,h2,_=>by omega
 |n+1,i,l,h1,h2,h3=>by
  have hl:=h.len;rw[Cy];by_cases e:i=f.length
  ·subst e;rw[CT,cF,w5];simp
  ·have hi:i<f.length:=by omega
   rw[Ch hi,cT,Cq hi,bS];simp only;rw[AdH hN hu (h.val _ (Bi hi)),bS,mL hi,List.filterMap_cons,<-Cj hi];cases hs:Ey u (Ao f i)with
   |none=>simp only[JV];rw[cF,Aa (by unfold Ab;omega),<-ns];exact Te h hu n (i+1) l (by omega) (by omega) (by omega)
   |some c=>obtain⟨c1,c2,⟨⟨c3,c4⟩,c5,c6⟩,c7,c8⟩:=c;simp only;rw[cT,Aa (by omega),Aa (by unfold Ab;omega),<-ns,Te h hu n (i+1) _ (by omega) (by omega) (by simp;omega),qV];rfl
theorem YA{f:List Un}(h:FV f):∀n i (l:List EX),i<=f.length->f.length<n+i->l.length<=20*i->C1 N f n (i:Nat) l=some (l++BX (f.drop i))
 |0,i,l,h1,h2,_=>by omega
 |n+1,i,l,h1,h2,h3=>by
  have hl:=h.len;rw[C1];by_cases e:i=f.length
  ·subst e;rw[CT,cF,w5,BX];simp
  ·have hi:i<f.length:=by omega
   have u:=h.val _ (Bi hi);have fl:=Lk (Ey (Ao f i)) (f.drop (i+1));rw[s9]at fl;rw[Ch hi,cT,Cq hi,bS];simp only;rw[Aaz hN u,bS];have key:∀r,r=l++(EW (Ao f i)).toList->(gd (Ab ((i:Int)+1))<|(Cy N f (Ao f i).1 (Ao f i).2.1 (Ao f i).2.2.1 (Ao f i).2.2.2.1 (Ao f i).2.2.2.2.1 (Ao f i).2.2.2.2.2 N ((i:Int)+1) r).bind λl575=>gd (Ab ((i:Int)+1))<|C1 N f n ((i:Int)+1) l575)=some (l++BX (f.drop i)):=by
    rintro r rfl;have tl:(EW (Ao f i)).toList.length<=1:=by cases EW (Ao f i)<;>simp
    rw[Aa (by unfold Ab;omega),<-ns,Te hN h u N (i+1) _ (by omega) (by omega) (by rw[fF];omega),bS,Aa (by unfold Ab;omega),YA h n (i+1) _ (by omega) (by omega) (by rw[fF,fF];omega),mL hi,BX,<-Cj hi,qV,qV]
   cases hs:EW (Ao f i)with
   |none=>simp only[JV];rw[cF,bS];exact key _ (by rw[hs];simp)
   |some c=>rw[hs]at key;obtain⟨c1,c2,⟨⟨c3,c4⟩,c5,c6⟩,c7,c8⟩:=c;simp only;rw[cT,Aa (by omega),bS];exact key _ rfl
theorem UN(f:List Un):AQ N f=some (if FV f then BX f else[]):=by
 unfold AQ;rw[Iu hN,bS];by_cases h:FV f
 ·have hl:=h.len;have L:=YA hN h N 0 [] (by omega) (by omega) (by simp);rw[mK,uP,nJ]at L;rw[dC h,Az _ (by rfl),L,bS,eX h]
 ·rw[dJ h,AG _ (by rfl),eW h]
omit hN in
theorem Tf{f:List Un}(h:FV f)(t:Int):∀n i (l:List Un),i<=f.length->f.length<n+i->l.length<=i->Dn N f t n (i:Nat) l=some (l++(f.drop i).filter λv=>decide (v.1≠t))
 |0,i,l,h1,h2,_=>by omega
 |n+1,i,l,h1,h2,h3=>by
  have hl:=h.len;rw[Dn];by_cases e:i=f.length
  ·subst e;rw[CT,cF,w5];simp
  ·have hi:i<f.length:=by omega
   have v8:=(h.val _ (Bi hi)).l.l8;rw[Ch hi,cT,Cq hi,bS];simp only;rw[mL hi,zM,<-Cj hi];by_cases c:(Ao f i).1≠t
   ·have hcp:Bd N (Ao f i).1 (Ao f i).2.1 (Ao f i).2.2.1 (Ao f i).2.2.2.1 (Ao f i).2.2.2.2.1 (Ao f i).2.2.2.2.2=some ((Ao f i).1,(Ao f i).2.1,(Ao f i).2.2.1,(Ao f i).2.2.2.1,(Ao f i).2.2.2.2.1,(Ao f i).2.2.2.2.2):=I7 N (by omega);rw[AG _ (dC c),hcp,bS];simp only;rw[Aa (by omega),Aa (by unfold Ab;omega),<-ns,Tf h t n (i+1) _ (by omega) (by omega) (by simp;omega),eX (dC c),qV];rfl
   ·rw[Az _ (dJ c),Aa (by unfold Ab;omega),<-ns,Tf h t n (i+1) _ (by omega) (by omega) (by omega),eW (by rw[eR];exact c)]
open Classical in
theorem AdI{f:List Un}(hl:f.length<=1000)(t:Int):FI N f t=some (if FV f/\∃u∈f,u.1=t then(Mu f t,0)else([],120)):=by
 have hf:DY N f t=some (((Cr f t).1.1,(Cr f t).1.2.1,(Cr f t).1.2.2.1,(Cr f t).1.2.2.2.1,(Cr f t).1.2.2.2.2.1,(Cr f t).1.2.2.2.2.2),(Cr f t).2):=qB hN hl t;unfold FI;rw[hf,bS]
 (try simp only)
 by_cases h:FV f
 ·have h2:(Cr f t).2=decide (∃u∈f,u.1=t):=by
   unfold Cr;rw[eX h];by_cases c:∃v∈f,v.1=t
   ·rw[dC c];obtain⟨v,hv,rfl⟩:=c;obtain⟨k,hk,rfl⟩:=Ic hv;rw[Qf h hk]
   ·rw[dJ c,Ta c]
  have hl:=h.len;have L:=Tf (N:=N) h t N 0 [] (by omega) (by omega) (by simp);rw[mK,uP,nJ]at L;rw[h2];by_cases c:∃u∈f,u.1=t
  ·rw[dC c,Az _ (by rfl),L,bS,eX ⟨h,c⟩];rfl
  ·rw[dJ c,AG _ (by rfl),eW λq=>c q.2]
 ·have h2:(Cr f t).2=false:=by unfold Cr;rw[eW h]
  rw[h2,AG _ (by rfl),eW λq=>h q.1]
theorem Wx{f:List Un}(hl:f.length<=12)(dx dy:Int):∀n i (l:List Un),i<=f.length->f.length<n+i->l.length<=i->(∀u∈l,u.2.2.2.1.length<=8)->∃o:Sum (List Un) (List Un×Int),EL N f dx dy n (i:Nat) l=some o/\EE N f dx dy n (i:Nat) l=some o/\((∃r,o=.inl r/\r.length<=f.length/\∀u∈r,u.2.2.2.1.length<=8)\/o=.inr ([],120))
 |0,i,l,h1,h2,_,_=>by omega
 |n+1,i,l,h1,h2,h3,h4=>by
  rw[EL,EE];by_cases e:i=f.length
  ·subst e;rw[CT,cF,cF];exact⟨_,rfl,rfl,.inl ⟨l,rfl,by omega,h4⟩⟩
  ·have hi:i<f.length:=by omega
   obtain⟨⟨⟨r1,r2,r3,r4,r5,r6⟩,r7⟩,e1,e2,e3⟩:=Aci hN (Ao f i).1 (Ao f i).2.1 (Ao f i).2.2.1 (Ao f i).2.2.2.1 (Ao f i).2.2.2.2.1 (Ao f i).2.2.2.2.2 dx dy;rw[Ch hi,cT,cT,Cq hi,bS,bS];simp only;rw[e1,e2,bS,bS];simp only;by_cases c:r7≠0
   ·rw[AG _ (dC c),AG _ (dC c)];exact⟨_,rfl,rfl,.inr rfl⟩
   ·rw[Az _ (dJ c),Az _ (dJ c),Aa (by omega),Aa (by unfold Ab;omega),Aa (by omega),Aa (by unfold Ab;omega),<-ns];exact Wx hl dx dy n (i+1) _ (by omega) (by omega) (by simp;omega) λu hu=>by
     rcases lO.1 hu with hu|hu
     ·exact h4 u hu
     ·rw[y9.1 hu];exact e3
theorem fI(f:List Un)(dx dy:Int):∃r:List Un×Int,FY N f dx dy=some r/\Gm N f dx dy=some r/\r.1.length<=12/\∀u∈r.1,u.2.2.2.1.length<=8:=by
 unfold FY Gm;rw[Jy hN,Iu hN,bS,bS];by_cases h:FV f
 ·have hl:=h.len;obtain⟨o,e1,e2,k⟩:=Wx hN hl dx dy N 0 [] (by omega) (by omega) (by simp) (by simp);rw[mK]at e1 e2;rw[dC h,Az _ (by rfl),Az _ (by rfl),e1,e2,bS,bS];rcases k with⟨r,rfl,k1,k2⟩|rfl
  ·exact⟨_,rfl,rfl,by simp only;omega,k2⟩
  ·exact⟨_,rfl,rfl,by simp,by simp⟩
 ·rw[dJ h,AG _ (by rfl),AG _ (by rfl)];exact⟨_,rfl,rfl,by simp,by simp⟩
omit hN in
theorem YB{o:List (Int×Int)}(ho:o.length<=1000)(a b:Int):∀n k,k<=o.length->o.length<n+k->∃j:Nat,k<=j/\j<=o.length/\DC N o a b n (k:Nat)=some (j:Int)/\IP HI (a,b) (o.drop k)=(o.drop k).take (j-k)++(a,b)::o.drop j
 |0,k,h1,h2=>by omega
 |n+1,k,h1,h2=>by
  rw[DC];by_cases e:k=o.length
  ·subst e;rw[CT,A8 (λh=>by cases h),A8 (λh=>by cases h),A8 (λh=>by cases h),Az _ (by rfl)];exact⟨o.length,fA _,fA _,rfl,by rw[w5,X2,IP];rfl⟩
  ·have hk:k<o.length:=by omega
   have ek:o.getD k (0,0)=o[k]:=by rw[eT,eV hk];rfl
   rw[A8 (λ_=>by omega),A8 (λ_=>by omega),A8 (λ_=>by omega),Ch hk,Xi,uS,ek,mL hk];by_cases c:(decide (o[k].1<a)||(decide (o[k].1=a)&&decide (o[k].2<b)))=true
   ·have c':HI (a,b) o[k]=false:=by unfold HI;rw[tV,lP,eR,eR,eR]at c;rw[dC c];rfl
    obtain⟨j,j1,j2,j3,j4⟩:=YB ho a b n (k+1) (by omega) (by omega);rw[AG _ c,Aa (by unfold Ab;omega),<-ns];refine⟨j,by omega,j2,j3,?_⟩;unfold IP;rw[c',cF,j4,show j-k=j-(k+1)+1 by omega,QZ];rfl
   ·have c':HI (a,b) o[k]=true:=by unfold HI;rw[tV,lP,eR,eR,eR]at c;rw[dJ c];rfl
    rw[Az _ (by rw[w6];exact c)];refine⟨k,fA _,h1,rfl,?_⟩;unfold IP;rw[c',cT,X2,Ws,nJ,mL hk]
omit hN in
theorem YC{cs:List EX}(hN':1001<=N)(hc:cs.length<=1000):∀n i (o:List (Int×Int)),i<=cs.length->cs.length<n+i->o.length<=i->C6 N cs n o (i:Nat)=some (((cs.drop i).filterMap Hl).foldl (λo p=>IP HI p o) o)
 |0,i,o,h1,h2,_=>by omega
 |n+1,i,o,h1,h2,h3=>by
  rw[C6];by_cases e:i=cs.length
  ·subst e;rw[CT,cF,w5];rfl
  ·have hi:i<cs.length:=by omega
   have ih:=λo h=>YC hN' hc n (i+1) o (by omega) (by omega) h
   have ins:∀(p:Int×Int),(DC N o p.1 p.2 N 0).bind (λk79=>gd (0<=0/\0<=k79/\k79<=k79/\k79<=(o.length:Int))<|gd (0<=k79/\k79<=(o.length:Int))<|gd ((1+(o.drop k79.toNat).length)*16<=140737488355328)<|gd (((o.take (k79.toNat-0)).length+1+(o.drop k79.toNat).length)*16<=140737488355328)<|gd (Ab ((i:Int)+1))<|C6 N cs n (o.take (k79.toNat-0)++([(p.1,p.2)]++(o.drop k79.toNat))) ((i:Int)+1))=some (((cs.drop (i+1)).filterMap Hl).foldl (λo p=>IP HI p o) (IP HI p o)):=λp=>by obtain⟨j,j1,j2,j3,j4⟩:=YB (N:=N) (o:=o) (by omega) p.1 p.2 N 0 (by omega) (by omega);rw[mK]at j3;rw[uP,TU]at j4;have l1:=s9 (i:=j) (l:=o);have l2:=List.length_take_le j o;rw[j3,bS,Aa (by omega),Aa (by omega),uS,Aa (by omega),TU,Aa (by omega),Aa (by unfold Ab;omega),<-ns,ih _ (by rw[fF,fF,KU];have:=w8 (i:=j) (l:=o);omega)];rw[show o.take j++([(p.1,p.2)]++o.drop j)=IP HI p o from j4.symm]
   rw[Ch hi,cT,C7,eV hi,bS,mL hi,List.filterMap_cons];generalize cs[i]=c;obtain⟨c1,c2,⟨⟨c3,c4⟩,c5,c6⟩,c7,c8⟩:=c;simp only[Hl];by_cases k0:c3=c5
   ·rw[AG _ (dC k0),eW (by omega),eW (by omega),Aa (by unfold Ab;omega),<-ns];exact ih o (by omega)
   ·rw[Az _ (dJ k0)];by_cases k1:c3<c5
    ·rw[Az _ (dJ (show¬c5<c3 by omega)),bS,eX k1];exact ins (c1,c2)
    ·rw[AG _ (dC (show c5<c3 by omega)),bS,eW k1,eX (show c5<c3 by omega)];exact ins (c2,c1)
omit hN in
theorem Wy:∀(l o:List (Int×Int)),o.Pairwise (λa b=>HI a b=true)->(l.foldl (λo p=>IP HI p o) o).Pairwise (λa b=>HI a b=true)/\(l.foldl (λo p=>IP HI p o) o).Perm (l++o)
 |[],o,h=>⟨h,.refl _⟩
 |p::l,o,h=>by obtain⟨h1,h2⟩:=Wy l (IP HI p o) (Wu Sx Qk p o h);refine⟨h1,h2.trans ?_⟩;refine(List.Perm.append_left l (OD HI p o)).trans ?_;rw[s8];exact List.perm_middle
theorem AaA(f:List Un):BU N f=some (if FV f then Hm f else[]):=by
 unfold BU;rw[UN hN,bS];have hc:(if FV f then BX f else[]).length<=1000:=by split;exact KT ‹_›;simp
 have L:=YC (N:=N) hN hc N 0 [] (by omega) (by omega) (by simp);rw[mK,uP]at L;rw[L,bS];by_cases h:FV f
 ·rw[eX h,eX h];obtain⟨h1,h2⟩:=Wy ((BX f).filterMap Hl) [] List.Pairwise.nil;rw[qF]at h2;congr 1;refine List.Perm.eq_of_pairwise (le:=λa b=>HI a b=true) (λa b _ _ h1 h2=>?_) h1 (NH Sx Qk _) (h2.trans (Jb HI _).symm);rw[Qj]at h1 h2;exact Rl (by omega) (by omega)
 ·rw[eW h,eW h];rfl
end
