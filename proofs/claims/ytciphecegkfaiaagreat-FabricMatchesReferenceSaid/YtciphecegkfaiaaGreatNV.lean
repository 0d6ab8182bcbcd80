import Derived.Test.YtciphecegkfaiaaGreatNY
import Derived.Test.YtciphecegkfaiaaGreatN6
import Derived.Test.YtciphecegkfaiaaGreatL8
set_option linter.unusedSimpArgs false
set_option linter.unusedVariables false
set_option linter.unusedSectionVars false
namespace Go.Proofs.YtciphecegkfaiaaGreat.Am
section
variable{N:Nat}(hN:1001<=N)
include hN
theorem Yy{f:List Un}(h:FV f):∀n i (o:List UInt8),i<=f.length->f.length<n+i->o.length<=10+1010*i->D8 N f n o i=some (o++Lt (f.drop i))
 |0,i,o,h1,h2,_=>by omega
 |n+1,i,o,h1,h2,h3=>by
  have hl:=h.len;rw[D8];by_cases e:i=f.length
  ·subst e;rw[CT,cF,w5];simp[Lt]
  ·have hi:i<f.length:=by omega
   have u:=h.val _ (Bi hi);have el:=Qq u;have pl:=LZ ((eU (Ao f i)).length:Int);have e4:(eU (Ao f i)).length<=1000:=el.2;have sl:(KP (eU (Ao f i))).length<=1010:=by unfold KP;rw[fF];omega
   rw[Ch hi,cT,Cq hi,bS];simp only;rw[iF (by omega) u,bS];simp only;rw[show IQ (Ao f i).1 (Ao f i).2.1 (Ao f i).2.2.1 (Ao f i).2.2.2.1 (Ao f i).2.2.2.2.1 (Ao f i).2.2.2.2.2=eU (Ao f i)from rfl];unfold FZ;rw[Az _ (by rw[eS];omega),Qp (by omega),bS];simp only;rw[Aa (by rw[fF];omega),bS];simp only;rw[show EV ((eU (Ao f i)).length:Int)++eU (Ao f i)=KP (eU (Ao f i))from rfl,Aa (by rw[fF];omega),Aa (by unfold Ab;omega),<-ns,Yy h n (i+1) _ (by omega) (by omega) (by rw[fF];omega),mL hi,Lt,<-Cj hi,qV]
theorem fH(f:List Un):ET N f=some (if FV f then(I8 f,0)else([],120)):=by
 unfold ET;rw[Iu hN,bS];by_cases h:FV f
 ·have hl:=h.len;have e:=Yy hN h N 0 (EV (f.length:Int)) (by omega) (by omega) (by have:=LZ (f.length:Int);omega);rw[mK,uP]at e;rw[dC h,Az _ (by rfl),Qp (by omega),bS];simp only;rw[e,bS,eX h];rfl
 ·rw[dJ h,AG _ (by rfl),eW h]
theorem uT{s:List UInt8}{p:Nat}(hs:s.length<=1000000000)(hp:p<=s.length):(∃t k,Pz (s.drop p)=some (t,k)/\p+k<=s.length/\ES N s p=some (t,((p+k:Nat):Int),0))\/(Pz (s.drop p)=none/\ES N s p=some ([],0,10)):=by
 unfold ES Pz;rw[NL (by omega) hs hp,bS];cases hr:EF (s.drop p)with
 |none=>right;simp only;exact⟨rfl,by rw[AG _ (by rfl)]⟩
 |some nm=>
  obtain⟨n,m⟩:=nm;obtain⟨wn,_,h3,_⟩:=Hf hr;rw[s9]at h3;unfold Wr at wn;simp only;rw[Az _ (by rfl),A8 (λ_=>by unfold Ab;omega),pA];simp only;rw[s9];by_cases c:(0<=n/\n<=65536)/\m+n.toNat<=s.length-p
  ·left;rw[eX c];refine⟨_,_,rfl,by omega,?_⟩;rw[Az _ (by rw[Fj,Fj,eS,eS,eS];omega),Aa (by unfold Ab;omega),Aa (by omega),Aa (by unfold Ab;omega)];have e1:(((p+m:Nat):Int)+n).toNat-((p+m:Nat):Int).toNat=n.toNat:=by omega
   have e2:((p+m:Nat):Int)+n=((p+(m+n.toNat):Nat):Int):=by omega
   rw[e1,e2,uS,zV]
  ·right;rw[eW c];refine⟨rfl,?_⟩;rw[AG _ (by rw[tV,tV,eR,eR,eR];omega)]
theorem Yz{s:List UInt8}(hs:s.length<=1000000000){n:Nat}(hn:n<=12):∀(k fu p i:Nat)(l:List Un),i+k=n->k<fu->p<=s.length->l.length=i->(∃us w,KQ k (s.drop p)=some (us,w)/\w.length<=s.length/\CS N n s fu p i l=some (.inl (((s.length-w.length:Nat):Int),l++us)))\/(KQ k (s.drop p)=none/\CS N n s fu p i l=some (.inr ([],120)))
 |_,0,p,i,l,_,h2,_,_=>by omega
 |0,fu+1,p,i,l,h1,h2,h3,h4=>by left;refine⟨[],s.drop p,rfl,by rw[s9];omega,?_⟩;rw[CS,Az _ (by rw[eS];omega),qF,s9,show s.length-(s.length-p)=p by omega]
 |k+1,fu+1,p,i,l,h1,h2,h3,h4=>by
  rw[CS,AG _ (dC (p:=(i:Int)<(n:Int)) (by omega)),KQ];rcases uT hN hs h3 with⟨t,j,e1,e2,e3⟩|⟨e1,e3⟩
  ·have ht:t.length<=65536:=(Q6 e1).1;rw[e1,e3,bS,pA];simp only;rw[Az _ (by rfl),vP (by omega) (by omega),bS];cases hd:KY t with
   |none=>right;refine⟨rfl,?_⟩;simp only;rw[AG _ (by rfl)]
   |some u=>
    obtain⟨u1,u2,u3,u4,u5,u6⟩:=u;simp only;rw[Az _ (by rfl),Aa (by omega),Aa (by unfold Ab;omega),<-ns,pA,zV];rcases Yz hs hn k fu (p+j) (i+1) (l++[(u1,u2,u3,u4,u5,u6)]) (by omega) (by omega) (by omega) (by simp[h4])with⟨us,w,g1,g2,g3⟩|⟨g1,g3⟩
    ·left;rw[g1,g3];exact⟨_,w,rfl,g2,by rw[qV];rfl⟩
    ·right;rw[g1,g3];exact⟨rfl,rfl⟩
  ·right;rw[e1,e3,bS];refine⟨rfl,?_⟩;simp only;rw[AG _ (by rfl)]
theorem Aay{s:List UInt8}(hs:s.length<=1000000000):FJ N s=some (match Ou s with|some f=>(f,0)|none=>([],120)):=by
 unfold FJ Ou;have hi:=NL (N:=N) (s:=s) (p:=0) (by omega) hs (t7 _);rw[uP,mK]at hi;rw[hi,bS];cases hr:EF s with
 |none=>simp only;rw[AG _ (by rfl)];rfl
 |some nm=>
  obtain⟨n,m⟩:=nm;obtain⟨_,_,h3,_⟩:=Hf hr;simp only;rw[pA];simp only;by_cases c:0<=n/\n<=12
  ·rw[eX c,Az _ (by rw[Fj,Fj,eS,eS,eS];omega)];rcases Yz hN hs (n:=n.toNat) (by omega) n.toNat N (0+m) 0 [] (by omega) (by omega) (by omega) rfl with⟨us,w,g1,g2,g3⟩|⟨g1,g3⟩
   ·rw[Mw c.1,mK]at g3;rw[g3,bS,s6]at*;rw[g1,pA];simp only;rw[Iu hN,A8 (λ_=>fD),mN,nJ];by_cases k:w=[]/\FV us
    ·rw[eX k,dC k.2,k.1,Az _ (by rw[dJ (by simp)];rfl)]
    ·rw[eW k,AG];by_cases k1:w=[]
     ·rw[dJ λh=>k ⟨k1,h⟩,S4,Bool.or_true]
     ·have:0<w.length:=List.length_pos_iff.2 k1;rw[dC (by omega)];rfl
   ·rw[Mw c.1,mK]at g3;rw[g3,bS];rw[s6]at g1;rw[g1];rfl
  ·rw[eW c,AG _ (by rw[tV,tV,eR,eR,eR];omega)]
theorem Ww(hN2:N<=100000){f:List Un}(hf:f.length<=1000){u:Un}(hu:u.2.2.2.1.length<=1000)(id dx dy:Int):Bp N f u.1 u.2.1 u.2.2.1 u.2.2.2.1 u.2.2.2.2.1 u.2.2.2.2.2 id dx dy=some true:=by
 obtain⟨v,v1,v2⟩:=mR hN f;obtain⟨j,o,⟨j1,j2⟩,⟨o1,o2⟩,jl,jl2,ol⟩:=Xk hN f;obtain⟨m,m1,m2,ml,ms⟩:=fI hN f dx dy;have hc:(if FV f then BX f else[]).length<N:=by
  split
  ·have:=KT ‹FV f›;omega
  ·simp;omega
 have hr:(if FV f then Hm f else[]).length<N:=by
  split
  ·have:=KT ‹FV f›;have:=Lk Hl (BX f);rw[(M2 f).length_eq];omega
  ·simp;omega
 have hs:∀{g:List Un},g.length<=13->(∀u∈g,u.2.2.2.1.length<=1000)->AD N g g=some true:=λ{g} h1 h2=>by rw[qJ hN2 g (by omega) (λu hu=>by have:=h2 u hu;omega),dC rfl]
 have fvs:∀{g:List Un},FV g->AD N g g=some true:=λ{g} h=>hs (by have:=h.len;omega) λu hu=>by have:=(h.val u hu).l.l8;omega
 have ff:Fi N f id=some (((Cr f id).1.1,(Cr f id).1.2.1,(Cr f id).1.2.2.1,(Cr f id).1.2.2.2.1,(Cr f id).1.2.2.2.2.1,(Cr f id).1.2.2.2.2.2),(Cr f id).2):=qA hN f id;have rf:DY N f id=some (((Cr f id).1.1,(Cr f id).1.2.1,(Cr f id).1.2.2.1,(Cr f id).1.2.2.2.1,(Cr f id).1.2.2.2.2.1,(Cr f id).1.2.2.2.2.2),(Cr f id).2):=qB hN hf id;have fs:(Cr f id).1.2.2.2.1.length<N:=by
  unfold Cr;split
  ·rename_i h;split
   ·rename_i u hu;have:=(h.val u (List.mem_of_find?_eq_some hu)).l.l8;simp only;omega
   ·simp[V6];omega
  ·simp[V6];omega
 have su:BZ N (Cr f id).1.1 (Cr f id).1.2.1 (Cr f id).1.2.2.1 (Cr f id).1.2.2.2.1 (Cr f id).1.2.2.2.2.1 (Cr f id).1.2.2.2.2.2 (Cr f id).1.1 (Cr f id).1.2.1 (Cr f id).1.2.2.1 (Cr f id).1.2.2.2.1 (Cr f id).1.2.2.2.2.1 (Cr f id).1.2.2.2.2.2=some true:=by rw[ZX hN2 fs,dC rfl]
 have fa:=qC hN f u;have ra:=Aan hN f hu;have fr:=Aam hN f id;have rr:=AdI hN hf id;obtain⟨a,ea,sa⟩:∃a:List Un×Int,(if Fit f u then(Id f u,(0:Int))else([],120))=a/\AD N a.1 a.1=some true:=by
  refine⟨_,rfl,?_⟩;by_cases ft:Fit f u
  ·rw[eX ft];exact fvs ft.fv
  ·rw[eW ft];exact hs (by simp) (by simp)
 obtain⟨r,er,sr⟩:∃r:List Un×Int,(if FV f/\∃u∈f,u.1=id then(Mu f id,(0:Int))else([],120))=r/\AD N r.1 r.1=some true:=by
  refine⟨_,rfl,?_⟩;by_cases ft:FV f/\∃u∈f,u.1=id
  ·rw[eX ft];exact fvs (ft.1.sub List.filter_sublist)
  ·rw[eW ft];exact hs (by simp) (by simp)
 have sm:AD N m.1 m.1=some true:=hs (by omega) λu hu=>by have:=ms u hu;omega
 rw[ea]at fa ra;rw[er]at fr rr;obtain⟨a1,a2⟩:=a;obtain⟨r1,r2⟩:=r;obtain⟨mm1,nQ⟩:=m;obtain⟨e,he⟩:∃e:List UInt8×Int,(if FV f then(I8 f,(0:Int))else([],120))=e:=⟨_,rfl⟩
 have fe:=AdE hN f;have re:=fH hN f;rw[he]at fe re;obtain⟨e1,e2⟩:=e;simp only at sa sr sm;unfold Bp;rw[Jy hN,Iu hN,bS,bS,v1,v2,A8 (λ_=>fD),A8 (λ_=>fD),mN,T6 hN,UN hN,A8 (λ_=>fD),A8 (λ_=>fD),mN,mI hN2 _ hc,A8 (λ_=>fD),mN,fE hN,AaA hN,A8 (λ_=>fD),A8 (λ_=>fD),mN,eN hN2 _ hr,A8 (λ_=>fD),mN,j1,j2,A8 (λ_=>fD),A8 (λ_=>fD),mN,mJ hN2 _ (by omega) (λl hl=>by have:=jl2 l hl;omega),A8 (λ_=>fD),mN,o1,o2,A8 (λ_=>fD),A8 (λ_=>fD),mN,Wh hN2 _ (by omega),A8 (λ_=>fD),mN,Az _ (by simp)];rw[ff,bS];simp only;rw[rf,bS];simp only;rw[fa,bS];simp only;rw[ra,bS];simp only;rw[fr,bS];simp only;rw[rr,bS];simp only;rw[m1,bS];simp only;rw[m2,bS];simp only;rw[fe,bS];simp only;rw[re,bS];simp only;rw[su,sa,sr,sm,A8 (λ_=>fD),A8 (λ_=>fD),A8 (λ_=>fD),A8 (λ_=>fD)];simp
end
