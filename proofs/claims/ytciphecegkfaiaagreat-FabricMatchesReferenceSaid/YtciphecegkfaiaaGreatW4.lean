import Derived.Test.YtciphecegkfaiaaGreatE1
import Derived.Test.YtciphecegkfaiaaGreatMY
set_option linter.unusedSimpArgs false
set_option linter.unusedVariables false
set_option linter.unusedSectionVars false
namespace Go.Proofs.YtciphecegkfaiaaGreat.Am
structure UP(a b c:Int)(l:List Pt)(p q:Int):Prop where
 a:0<=a/\a<=99
 b:1<=b/\b<=8
 c:0<=c/\c<=7
 d:0<=p/\p<q/\q<=8
 l:VP l
theorem Rk(N:Nat)(n lo hi:Int):Eh N n lo hi=some (decide (lo<=n)&&decide (n<=hi)):=rfl
def Gw(a b c p q:Int):Bool:=(((((decide (0<=a)&&decide (a<=99))&&(decide (1<=b)&&decide (b<=8)))&&(decide (0<=c)&&decide (c<=7)))&&decide (0<=p))&&decide (p<q))&&decide (q<=8)
theorem HK{N:Nat}(hN:100<=N)(a b c:Int)(l:List Pt)(p q:Int):BN N a b c l p q=some (Gw a b c p q&&vB l):=by unfold BN Gw;rw[Rk,Rk,Rk,F5 hN,bS,A8 (λ_=>fD),A8 (λ_=>fD),A8 (λ_=>fD)];rfl
theorem HL{a b c:Int}{l:List Pt}{p q:Int}:(Gw a b c p q&&vB l)=true↔UP a b c l p q:=by
 unfold Gw;simp only[lP,eR,I3];constructor
 ·rintro⟨⟨⟨⟨⟨⟨h1,h2⟩,h3⟩,h4⟩,h5⟩,h6⟩,h7⟩;exact⟨h1,h2,h3,⟨h4,h5,h6⟩,h7⟩
 ·rintro⟨h1,h2,h3,⟨h4,h5,h6⟩,h7⟩;exact⟨⟨⟨⟨⟨⟨h1,h2⟩,h3⟩,h4⟩,h5⟩,h6⟩,h7⟩
theorem KX{N:Nat}(hN:100<=N){a b c:Int}{l:List Pt}{p q:Int}(h:UP a b c l p q):BN N a b c l p q=some true:=by rw[HK hN,HL.2 h]
theorem WR{N:Nat}(hN:100<=N){a b c:Int}{l:List Pt}{p q:Int}(h:UP a b c l p q):Ha N a b c l p q=some (q-p):=by have:=h.d;unfold Ha;rw[KX hN h,bS,Az _ (by rfl),Aa (by unfold Ab;omega)]
theorem PJ{x y A B:Int}(hx: -A<=x/\x<=A)(hy:0<=y/\y<=B)(hA:0<=A): -(A*B)<=x*y/\x*y<=A*B:=by have h1:0<=(A-x)*y:=mM (by omega) hy.1;have h2:0<=(A+x)*y:=mM (by omega) hy.1;have h3:0<=A*(B-y):=mM hA (by omega);rw[Int.sub_mul]at h1;rw[Int.add_mul]at h2;rw[Int.mul_sub]at h3;omega
theorem WS{N:Nat}(hN:100<=N){a b c:Int}{l:List Pt}{p q:Int}(h:UP a b c l p q):F4 N a b c l p q=some (Hi l*(q-p)):=by have hd:=h.d;have h1:=PJ (VS h.l) (y:=q-p) (B:=8) (by omega) (by omega);unfold F4;rw[X5 hN h.l,bS,WR hN h,bS,Aa (by unfold Ab;omega)]
theorem nG{N:Nat}{c n:Int}(hc:Ab c)(hn:0<n):Gi N c n=some (pk c n):=by
 unfold Gi pk;unfold Ab at hc;by_cases h:c<0
 ·rw[dC h,cT,eX h,Aa (by unfold Ab;omega),Aa (by unfold Ab;omega),Aa (by omega)]
 ·rw[dJ h,cF,eW h,Aa (by omega)]
theorem K8{l:List Pt}(h:VP l)(hy:∀p∈l,0<=p.2){i:Nat}(hi:i<l.length)(h0:(pa l i).2=0)(h1:(pa l ((i+1)%l.length)).2=0):(pa l i).1<(pa l ((i+1)%l.length)).1/\∀k,k<l.length->k≠i->k≠(i+1)%l.length->0<(pa l k).2:=by
 have key:∀k,k<l.length->k≠i->k≠(i+1)%l.length->0<((pa l ((i+1)%l.length)).1-(pa l i).1)*(pa l k).2:=λk hk k1 k2=>by have:=h.cv i k hi hk k1 k2;unfold Ah at this;rw[h0,h1]at this;simpa using this
 have pos:∀k,k<l.length->k≠i->k≠(i+1)%l.length->0<(pa l k).2:=λk hk k1 k2=>by
  have h2:=key k hk k1 k2;have h3:=hy _ (AN hk);rcases Int.lt_or_eq_of_le h3 with h4|h4
  ·exact h4
  ·rw[<-h4]at h2;simp at h2
 refine⟨?_,pos⟩;have l3:=h.l3;obtain⟨k,hk,k1,k2⟩:∃k,k<l.length/\k≠i/\k≠(i+1)%l.length:=by
  by_cases a0:0≠i/\0≠(i+1)%l.length
  ·exact⟨0,by omega,a0⟩
  by_cases a1:1≠i/\1≠(i+1)%l.length
  ·exact⟨1,by omega,a1⟩
  ·exact⟨2,by omega,by omega,by omega⟩
 have h2:=key k hk k1 k2;have h3:=pos k hk k1 k2;by_cases h4:(pa l i).1<(pa l ((i+1)%l.length)).1
 ·exact h4
 ·have:0<=((pa l i).1-(pa l ((i+1)%l.length)).1)*(pa l k).2:=mM (by omega) (by omega);rw[Int.sub_mul]at this h2;omega
theorem Z5{l:List Pt}(h:VP l)(hy:∀p∈l,0<=p.2){i k:Nat}(hi:i<l.length)(hk:k<l.length)(hne:k≠i)(h0:(pa l i).2=0)(h1:(pa l k).2=0):k=(i+1)%l.length\/i=(k+1)%l.length:=by
 have l3:=h.l3;by_cases n1:k=(i+1)%l.length
 ·exact .inl n1
 by_cases n2:i=(k+1)%l.length
 ·exact .inr n2
 exfalso;have a:=h.cv i k hi hk hne n1;have b:=h.cv k i hk hi (Ss hne) n2;have ya:=hy _ (AN (l:=l) (uM (i+1) (by omega)));have yb:=hy _ (AN (l:=l) (uM (k+1) (by omega)));unfold Ah at a b;rw[h0,h1]at a b;simp only[Int.sub_zero,Int.sub_self,Int.mul_zero,Int.zero_sub]at a b;have a2:(pa l k).1<(pa l i).1:=by
  by_cases c:(pa l k).1<(pa l i).1
  ·exact c
  ·have:=mM ya (show 0<=(pa l k).1-(pa l i).1 by omega);omega
 have b2:(pa l i).1<(pa l k).1:=by
  by_cases c:(pa l i).1<(pa l k).1
  ·exact c
  ·have:=mM yb (show 0<=(pa l i).1-(pa l k).1 by omega);omega
 omega
theorem WT{l:List Pt}(h:VP l):l.Nodup:=by
 have l3:=h.l3;rw[List.Nodup,L6];intro i k hi hk hlt e;rw[<-D2 hi,<-D2 hk]at e;by_cases c:k=(i+1)%l.length
 ·exact h.ne hi (by rw[e,<-c])
 ·have:=h.cv i k hi hk (by omega) c;rw[<-e]at this;unfold Ah at this;simp at this
theorem vK{xs:List Pt}(h:xs.Nodup){u v:Pt}(hu:u∈xs)(hv:v∈xs)(hne:u≠v)(ho:∀x∈xs,x=u\/x=v):xs.length=2:=by
 have a:=Lj xs [u,v] h λp hp=>by rcases ho p hp with e|e<;>simp[e]
 have b:=Lj [u,v] xs (by simp[hne]) λp hp=>by
  rcases lJ.1 hp with e|e
  ·rw[e];exact hu
  ·rw[y9.1 e];exact hv
 simp only[pC,CP]at a b;omega
theorem nH{l:List Pt}(h:VP l)(hy:∀p∈l,0<=p.2):((l.filter λp=>decide (p.2=0)).length=2)↔∃i,i<l.length/\((pa l i).2=0/\(pa l ((i+1)%l.length)).2=0):=by
 have nd:=WT h;have l3:=h.l3;constructor
 ·intro h2;have nf:(l.filter λp=>decide (p.2=0)).Nodup:=nd.filter _
  match hm:l.filter λp=>decide (p.2=0)with
  |[]=>rw[hm]at h2;simp at h2
  |[_]=>rw[hm]at h2;simp at h2
  |_::_::_::_=>rw[hm]at h2;simp at h2
  |[u,v]=>
   rw[hm]at nf;have hu:u∈l.filter λp=>decide (p.2=0):=by rw[hm];simp
   have hv:v∈l.filter λp=>decide (p.2=0):=by rw[hm];simp
   rw[uQ,eR]at hu hv;obtain⟨i,hi,rfl⟩:=H0 hu.1;obtain⟨k,hk,rfl⟩:=H0 hv.1;have hne:k≠i:=λe=>by subst e;simp at nf
   rcases Z5 h hy hi hk hne hu.2 hv.2 with e|e
   ·exact⟨i,hi,hu.2,by rw[<-e];exact hv.2⟩
   ·exact⟨k,hk,hv.2,by rw[<-e];exact hu.2⟩
 ·rintro⟨i,hi,h0,h1⟩;have hm:(i+1)%l.length<l.length:=uM _ (by omega);refine vK (nd.filter _) (u:=pa l i) (v:=pa l ((i+1)%l.length)) (uQ.2 ⟨AN hi,by simp[h0]⟩) (uQ.2 ⟨AN hm,by simp[h1]⟩) (h.ne hi) λx hx=>?_
  rw[uQ,eR]at hx;obtain⟨k,hk,rfl⟩:=H0 hx.1;by_cases k1:k=i
  ·exact .inl (by rw[k1])
  by_cases k2:k=(i+1)%l.length
  ·exact .inr (by rw[k2])
  have:=(K8 h hy hi h0 h1).2 k hk k1 k2;omega
theorem SJ{N:Nat}(hN:100<=N){a b c:Int}{l:List Pt}{p q:Int}(h:UP a b c l p q):(Ef N a b c l p q=some ((0,0,((0,0),(0,0)),0,0),false)/\∀i,i<l.length->¬((pa l i).2=0/\(pa l ((i+1)%l.length)).2=0))\/∃i,i<l.length/\((pa l i).2=0/\(pa l ((i+1)%l.length)).2=0)/\Ef N a b c l p q=some ((a,-1,(pa l i,pa l ((i+1)%l.length)),p,q),true):=by
 have l3:=h.l.l3;have l8:=h.l.l8
 let f:Nat->Option ((Int×Int×(Pt×Pt)×Int×Int)×Bool):=λi=>if(pa l i).2=0/\(pa l ((i+1)%l.length)).2=0 then some ((a,-1,(pa l i,pa l ((i+1)%l.length)),p,q),true)else none
 have step:∀n (k:Nat),k<l.length->Ea N l a p q (n+1) k=(match f k with|some r=>some (.inr r)|none=>Ea N l a p q n ((k+1:Nat):Int)):=λn k hk=>by
  rw[Ea,Ch hk,cT,DI hk,bS];simp only;rw[Aa (by unfold Ab;omega),Aa (by omega),Mo,DI (uM _ (by omega)),bS];simp only;by_cases e:(pa l k).2=0/\(pa l ((k+1)%l.length)).2=0
  ·rw[AG _ (by simp[e.1,e.2]),show f k=_ from eX e]
  ·rw[Az _ (by rw[w6];simpa using e),show f k=_ from eW e,Aa (by unfold Ab;omega),ns]
 have F:=Hh (L:=Ea N l a p q) (len:=l.length) f (λn k hk e=>by rw[step n k hk,e]) (λn k r hk e=>by rw[step n k hk,e]) (λn=>by rw[Ea,CT,cF]) N (by omega);unfold Ef;rw[KX hN h,bS,Az _ (by rfl)];rcases F with⟨e,hf⟩|⟨j,r,hj,hf,_,e⟩
 ·left;refine⟨by rw[e,bS],λi hi hc=>?_⟩;have:=hf i hi;rw[show f i=_ from eX hc]at this;cases this
 ·right;by_cases hc:(pa l j).2=0/\(pa l ((j+1)%l.length)).2=0
  ·rw[show f j=_ from eX hc]at hf;cases hf
   exact⟨j,hj,hc,by rw[e,bS]⟩
  ·rw[show f j=_ from eW hc]at hf;cases hf
section
variable{N:Nat}(hN:1001<=N)
include hN
theorem IN(a b c:Int)(l:List Pt)(p q:Int):Bw N a b c l p q=some (Gw a b c p q&&vB l):=by
 unfold Bw Gw;rw[D3 (by omega)];by_cases h:(0<=a/\a<=99)/\(1<=b/\b<=8)/\0<=c/\c<=7
 ·rw[Az _ (by simp;omega),A8 (λ_=>fD),mN];rw[dC h.1.1,dC h.1.2,dC h.2.1.1,dC h.2.1.2,dC h.2.2.1,dC h.2.2.2];rfl
 ·rw[AG _ (by simp;omega)];congr 1;symm;rw[w6];intro hc;simp only[lP,eR]at hc;exact h ⟨hc.1.1.1.1.1.1,hc.1.1.1.1.1.2,hc.1.1.1.1.2⟩
theorem AdY(a b c:Int)(l:List Pt)(p q:Int):Ha N a b c l p q=some (if Gw a b c p q&&vB l then q-p else 0):=by
 cases h:Gw a b c p q&&vB l with
 |true=>rw[WR (by omega) (HL.1 h),eX rfl]
 |false=>unfold Ha;rw[HK (by omega),h,bS,AG _ (by rfl)];rfl
theorem nK(a b c:Int)(l:List Pt)(p q:Int):∃r,F4 N a b c l p q=some r/\EC N a b c l p q=some r/\(-4000000000<=r/\r<=4000000000)/\((Gw a b c p q&&vB l)=false->r=0):=by
 unfold EC;rw[IN hN,bS];cases h:Gw a b c p q&&vB l with
 |true=>have u:=HL.1 h;have hd:=u.d;have ha:=VS u.l;have v1:=PJ ha (y:=q-p) (B:=8) (by omega) (by omega);rw[WS (by omega) u,Az _ (by rfl),Yd (by omega) u.l,bS,Aa (by unfold Ab;omega),Aa (by unfold Ab;omega)];exact⟨_,rfl,rfl,by omega,λh=>by cases h⟩
 |false=>rw[AG _ (by rfl)];obtain⟨r,h1,_⟩:=dV (N:=N) (by omega) l;unfold F4;rw[h1,bS,AdY hN,h,bS,eW (by simp),Int.mul_zero,Aa (by unfold Ab;omega)];exact⟨0,rfl,rfl,by omega,λ_=>rfl⟩
noncomputable def Rm(a b c:Int)(l:List Pt)(p q a' b' c':Int)(l':List Pt)(p' q':Int):Bool:=decide (max p p'<min q q')&&(Gw a b c p q&&vB l)&&(Gw a' b' c' p' q'&&vB l')
theorem Tp(a b c:Int)(l:List Pt)(p q a' b' c':Int)(l':List Pt)(p' q':Int):FX N a b c l p q a' b' c' l' p' q'=some (max p p',min q q',Rm a b c l p q a' b' c' l' p' q')/\EQ N a b c l p q a' b' c' l' p' q'=some (Rm a b c l p q a' b' c' l' p' q'):=by unfold FX EQ Rm;rw[HK (by omega),HK (by omega),IN hN,IN hN,A8 (λ_=>fD),A8 (λ_=>fD),bS,A8 (λ_=>fD),mN,mN];refine⟨rfl,?_⟩;congr 1;cases(Gw a b c p q&&vB l)<;>cases(Gw a' b' c' p' q'&&vB l')<;>cases decide (max p p'<min q q')<;>rfl
theorem Ach(a b c:Int)(l:List Pt)(p q a' b' c':Int)(l':List Pt)(p' q':Int):∃r,Ei N a b c l p q a' b' c' l' p' q'=some r/\ED N a b c l p q a' b' c' l' p' q'=some r:=by obtain⟨h1,h2⟩:=Tp hN a b c l p q a' b' c' l' p' q';obtain⟨r,g1,g2⟩:=TW hN l l';unfold Ei ED;rw[h1,h2,g1,g2,bS,bS];simp only;rw[A8 (λ_=>fD)];exact⟨_,rfl,rfl⟩
theorem Aa0(a b c:Int)(l:List Pt)(p q a' b' c':Int)(l':List Pt)(p' q':Int):∃r,Ff N a b c l p q a' b' c' l' p' q'=some r/\E8 N a b c l p q a' b' c' l' p' q'=some r:=by
 obtain⟨h1,h2⟩:=Tp hN a b c l p q a' b' c' l' p' q';obtain⟨⟨⟨⟨r1,r2⟩,r3,r4⟩,r5⟩,g1,g2⟩:=eC hN l l';unfold Ff E8;rw[h1,h2,g1,g2,bS,bS];simp only;cases Rm a b c l p q a' b' c' l' p' q' with
 |false=>exact⟨_,by rw[AG _ (by rfl)],by rw[AG _ (by rfl)]⟩
 |true=>
  rw[Az (!true) (by rfl),bS];simp only;cases r5 with
  |false=>exact⟨_,by rw[AG _ (by rfl)],by rw[AG _ (by rfl)]⟩
  |true=>exact⟨_,by rw[Az _ (by rfl)],by rw[Az _ (by rfl)]⟩
theorem Aci(a b c:Int)(l:List Pt)(p q dx dy:Int):∃r,HR N a b c l p q dx dy=some r/\Gj N a b c l p q dx dy=some r/\r.1.2.2.2.1.length<=8:=by
 obtain⟨⟨r,e⟩,g1,g2,g3⟩:=TV (N:=N) (by omega) l dx dy;unfold HR Gj;rw[g1,g2,IN hN,HK (by omega),bS,bS];simp only;rw[A8 (λ_=>fD),mN];cases h:Gw a b c p q&&vB l with
 |false=>exact⟨((0,0,0,[],0,0),80),by rw[AG _ (by simp)],by rw[AG _ (by rfl)],by simp⟩
 |true=>
  rw[Az (!true) (by rfl),bS];simp only;by_cases he:e=0
  ·rw[Az _ (by simp[he]),Az _ (by simp[he])];exact⟨_,rfl,rfl,g3⟩
  ·rw[AG _ (by simp[he]),AG _ (by simp[he])];exact⟨_,rfl,rfl,by simp⟩
omit hN in
theorem ME(l:List Pt)(hl:l.length<=1000):∀(n i:Nat)(out:List Pt),i<=l.length->l.length<n+i->out.length<=i->Dl N l n i out=some (out++(l.drop i).filter λp=>decide (p.2=0))
 |0,i,out,hi,hn,_=>by omega
 |n+1,i,out,hi,hn,ho=>by
  rw[Dl];by_cases he:i=l.length
  ·subst he;rw[CT,cF,w5];simp
  have hi':i<l.length:=by omega
  rw[Ch hi',cT,DI hi',bS,P8 hi',zM];simp only;by_cases h:(pa l i).2=0
  ·rw[dC h,cT,Aa (by omega),Aa (by unfold Ab;omega),<-ns,ME l hl n (i+1) _ (by omega) (by omega) (by simp;omega),eX rfl,qV];rfl
  ·rw[dJ h,cF,Aa (by unfold Ab;omega),<-ns,ME l hl n (i+1) _ (by omega) (by omega) (by omega),eW (by simp)]
theorem vN(a b c:Int)(l:List Pt)(p q:Int):∃r,Ef N a b c l p q=some r/\Eb N a b c l p q=some r:=by
 cases h:Gw a b c p q&&vB l with
 |false=>unfold Ef Eb;rw[HK (by omega),IN hN,h,bS,bS];exact⟨_,by rw[AG _ (by rfl)],by rw[AG _ (by rfl)]⟩
 |true=>
  have u:=HL.1 h;have l8:=u.l.l8;have l3:=u.l.l3;have hy:∀x∈l,0<=x.2:=λx hx=>(u.l.on x hx).2.1
  have hn:=nH u.l hy;have hL:=ME (N:=N) l (by omega) N 0 [] (by omega) (by omega) (by simp);rw[mK,uP,nJ]at hL;unfold Eb;rw[IN hN,h,bS,Az _ (by rfl),hL,bS];rcases SJ (N:=N) (by omega) u with⟨e,hno⟩|⟨i,hi,hc,e⟩
  ·have:¬(l.filter λp=>decide (p.2=0)).length=2:=λh2=>by obtain⟨i,hi,hc⟩:=hn.1 h2;exact hno i hi hc
   rw[AG _ (by simp only[eR];omega)];exact⟨_,e,rfl⟩
  ·have h2:=hn.2 ⟨i,hi,hc⟩;have hm:(i+1)%l.length<l.length:=uM _ (by omega);have hg:=(K8 u.l hy hi hc.1 hc.2).1;have nf:(l.filter λp=>decide (p.2=0)).Nodup:=(WT u.l).filter _;have m1:pa l i∈l.filter λp=>decide (p.2=0):=uQ.2 ⟨AN hi,by simp[hc.1]⟩
   have m2:pa l ((i+1)%l.length)∈l.filter λp=>decide (p.2=0):=uQ.2 ⟨AN hm,by simp[hc.2]⟩
   have hne:=u.l.ne hi;rw[Az _ (by simp only[eS];omega)]
   match hf:l.filter λp=>decide (p.2=0)with
   |[]=>rw[hf]at h2;simp at h2
   |[_]=>rw[hf]at h2;simp at h2
   |_::_::_::_=>rw[hf]at h2;simp at h2
   |[x,y]=>
    rw[hf]at m1 m2;rw[hf];rw[show AA [x,y] 0=some (x.1,x.2)from rfl,show AA [x,y] 1=some (y.1,y.2)from rfl,bS];simp only;rw[bS];simp only;simp only[lJ,List.not_mem_nil,or_false]at m1 m2;refine⟨_,e,?_⟩;rcases m1 with m1|m1<;>rcases m2 with m2|m2
    ·exact absurd (m1.trans m2.symm) hne
    ·rw[m1,m2]at hg⊢;rw[dJ (by omega),cF]
    ·rw[m1,m2]at hg⊢;rw[dC hg,cT]
    ·exact absurd (m1.trans m2.symm) hne
end
