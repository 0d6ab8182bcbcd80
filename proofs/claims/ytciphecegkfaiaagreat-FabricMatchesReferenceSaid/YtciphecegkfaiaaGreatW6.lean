import Derived.Test.YtciphecegkfaiaaGreatW5
set_option linter.unusedSimpArgs false
set_option linter.unusedVariables false
namespace Go.Proofs.YtciphecegkfaiaaGreat.Am
theorem iE{N:Nat}(hN:100<=N){a b c:Int}{l:List Pt}{p q:Int}(h:UP a b c l p q):EO N a b c l p q=some (IQ a b c l p q,0):=by have:=h.l.l8;unfold EO;rw[KX hN h,bS,Aa (by omega)];rfl
theorem YK{N:Nat}(hN:100<=N){s:List UInt8}(hs:s.length<=1000000000):Da N s=some (match KY s with|some x=>(x,0)|none=>((0,0,0,[],0,0),80)):=by unfold Da;rw[vM hN hs];rfl
theorem Qq{a b c:Int}{l:List Pt}{p q:Int}(h:UP a b c l p q):0<(IQ a b c l p q).length/\(IQ a b c l p q).length<=1000:=by
 have l8:=h.l.l8;have h1:=Qo l;have h2:=Mz [a,b,c,p,q,(l.length:Int)];have h3:=YF (n:=a) (by have:=h.a;omega) (by have:=h.a;omega);have h4:0<(EV a).length:=List.length_pos_iff.2 h3;have h5:(EV a).length<=(Dc [a,b,c,p,q,(l.length:Int)]).length:=by simp[Dc]
 unfold IQ SA;rw[fF];simp only[pC,CP]at h2;omega
theorem YL(N:Nat)(l:List Pt)(hl:l.length<=1000):∀(n i:Nat)(o:List Int),i<=l.length->l.length<n+i->o.length<=6+2*i->D6 N l n i o=some (o++fl (l.drop i))
 |0,i,o,hi,hn,ho=>by omega
 |n+1,i,o,hi,hn,ho=>by
  rw[D6];by_cases he:i=l.length
  ·subst he;rw[CT,cF,w5];simp[fl]
  have hi':i<l.length:=by omega
  rw[Ch hi',cT,DI hi',bS];simp only;rw[Aa (by omega),Aa (by unfold Ab;omega),<-ns,YL N l hl n (i+1) _ (by omega) (by omega) (by simp;omega),P8 hi',fl,qV];rfl
theorem Tq{E:Type}(l:List E){i:Nat}(h:i<l.length):AA l (i:Int)=some l[i]:=by unfold AA;rw[eX (by omega)];simp[h]
theorem YM{N:Nat}(hN:10<=N)(l:List Int)(hl:l.length<=1000):∀(n i:Nat)(o:List UInt8),i<=l.length->l.length<n+i->o.length<=10*i->D7 N l n o i=some (o++Dc (l.drop i))
 |0,i,o,hi,hn,ho=>by omega
 |n+1,i,o,hi,hn,ho=>by
  rw[D7];by_cases he:i=l.length
  ·subst he;rw[CT,cF,w5];simp[Dc]
  have hi':i<l.length:=by omega
  have hp:=Rc l[i];rw[Ch hi',cT,Tq l hi',bS,Qp hN,bS];simp only;rw[Aa (by rw[fF];omega),Aa (by unfold Ab;omega),<-ns,YM hN l hl n (i+1) _ (by omega) (by omega) (by rw[fF];omega),mL hi'];unfold Dc;rw[eZ,CV,qV]
theorem nL(a b:List Int):Dc (a++b)=Dc a++Dc b:=by simp[Dc]
theorem iF{N:Nat}(hN:1001<=N){a b c:Int}{l:List Pt}{p q:Int}(h:UP a b c l p q):Ec N a b c l p q=some (IQ a b c l p q,0):=by have l8:=h.l.l8;have e1:=YL N l (by omega) N 0 [a,b,c,p,q,(l.length:Int)] (by omega) (by omega) (by simp);have hf:=WY l;have e2:=YM (N:=N) (by omega) ([a,b,c,p,q,(l.length:Int)]++fl l) (by simp;omega) N 0 [] (by omega) (by simp;omega) (by simp);rw[mK,uP]at e1 e2;unfold Ec;rw[IN hN,HL.2 h,bS,Az _ (by rfl),e1,bS,e2,bS,nJ,nL,<-SL];rfl
def Rn:(Int×Int×Int×List Pt×Int×Int)×Int:=((0,0,0,[],0,0),80)
theorem WZ{N:Nat}(hN:10<=N){s:List UInt8}(hs:s.length<=1000000000):∀(k n i p:Nat)(l:List Int)(c:Nat),p<=s.length->6<=i->l.length=i->l.getD 5 0=(c:Int)->c<=8->i+k=6+2*c->k<n->Bh N s n p i l=some (match IU k (s.drop p)with|some (xs,r)=>.inl (((s.length-r.length:Nat):Int),l++xs)|none=>.inr Rn)
 |0,0,_,_,_,_,_,_,_,_,_,_,h=>by omega
 |k+1,0,_,_,_,_,_,_,_,_,_,_,h=>by omega
 |0,n+1,i,p,l,c,hp,hi,hl,hc,h8,hk,hn=>by rw[Bh,hc,Aa (λ_=>by omega),Aa (λ_=>by omega),Aa (λ_=>by unfold Ab;omega),Aa (λ_=>by unfold Ab;omega),Az _ (by simp;omega)];simp only[IU,qF,s9];rw[show s.length-(s.length-p)=p by omega]
 |k+1,n+1,i,p,l,c,hp,hi,hl,hc,h8,hk,hn=>by
  rw[Bh,hc,Aa (λ_=>by omega),Aa (λ_=>by omega),Aa (λ_=>by unfold Ab;omega),Aa (λ_=>by unfold Ab;omega),AG _ (by simp;omega),NL hN hs hp,bS];simp only[IU];cases h1:EF (s.drop p)with
  |none=>simp only[Option.bind_none];rw[AG _ (by simp)];rfl
  |some nm=>
   obtain⟨x,m⟩:=nm;have hp1:=F8 hp h1;simp only[pA,zV];rw[Az _ (by simp;omega),Aa (by omega),Aa (by unfold Ab;omega),<-ns,WZ hN hs k n (i+1) (p+m) (l++[x]) c hp1 (by omega) (by simp[hl]) (by rw[<-hc,eT,eT,z8 (by omega)]) h8 (by omega) (by omega)];cases IU k (s.drop (p+m))with
   |none=>rfl
   |some xr=>simp
theorem Lv{N:Nat}(hN:10<=N){s:List UInt8}(hs:s.length<=1000000000){n i p:Nat}{l:List Int}(hp:p<=s.length)(hi:i<5)(hl:l.length=i):Bh N s (n+1) p i l=(match EF (s.drop p)with|some (x,m)=>Bh N s n ((p+m:Nat):Int) ((i+1:Nat):Int) (l++[x])|none=>some (.inr Rn)):=by
 rw[Bh,dC (show(i:Int)<6 by omega),Aa (by simp),Aa (by simp),Aa (by simp),Aa (by simp),AG _ (by rfl),NL hN hs hp,bS];cases h1:EF (s.drop p)with
 |none=>simp only;rw[AG _ (by simp)];rfl
 |some nm=>obtain⟨x,m⟩:=nm;simp only;rw[Az _ (by simp;omega),Aa (by omega),Aa (by unfold Ab;omega),ns]
theorem nN{N:Nat}(hN:10<=N){s:List UInt8}(hs:s.length<=1000000000){n p:Nat}{l:List Int}(hp:p<=s.length)(hl:l.length=5):Bh N s (n+1) p 5 l=(match EF (s.drop p)with|some (x,m)=>if 3<=x/\x<=8 then Bh N s n ((p+m:Nat):Int) 6 (l++[x])else some (.inr Rn)|none=>some (.inr Rn)):=by
 rw[Bh,dC (show(5:Int)<6 by omega),Aa (by simp),Aa (by simp),Aa (by simp),Aa (by simp),AG _ (by rfl),NL hN hs hp,bS];cases h1:EF (s.drop p)with
 |none=>simp only;rw[AG _ (by simp)];rfl
 |some nm=>
  obtain⟨x,m⟩:=nm;simp only;by_cases hx:3<=x/\x<=8
  ·rw[eX hx,Az _ (by simp;omega),Aa (by omega),Aa (by unfold Ab;omega)];rfl
  ·rw[eW hx,AG _ (by simp;omega)];rfl
theorem YN(N:Nat)(l:List Int)(hl:l.length<=1000):∀(k n i:Nat)(o:List Pt),i+2*k=l.length->k<n->o.length<=i->Dm N l n i o=some (o++KD (l.drop i))
 |0,0,_,_,_,h,_=>by omega
 |k+1,0,_,_,_,h,_=>by omega
 |0,n+1,i,o,hi,hn,ho=>by rw[Dm,show i=l.length by omega,CT,cF,w5];simp[KD]
 |k+1,n+1,i,o,hi,hn,ho=>by
  have h1:i<l.length:=by omega
  have h2:i+1<l.length:=by omega
  rw[Dm,Ch h1,cT,Tq l h1,bS,Aa (by unfold Ab;omega),<-ns,Tq l h2,bS,Aa (by omega),Aa (by unfold Ab;omega),show(i:Int)+2=((i+2:Nat):Int)from rfl,YN N l hl k n (i+2) _ (by omega) (by omega) (by simp;omega),mL h1,mL h2,KD,qV];rfl
theorem iG{N K:Nat}(hN:10<=N)(hK:30<=K){s:List UInt8}(hs:s.length<=1000000000):Bh N s K 0 0 []=some (match IU 6 s with
  |some ([a,b,c,f,g,x],r)=>if 3<=x/\x<=8 then(match IU (2*x.toNat) r with|some (xs,r')=>.inl (((s.length-r'.length:Nat):Int),[a,b,c,f,g,x]++xs)|none=>.inr Rn)else .inr Rn
  |_=>.inr Rn):=by
 obtain⟨n,rfl⟩:∃n,K=n+1+1+1+1+1+1:=⟨K-6,by omega⟩
 have e0:=Lv (n:=n+1+1+1+1+1) (i:=0) (l:=[]) hN hs (t7 s.length) (by omega) rfl;rw[mK,uP]at e0;rw[e0,show(6:Nat)=0+1+1+1+1+1+1 from rfl];simp only[IU];cases h1:EF s with
 |none=>rfl
 |some nm1=>
 obtain⟨a,m1⟩:=nm1;have p1:=F8 (t7 s.length) (by rw[uP];exact h1);simp only[pA,zV,nJ,s6];rw[s6]at p1;rw[Lv (i:=1) hN hs p1 (by omega) rfl];cases h2:EF (s.drop m1)with
 |none=>rfl
 |some nm2=>
 obtain⟨b,m2⟩:=nm2;have p2:=F8 p1 h2;simp only[pA,zV];rw[Lv (i:=2) hN hs p2 (by omega) rfl];cases h3:EF (s.drop (m1+m2))with
 |none=>rfl
 |some nm3=>
 obtain⟨c,m3⟩:=nm3;have p3:=F8 p2 h3;simp only[pA,zV];rw[Lv (i:=3) hN hs p3 (by omega) rfl];cases h4:EF (s.drop (m1+m2+m3))with
 |none=>rfl
 |some nm4=>
 obtain⟨f,m4⟩:=nm4;have p4:=F8 p3 h4;simp only[pA,zV];rw[Lv (i:=4) hN hs p4 (by omega) rfl];cases h5:EF (s.drop (m1+m2+m3+m4))with
 |none=>rfl
 |some nm5=>
 obtain⟨g,m5⟩:=nm5;have p5:=F8 p4 h5;simp only[pA,zV];rw[show((4+1:Nat):Int)=5 from rfl,nN hN hs p5 rfl];cases h6:EF (s.drop (m1+m2+m3+m4+m5))with
 |none=>rfl
 |some nm6=>
 obtain⟨x,m6⟩:=nm6;have p6:=F8 p5 h6;simp only[pA,zV];by_cases hx:3<=x/\x<=8
 ·rw[eX hx,eX hx];have e6:=WZ (N:=N) hN hs (2*x.toNat) n 6 (m1+m2+m3+m4+m5+m6) ([a]++[b]++[c]++[f]++[g]++[x]) x.toNat p6 (by omega) rfl (by show x=_;omega) (by omega) (by omega) (by omega);rw[show((6:Nat):Int)=6 from rfl]at e6;rw[e6];rfl
 ·rw[eW hx,eW hx]
theorem vP{N:Nat}(hN:1001<=N){s:List UInt8}(hs:s.length<=1000000000):FF N s=some (match KY s with|some x=>(x,0)|none=>((0,0,0,[],0,0),80)):=by
 unfold FF KY;rw[iG (by omega) (by omega) hs,bS];cases h6:IU 6 s with
 |none=>rfl
 |some hr=>
 obtain⟨h,r⟩:=hr;obtain⟨_,hl,_⟩:=JW _ _ _ _ h6
 match h,hl with
 |[a,b,c,f,g,x],_=>
 simp only[pA];by_cases hx:3<=x/\x<=8
 ·rw[eX hx,eX hx];cases h7:IU (2*x.toNat) r with
  |none=>rfl
  |some xr=>
   obtain⟨xs,r'⟩:=xr;obtain⟨b1,b2,_⟩:=JW _ _ _ _ h7;obtain⟨c1,_,_⟩:=JW _ _ _ _ h6;have hlr:r'.length<=s.length:=by have q1:=congrArg List.length b1;have q2:=congrArg List.length c1;rw[fF]at q1 q2;omega
   have e4:=YN N ([a,b,c,f,g,x]++xs) (by simp;omega) x.toNat N 6 [] (by simp;omega) (by omega) (by simp);rw[show((6:Nat):Int)=6 from rfl,nJ,show([a,b,c,f,g,x]++xs).drop 6=xs from rfl]at e4;simp only[pA];rw[show AA ([a,b,c,f,g,x]++xs) 0=some a from rfl,show AA ([a,b,c,f,g,x]++xs) 1=some b from rfl,show AA ([a,b,c,f,g,x]++xs) 2=some c from rfl,show AA ([a,b,c,f,g,x]++xs) 3=some f from rfl,show AA ([a,b,c,f,g,x]++xs) 4=some g from rfl];simp only[pA];rw[e4,bS,IN hN,A8 (λ_=>fD),mN];by_cases hr:r'=[]
   ·subst hr;by_cases hu:UP a b c (KD xs) f g
    ·rw[eX ⟨rfl,hu⟩,HL.2 hu,Az _ (by simp)]
    ·rw[eW λh=>hu h.2,AG _ (by
      have:(Gw a b c f g&&vB (KD xs))=false:=by rw[w6];exact λh=>hu (HL.1 h)
      rw[this];simp)]
   ·have:0<r'.length:=List.length_pos_iff.2 hr;rw[AG _ (by simp;omega),eW λh=>hr h.1]
 ·rw[eW hx,eW hx];rfl
