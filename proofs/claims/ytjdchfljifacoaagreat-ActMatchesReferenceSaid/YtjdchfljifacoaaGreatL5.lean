import Derived.Test.YtjdchfljifacoaaGreatYE
set_option linter.all false
set_option maxRecDepth 100000
set_option maxHeartbeats 8000000
namespace Go.Proofs.YtjdchfljifacoaaGreat.Am
theorem AjG{N:Nat}{n:Int}(h:Akh n):IC N n=some (zg n:Int):=by
 have h':=h;unfold Akh at h';unfold IC zg;by_cases h0:n<0
 ·obtain⟨m,hm⟩:∃m:Nat,-n=m:=Int.eq_ofNat_of_zero_le (by omega);rw[aB h0,cT,hm,Ae (by omega),wrN (by omega),dQ (by omega)];rw[show(m:Int)*2=((2*m:Nat)) by omega,Ae (wrN (by omega)),show((2*m:Nat):Int)-1=((2*m-1:Nat)) by omega,Ae (wrN (by omega))];congr 1;omega
 ·obtain⟨m,rfl⟩:=Int.eq_ofNat_of_zero_le (show 0<=n by omega);rw[bJ h0,cF,wrN (by omega),dW (by omega)];rw[show(m:Int)*2=((2*m:Nat)) by omega,Ae (wrN (by omega))];rfl
theorem tm(m n:Nat):(m:Int).tmod (n:Int)=((m%n:Nat):Int):=by grind
theorem td(m n:Nat):(m:Int).tdiv (n:Int)=((m/n:Nat):Int):=by grind
theorem AiK(N:Nat):∀(k n f z:Nat)(l:List Int),0<k->z<128^k->k<=9->k<=n->k<=f->l.length+k<=100->∃(z':Int)(l':List Int),F9 N n z l=some (z',l')/\pM (l'++[IntKind.wrap .u8 z'])=pM l++vbL f z/\l'.length<=100
 |0,n,f,z,l,h0,_,_,_,_,_=>by omega
 |k+1,0,f,z,l,_,_,_,h,_,_=>by omega
 |k+1,n+1,0,z,l,_,_,_,_,h,_=>by omega
 |k+1,n+1,f+1,z,l,_,hz,h9,hn,hf,hl=>by
  have hB:(128)^(k+1)<=128^9:=Nat.pow_le_pow_right (by omega) h9;rw[F9];by_cases hc:z<128
  ·rw[bJ (by omega),cF,AhP hc];refine⟨_,_,rfl,?_,by omega⟩;rw[wr8 (by omega)];simp[pM]
  ·rw[aB (by omega),cT,show(128:Int)=((128:Nat))from rfl,tm,td,show((z%128:Nat):Int)+((128:Nat))=((z%128+128:Nat)) by omega,Ae (wrN (by omega)),Ae (by omega),Ae (wrN (by omega)),wr8 (by omega)];have hk:0<k:=by grind
   obtain⟨z',l',e1,e2,e3⟩:=AiK N k n f (z/128) (l++[((z%128+128):Int)]) hk (by omega) (by omega) (by omega) (by omega) (by simp;omega);grind[AhQ,pM]
theorem AjR{n:Int}(h:¬Akh n):Lp n=[]:=by unfold Akh at h;unfold Lp;rw[show(decide (n< -4611686018427387903)||decide (4611686018427387903<n))=true by simp;omega,cond_true]
open Classical in
theorem Air{N:Nat}(hN:10<=N)(n:Int):EQ N n=some (Lp n,if Akh n then 0 else 10):=by
 unfold EQ;by_cases h:Akh n
 ·have h':=h;unfold Akh at h';rw[A1 _ (by simp;omega),AjG h,bS,dW h,AhM h];obtain⟨z',l',e1,e2,e3⟩:=AiK N 9 N 10 (zg n) [] (by omega) (by exact Ai0 h) (by omega) (by omega) (by omega) (by simp);rw[e1,bS];simp only;rw[Ae (by omega)];have e2':(l'++[IntKind.wrap .u8 z']).map (λx=>UInt8.ofNat x.toNat)=vbL 10 (zg n):=by rw[show pM []=[]from rfl,pA]at e2;exact e2
  rw[e2']
 ·rw[AjR h,dQ h];unfold Akh at h;rw[AU _ (by simp;omega)]
theorem AiL(N:Nat)(hN:10<=N)(s:List UInt8)(p:Nat)(hs:s.length<=1000000000)(hp:p<=s.length):∀(n i z:Nat),i<=9->9<n+i->z<128^i->rdB 9 (s.drop p)=(match rdB (9-i) (s.drop (p+i))with|some (y,m)=>if 0<i/\y=0 then none else some (z+y*128^i,i+m)|none=>none)->∃o,G2 N p s n z i=some o/\(match o with|.inl ()=>(0,0,10)|.inr r=>r)=(match xP (s.drop p)with|some (x,m)=>(x,((p+m:Nat):Int),0)|none=>((0,0,10):Int×Int×Int))
 |0,i,z,hi,hn,hz,_=>by omega
 |n+1,i,z,hi,hn,hz,hI=>by
  rw[G2];by_cases h9:i=9
  ·subst h9;rw[Ae (by omega),A1 _ (by simp)];refine⟨_,rfl,?_⟩;have:xP (s.drop p)=none:=by unfold xP;rw[hI];rfl
   rw[this]
  have hi9:i<9:=by omega
  obtain⟨k,hk⟩:∃k,9-i=k+1:=⟨8-i,by omega⟩
  rw[Ae (by omega)];by_cases hle:s.length<=p+i
  ·rw[A1 _ (by rw[z8];grind)];refine⟨_,rfl,?_⟩;have:xP (s.drop p)=none:=by unfold xP;rw[hI,List.drop_eq_nil_of_le hle,hk];rfl
   rw[this]
  rw[AU _ (by simp;omega),Ae (by unfold Af;omega),Ae (by omega),Ae (by unfold Af;omega),Ae (by omega)];have hpi:((p:Int)+(i:Int)).toNat=p+i:=by omega
  have hlt:p+i<s.length:=by omega
  have hdr:s.drop (p+i)=s.getD (p+i) 0::s.drop (p+i+1):=by rw[oH hlt];grind
  rw[hk,hdr]at hI;rw[hpi];generalize hbb:s.getD (p+i) 0=b at hI⊢;have hb:b.toNat<256:=b.toNat_lt;have hB:(128:Nat)^(i+1)<=128^9:=Nat.pow_le_pow_right (by omega) hi9;rw[show(128:Nat)^9=9223372036854775808 from rfl]at hB;have h2:(128:Nat)^i=2^(7*i):=by rw[Nat.pow_mul]
  have e2:128^i*(b.toNat%128)+z<128^(i+1):=by rw[Nat.pow_succ];have:128^i*(b.toNat%128)<=128^i*127:=Nat.mul_le_mul_left _ (by omega);omega
  have e:CW .shl .u64 ((b.toNat%128:Nat):Int) (7*(i:Int))=((128^i*(b.toNat%128):Nat):Int):=by unfold CW;simp only;rw[show(7*(i:Int)).toNat=7*i by omega,show min (7*i) (IntKind.bits .u64)=7*i from Nat.min_eq_left (by show 7*i<=64;omega)];rw[show((b.toNat%128:Nat):Int)*2^(7*i)=((128^i*(b.toNat%128):Nat):Int) by rw[h2,Int.natCast_mul,Int.natCast_pow,Lc];rfl,wrN (by omega)]
  rw[wrN (show b.toNat<18446744073709551616 by omega),show(128:Int)=((128:Nat):Int)from rfl,tm,e,show(z:Int)+((128^i*(b.toNat%128):Nat):Int)=((128^i*(b.toNat%128)+z:Nat):Int) by omega,Ae (wrN (by omega))];simp only[rdB]at hI;by_cases hc:128<=b.toNat
  ·rw[aB (by omega),cT,Ae (by unfold Af;omega),show((i:Int)+1)=((i+1:Nat):Int)from rfl];refine AiL N hN s p hs hp n (i+1) _ (by omega) (by omega) e2 ?_;rw[hI,dW hc,show 9-(i+1)=k by omega,show p+(i+1)=p+i+1 by omega];grind
  ·rw[dQ hc]at hI;simp only at hI;rw[bJ (by omega),cF];have hm:b.toNat%128=b.toNat:=by omega
   rw[hm]at e2⊢;have e4:128^i*b.toNat+z=z+b.toNat*128^i:=by rw[Nat.mul_comm,H7]
   rw[e4]at e2⊢;generalize hzz:z+b.toNat*128^i=y at*;rw[show(2:Int)=((2:Nat):Int)from rfl,tm,td,Ae (wrN (by omega)),wrI (by omega)];have hu:(bif decide (((y%2:Nat):Int)=1)then gd (Af (-((y/2:Nat):Int))) (gd (Af (-((y/2:Nat):Int)-1)) (some (-((y/2:Nat):Int)-1)))else some ((y/2:Nat):Int):Option Int)=some (unz y):=by
    unfold unz;by_cases h:y%2=0
    ·rw[bJ (by omega),cF,dW h]
    ·rw[aB (by omega),cT,dQ h,Ae (by unfold Af;omega),Ae (by unfold Af;omega)]
   rw[hu,bS,Air hN,bS];simp only;rw[Ae (by omega),Ae (by omega),Ae (λ_=>by omega)];have hsl:(s.drop (p:Int).toNat).take (((p:Int)+(i:Int)+1).toNat-(p:Int).toNat)=(s.drop p).take (i+1):=by rw[show(p:Int).toNat=p by omega,show((p:Int)+(i:Int)+1).toNat-p=i+1 by omega]
   rw[hsl];by_cases hw:Akh (unz y)
   ·by_cases hq:Lp (unz y)=(s.drop p).take (i+1)
    ·rw[A1 _ (by simp[hw,hq]),Ae (by unfold Af;omega),Ae (by unfold Af;omega)];refine⟨_,rfl,?_⟩;have hr:=AhC hw ((s.drop p).drop (i+1));rw[hq,y9,tW,sG,Nat.min_eq_left (by omega)]at hr;rw[hr];simp only;congr 1
    ·rw[AU _ (by simp[hq])];refine⟨_,rfl,?_⟩;have:xP (s.drop p)=none:=by
      cases hr:xP (s.drop p)with
      |none=>rfl
      |some nm=>obtain⟨_,a2,_,_⟩:=Ahp hr;grind[xP]
     rw[this]
   ·rw[AU _ (by simp[hw])];refine⟨_,rfl,?_⟩;have:xP (s.drop p)=none:=by
     cases hr:xP (s.drop p)with
     |none=>rfl
     |some nm=>obtain⟨a1,_,_,_⟩:=Ahp hr;grind[xP]
    rw[this]
theorem Ahu{N:Nat}(hN:10<=N){s:List UInt8}{p:Nat}(hs:s.length<=1000000000)(hp:p<=s.length):F4 N s p=some (match xP (s.drop p)with|some (n,m)=>(n,((p+m:Nat):Int),0)|none=>(0,0,10)):=by
 unfold F4;obtain⟨o,h1,h2⟩:=AiL N hN s p hs hp N 0 0 (by omega) (by omega) (by simp) (by grind);rw[nL]at h1;rw[A1 _ (by simp;omega),h1,bS,<-h2];cases o<;>rfl
section
open Go
attribute [local irreducible] Ax BO BB Bj BC Bk AY BD BK Cq
def HG(N:Nat)(s2385:List UInt8):Option ((List UInt8)×Int):=bif decide (65536<(s2385.length:Int))then(some ([],10))else((EQ N (s2385.length:Int)).bind λ(ae,aj)=>gd ((ae++s2385).length<=140737488355328)<|some (ae++s2385,0))
@[go_sem] def s70(N:Nat):Spec:=p0<|(Aoo<|Aof<|Aog ([],0) λr=>.tup [.v (.string (sB r.1)),.i r.2]) (HG N)
theorem Acc(N:Nat):AG Tryz.prog 70 (s70 N):=by
 refine fk (Aoq x70 (Ab (SF N)<|Aj)) ?_;intro s2385 r h _ hS F;dsimp only[x70,Ah,BW];unfold HG at h;refine An hS F h (λ_ h=>?_) (λ_ h=>?_)
 ·exact Ai hS F h
 ·obtain⟨⟨ae,aj⟩,ai,h⟩:=un h;obtain⟨ak,h⟩:=un h;exact Ai hS (fc ai F) h
def IG(N:Nat)(s2389:List UInt8)(af:Int):Option ((List UInt8)×Int×Int):=(F4 N s2389 af).bind λ(aa,r2392,ab)=>bif decide (ab≠0)then(some ([],0,ab))else(gd ((!((decide (aa<0))||(decide (65536<aa))))=true->(Af ((s2389.length:Int)-r2392)))<|bif ((decide (aa<0))||(decide (65536<aa)))||(decide ((s2389.length:Int)-r2392<aa))then(some ([],0,10))else(gd (Af (r2392+aa))<|gd (0<=r2392/\r2392<=r2392+aa/\r2392+aa<=(s2389.length:Int))<|gd (Af (r2392+aa))<|some ((s2389.drop r2392.toNat).take ((r2392+aa).toNat-r2392.toNat),r2392+aa,0)))
@[go_sem] def s82(N:Nat):Spec:=p0<|(Aoo<|Aoi<|Aof<|Aog ([],0,0) λr=>.tup [.v (.string (sB r.1)),.i r.2.1,.i r.2.2]) (IG N)
theorem Acd(N:Nat):AG Tryz.prog 82 (s82 N):=by
 refine fk (Aoq x82 (Ab (UX N)<|Aj)) ?_;intro s2389 af r h _ hS F;dsimp only[x82,Ah,BW];unfold IG at h;obtain⟨⟨aa,r2392,ab⟩,ah,h⟩:=un h;replace F:=fc ah F;refine An hS F h (λ_ h=>?_) (λ_ h=>?_)
 ·exact Ai hS F h
 ·obtain⟨ak,h⟩:=un h;refine An hS F h (λ_ h=>?_) (λ_ h=>?_)
  ·exact Ai hS F h
  ·obtain⟨aq,an,am,h⟩:=un h;exact Ai hS F h
end
section
def AiD:(Int×Int×Int×List Pt×Int×Int)×Int:=((0,0,0,[],0,0),80)
theorem Aje(N:Nat)(l:List Pt)(hl:l.length<=1000):∀(n i:Nat)(o:List Int),i<=l.length->l.length<n+i->o.length<=6+2*i->Ga N l n i o=some (o++fl (l.drop i))
 |0,i,o,hi,hn,ho=>by omega
 |n+1,i,o,hi,hn,ho=>by
  rw[Ga];by_cases he:i=l.length
  ·simp_all[fl]
  have hi':i<l.length:=by omega
  rw[Dq hi',cT,F1 hi',bS];simp;rw[Ae (by omega),Ae (by omega),<-ns,Aje N l hl n (i+1) _ (by omega) (by omega) (by simp;omega),YD hi',fl,qZ];rfl
theorem Ain{E:Type}(l:List E){i:Nat}(h:i<l.length):A7 l (i:Int)=some l[i]:=by simp_all[A7]
theorem Ajf{N:Nat}(hN:10<=N)(l:List Int)(hl:l.length<=1000):∀(n i:Nat)(o:List UInt8),i<=l.length->l.length<n+i->o.length<=10*i->Gb N l n o i=some (o++E0 (l.drop i))
 |0,i,o,hi,hn,ho=>by omega
 |n+1,i,o,hi,hn,ho=>by
  rw[Gb];by_cases he:i=l.length
  ·simp_all[E0]
  have hi':i<l.length:=by omega
  have hp:=kX l[i];rw[Dq hi',cT,Ain l hi',bS,Air hN,bS];simp only;rw[Ae (by rw[jT];omega),Ae (by omega),<-ns,Ajf hN l hl n (i+1) _ (by omega) (by omega) (by rw[jT];omega),oH hi'];unfold E0;rw[eG,List.flatten_cons,qZ]
theorem Aju(a b:List Int):E0 (a++b)=E0 a++E0 b:=by simp[E0]
theorem AjS{N:Nat}(hN:1001<=N){a b c:Int}{l:List Pt}{p q:Int}(h:UP a b c l p q):ID N a b c l p q=some (kW a b c l p q,0):=by have l8:=h.l.l8;have e1:=Aje N l (by omega) N 0 [a,b,c,p,q,(l.length)] (by omega) (by omega) (by simp);have hf:=AhS l;have e2:=Ajf (N:=N) (by omega) ([a,b,c,p,q,(l.length)]++fl l) (by simp;omega) N 0 [] (by omega) (by simp;omega) (by simp);rw[nL,tJ]at e1 e2;unfold ID;rw[OI hN,Is.2 h,bS,A1 _ (by rfl),e1,bS,e2,bS,pA,Aju,<-AhI];rfl
theorem Ai6{N:Nat}(hN:10<=N){s:List UInt8}(hs:s.length<=1000000000):∀(k n i p:Nat)(l:List Int)(c:Nat),p<=s.length->6<=i->l.length=i->l.getD 5 0=(c:Int)->c<=8->i+k=6+2*c->k<n->Gc N s n p i l=some (match rdN k (s.drop p)with|some (xs,r)=>.inl (((s.length-r.length:Nat):Int),l++xs)|none=>.inr AiD)
 |0,0,_,_,_,_,_,_,_,_,_,_,h=>by omega
 |k+1,0,_,_,_,_,_,_,_,_,_,_,h=>by omega
 |0,n+1,i,p,l,c,hp,hi,hl,hc,h8,hk,hn=>by rw[Gc,hc,Ae (λ_=>by omega),Ae (λ_=>by omega),Ae (by omega),Ae (by omega),A1 _ (by simp;omega)];simp only[rdN,qO,sG];rw[show s.length-(s.length-p)=p by omega]
 |k+1,n+1,i,p,l,c,hp,hi,hl,hc,h8,hk,hn=>by
  rw[Gc,hc,Ae (λ_=>by omega),Ae (λ_=>by omega),Ae (by omega),Ae (by omega),AU _ (by simp;omega),Ahu hN hs hp,bS];simp only[rdN];cases h1:xP (s.drop p)with
  |none=>rfl
  |some nm=>
   obtain⟨x,m⟩:=nm;have hp1:=Agx hp h1;simp only[w7];rw[A1 _ (by simp;omega),Ae (by omega),Ae (by omega),<-ns,Ai6 hN hs k n (i+1) (p+m) (l++[x]) c hp1 (by omega) (by simp[hl]) (by rw[<-hc,dM,dM,xV (by omega)]) h8 (by omega) (by omega)];grind
theorem AhL{N:Nat}(hN:10<=N){s:List UInt8}(hs:s.length<=1000000000){n i p:Nat}{l:List Int}(hp:p<=s.length)(hi:i<5)(hl:l.length=i):Gc N s (n+1) p i l=(match xP (s.drop p)with|some (x,m)=>Gc N s n ((p+m:Nat):Int) ((i+1:Nat):Int) (l++[x])|none=>some (.inr AiD)):=by
 rw[Gc,aB (show(i:Int)<6 by omega),Ae (by simp),Ae (by simp),Ae (by simp),Ae (by simp),AU _ (by rfl),Ahu hN hs hp,bS];cases h1:xP (s.drop p)with
 |none=>rfl
 |some nm=>simp only;rw[A1 _ (by simp;omega),Ae (by omega),Ae (by omega),ns]
theorem Ajv{N:Nat}(hN:10<=N){s:List UInt8}(hs:s.length<=1000000000){n p:Nat}{l:List Int}(hp:p<=s.length)(hl:l.length=5):Gc N s (n+1) p 5 l=(match xP (s.drop p)with|some (x,m)=>if 3<=x/\x<=8 then Gc N s n ((p+m:Nat):Int) 6 (l++[x])else some (.inr AiD)|none=>some (.inr AiD)):=by
 rw[Gc,aB (show(5:Int)<6 by omega),Ae (by simp),Ae (by simp),Ae (by simp),Ae (by simp),AU _ (by rfl),Ahu hN hs hp,bS];cases h1:xP (s.drop p)with
 |none=>rfl
 |some nm=>
  obtain⟨x,m⟩:=nm;simp only;by_cases hx:3<=x/\x<=8
  ·rw[dW hx,A1 _ (by simp;omega),Ae (by omega),Ae (by omega)];rfl
  ·rw[dQ hx,AU _ (by simp;omega)];rfl
theorem Ajg(N:Nat)(l:List Int)(hl:l.length<=1000):∀(k n i:Nat)(o:List Pt),i+2*k=l.length->k<n->o.length<=i->Gd N l n i o=some (o++prs (l.drop i))
 |0,0,_,_,_,h,_=>by omega
 |k+1,0,_,_,_,h,_=>by omega
 |0,n+1,i,o,hi,hn,ho=>by rw[Gd,show i=l.length by omega,F2,cF,tM];simp[prs]
 |k+1,n+1,i,o,hi,hn,ho=>by
  have h1:i<l.length:=by omega
  have h2:i+1<l.length:=by omega
  rw[Gd,Dq h1,cT,Ain l h1,bS,Ae (by omega),<-ns,Ain l h2,bS,Ae (by omega),Ae (by omega),show(i:Int)+2=((i+2:Nat))from rfl,Ajg N l hl k n (i+2) _ (by omega) (by omega) (by simp;omega),oH h1,oH h2,prs,qZ];rfl
theorem Ajq{N K:Nat}(hN:10<=N)(hK:30<=K){s:List UInt8}(hs:s.length<=1000000000):Gc N s K 0 0 []=some (match rdN 6 s with
  |some ([a,b,c,f,g,x],r)=>if 3<=x/\x<=8 then(match rdN (2*x.toNat) r with|some (xs,r')=>.inl (((s.length-r'.length:Nat):Int),[a,b,c,f,g,x]++xs)|none=>.inr AiD)else .inr AiD
  |_=>.inr AiD):=by
 obtain⟨n,rfl⟩:∃n,K=n+1+1+1+1+1+1:=⟨K-6,by omega⟩
 have e0:=AhL (n:=n+1+1+1+1+1) (i:=0) (l:=[]) hN hs (tD s.length) (by omega) rfl;rw[nL,tJ]at e0;rw[e0,show(6)=0+1+1+1+1+1+1 from rfl];simp only[rdN];cases h1:xP s with
 |none=>rfl
 |some nm1=>
 obtain⟨a,m1⟩:=nm1;have p1:=Agx (tD s.length) (by exact h1);simp only[pK,w7,pA,rB];rw[rB]at p1;rw[AhL (i:=1) hN hs p1 (by omega) rfl];cases h2:xP (s.drop m1)with
 |none=>rfl
 |some nm2=>
 obtain⟨b,m2⟩:=nm2;have p2:=Agx p1 h2;simp only[pK];rw[AhL (i:=2) hN hs p2 (by omega) rfl];cases h3:xP (s.drop (m1+m2))with
 |none=>rfl
 |some nm3=>
 obtain⟨c,m3⟩:=nm3;have p3:=Agx p2 h3;simp only[pK];rw[AhL (i:=3) hN hs p3 (by omega) rfl];cases h4:xP (s.drop (m1+m2+m3))with
 |none=>rfl
 |some nm4=>
 obtain⟨f,m4⟩:=nm4;have p4:=Agx p3 h4;simp only[pK];rw[AhL (i:=4) hN hs p4 (by omega) rfl];cases h5:xP (s.drop (m1+m2+m3+m4))with
 |none=>rfl
 |some nm5=>
 obtain⟨g,m5⟩:=nm5;have p5:=Agx p4 h5;simp only[pK];rw[show((4+1:Nat):Int)=5 from rfl,Ajv hN hs p5 rfl];cases h6:xP (s.drop (m1+m2+m3+m4+m5))with
 |none=>rfl
 |some nm6=>
 obtain⟨x,m6⟩:=nm6;have p6:=Agx p5 h6;simp only[pK];by_cases hx:3<=x/\x<=8
 ·rw[dW hx,dW hx];have e6:=Ai6 hN hs (2*x.toNat) n 6 (m1+m2+m3+m4+m5+m6) ([a]++[b]++[c]++[f]++[g]++[x]) x.toNat p6 (by omega) rfl (by show x=_;omega) (by omega) (by omega) (by omega);rw[show((6:Nat):Int)=6 from rfl]at e6;rw[e6];rfl
 ·rw[dQ hx,dQ hx]
theorem AiE{N:Nat}(hN:1001<=N){s:List UInt8}(hs:s.length<=1000000000):IE N s=some (match Ahs s with|some x=>(x,0)|none=>((0,0,0,[],0,0),80)):=by
 unfold IE Ahs;rw[Ajq (by omega) (by omega) hs,bS];cases h6:rdN 6 s with
 |none=>rfl
 |some hr=>
 obtain⟨h,r⟩:=hr;obtain⟨_,hl,_⟩:=Ahx _ _ _ _ h6
 match h,hl with
 |[a,b,c,f,g,x],_=>
 simp only[pK];by_cases hx:3<=x/\x<=8
 ·rw[dW hx,dW hx];cases h7:rdN (2*x.toNat) r with
  |none=>rfl
  |some xr=>
   obtain⟨xs,r'⟩:=xr;obtain⟨b1,b2,_⟩:=Ahx _ _ _ _ h7;obtain⟨c1,_,_⟩:=Ahx _ _ _ _ h6;have hlr:r'.length<=s.length:=by have q1:=congrArg List.length b1;have q2:=congrArg List.length c1;rw[jT]at q1 q2;omega
   have e4:=Ajg N ([a,b,c,f,g,x]++xs) (by simp;omega) x.toNat N 6 [] (by simp;omega) (by omega) (by simp);rw[show((6:Nat):Int)=6 from rfl,pA,show([a,b,c,f,g,x]++xs).drop 6=xs from rfl]at e4;simp only;rw[show A7 ([a,b,c,f,g,x]++xs) 0=some a from rfl,show A7 ([a,b,c,f,g,x]++xs) 1=some b from rfl,show A7 ([a,b,c,f,g,x]++xs) 2=some c from rfl,show A7 ([a,b,c,f,g,x]++xs) 3=some f from rfl,show A7 ([a,b,c,f,g,x]++xs) 4=some g from rfl];simp only[pK];rw[e4,bS,OI hN,BR (by grind),oK];by_cases hr:r'=[]
   ·subst hr;by_cases hu:UP a b c (prs xs) f g
    ·rw[dW ⟨rfl,hu⟩,Is.2 hu,A1 _ (by simp)]
    ·rw[dQ λh=>hu h.2,AU _ (by
      have:(Ji a b c f g&&vB (prs xs))=false:=by rw[tU];exact λh=>hu (Is.1 h)
      rw[this];simp)]
   ·have:0<r'.length:=by grind
    rw[AU _ (by simp;omega),dQ λh=>hr h.1]
 ·rw[dQ hx,dQ hx];rfl
section
variable{N:Nat}(hN:1001<=N)
include hN
theorem Ajl{s:List UInt8}{p:Nat}(hs:s.length<=1000000000)(hp:p<=s.length):(∃t k,rdT (s.drop p)=some (t,k)/\p+k<=s.length/\IG N s p=some (t,((p+k:Nat):Int),0))\/(rdT (s.drop p)=none/\IG N s p=some ([],0,10)):=by
 unfold IG rdT;rw[Ahu (by omega) hs hp,bS];cases hr:xP (s.drop p)with
 |none=>grind
 |some nm=>
  obtain⟨n,m⟩:=nm;obtain⟨wn,_,h3,_⟩:=Ahp hr;rw[sG]at h3;simp only;rw[A1 _ (by rfl),BR (by omega),pK];rw[sG];by_cases c:(0<=n/\n<=65536)/\m+n.toNat<=s.length-p
  ·left;rw[dW c];refine⟨_,_,rfl,by omega,?_⟩;rw[A1 _ (by rw[y8,y8,cY,cY,cY];omega),Ae (by omega),Ae (by omega),Ae (by omega)];have e1:(((p+m:Nat))+n).toNat-((p+m:Nat):Int).toNat=n.toNat:=by omega
   have e2:((p+m:Nat))+n=((p+(m+n.toNat):Nat)):=by omega
   rw[e1,e2,tK,w7]
  grind
end
end
section
open Go
attribute [local irreducible] Ax BO BB Bj BC Bk AY BD BK Cq
def GI(N:Nat)(l5808:List Int):Nat->(List UInt8)->Int->Option ((List UInt8))|0,_,_=>none|n+1,ab,ai=>bif decide (ai<(l5808.length:Int))then((A7 l5808 ai).bind λdg=>(EQ N dg).bind λ(an,i8)=>gd ((ab++an).length<=140737488355328)<|gd (Af (ai+1))<|GI N l5808 n (ab++an) (ai+1))else(some ab)
def D2(N:Nat)(l5808:List Int):Option (List UInt8):=(GI N l5808 N [] 0).bind λaq=>some aq
@[go_sem] def s68(N:Nat):Spec:=p0<|(Aon SD<|Aof<|Aog [] λr=>.v (.string (sB r))) (D2 N)
theorem Acp(N:Nat):AG Tryz.prog 68 (s68 N):=by
 refine fk (Aoq x68 (Ab (SF N)<|Aj)) ?_;intro l5808 r h _ hS F;dsimp only[x68,Ah,SD,BW];unfold D2 at h;obtain⟨i9,jo,h⟩:=un h;refine go hS F ?_;refine Bz i9 (λz:(List UInt8)×Nat=>⟨[(3,.v (.string (sB z.1)))],[],z.2⟩) (λz=>(z.1:(List UInt8))) (.x 0) ?_ ?_
 ·refine Bp (λn (y:(List UInt8)×Int×Nat)=>GI N l5808 n y.1 y.2.1) (λy=>⟨[(0,FW l5808),(3,.v (.string (sB y.1))),(4,.i y.2.1)],[],y.2.2⟩) ([],0,3) jo (Ch F) ?_;rintro n ⟨ab,ai,fj⟩ ae;simp only[GI]at ae;refine An hS F ae (λ_ ae=>?_) (λ_ ae=>?_)
  ·obtain⟨dg,iy,⟨an,i8⟩,gy,ae⟩:=un ae;obtain⟨jn,F⟩:=Cb GV iy F;obtain⟨jp,js,ae⟩:=un ae;exact Cd hS (fc gy F) (n,ab++an,ai+1,fj+1+1+1+1) ae
  ·exact B4 hS F (ab,fj+1) ae
 ·rintro⟨aq,jr⟩ rfl;exact Ai hS F h
def Lg(N:Nat)(ah:Int)(be:Int)(de:Int)(db:Int)(da:List (Int×Int))(cz:Int)(cy:Int)(aj:Int)(bb:Int)(ba:Int)(az:Int)(ay:Int)(av:Int)(au:Int)(cu:Bool):Option ((List UInt8)×Int):=(Ca N ah be de db da cz cy aj bb ba az ay av au cu).bind λe9=>bif !e9 then(some ([],170))else((D2 N [ah]).bind λaa=>bif decide (ah=1)then((ID N be de db da cz cy).bind λ(e8,i7)=>(HG N e8).bind λ(cj,i6)=>gd ((aa++cj).length<=140737488355328)<|some (aa++cj,0))else(bif decide (ah=3)then((D2 N [aj,bb,ba,be]).bind λci=>gd ((aa++ci).length<=140737488355328)<|some (aa++ci,0))else(bif decide (ah=4)then((D2 N [aj,bb,ba]).bind λce=>gd ((aa++ce).length<=140737488355328)<|some (aa++ce,0))else(bif decide (ah=5)then(bif cu then((D2 N [az,ay,av,au,1]).bind λb9=>gd ((aa++b9).length<=140737488355328)<|some (aa++b9,0))else((D2 N [az,ay,av,au,0]).bind λb7=>gd ((aa++b7).length<=140737488355328)<|some (aa++b7,0)))else((D2 N [aj]).bind λbz=>gd ((aa++bz).length<=140737488355328)<|some (aa++bz,0))))))
@[go_sem] def s30(N:Nat):Spec:=p0<|(Aoh<|Aoi<|Aoi<|Aoi<|Aoi<|Aon Aq<|Aoi<|Aoi<|Aoi<|Aoi<|Aoi<|Aoi<|Aoi<|Aoi<|Aoi<|Aod<|Aof<|Aof<|Aog ([],0) λr=>.tup [.v (.string (sB r.1)),.i r.2]) (Lg N)
theorem AgM(N:Nat):AG Tryz.prog 30 (s30 N):=by
 refine fk (Aoq x30 (Ab (U2 N)<|Ab (Acp N)<|Ab (Ab5 N)<|Ab (Acc N)<|Aj)) ?_;intro ah be de db da cz cy aj bb ba az ay av au cu r h _ hS F;dsimp only[x30,Ah,Aq,BW];unfold Lg at h;obtain⟨e9,gx,h⟩:=un h;replace F:=fc gx F;refine An hS F h (λ_ h=>?_) (λ_ h=>?_)
 ·exact Ai hS F h
 ·obtain⟨aa,gw,h⟩:=un h;replace F:=fc gw F;refine An hS F h (λ_ h=>?_) (λ_ h=>?_)
  ·obtain⟨⟨e8,i7⟩,gv,h⟩:=un h;obtain⟨⟨cj,i6⟩,gu,h⟩:=un h;obtain⟨ju,h⟩:=un h;exact Ai hS (fc gu (fc gv F)) h
  ·refine An hS F h (λ_ h=>?_) (λ_ h=>?_)
   ·obtain⟨ci,gt,jt,h⟩:=un h;exact Ai hS (fc gt F) h
   ·refine An hS F h (λ_ h=>?_) (λ_ h=>?_)
    ·obtain⟨ce,gr,jp,h⟩:=un h;exact Ai hS (fc gr F) h
    ·refine An hS F h (λ_ h=>?_) (λ_ h=>?_)
     ·refine An hS F h (λ_ h=>?_) (λ_ h=>?_)
      ·obtain⟨b9,gm,js,h⟩:=un h;exact Ai hS (fc gm F) h
      ·obtain⟨b7,gj,jw,h⟩:=un h;exact Ai hS (fc gj F) h
     ·obtain⟨bz,gi,jv,h⟩:=un h;exact Ai hS (fc gi F) h
def GJ(N:Nat)(s5982:List UInt8):Nat->Int->(List Int)->Option (Sum (Int×(List Int)) (((List Int)×Bool)))|0,_,_=>none|n+1,af,l5996=>bif (decide (af<(s5982.length:Int)))&&(decide ((l5996.length:Int)<6))then((F4 N s5982 af).bind λ(bw,bv,ez)=>bif decide (ez≠0)then(some (.inr ([],false)))else(gd ((l5996.length+1)*8<=140737488355328)<|GJ N s5982 n bv (l5996++[bw])))else(some (.inl (af,l5996)))
def JA(N:Nat)(s5982:List UInt8):Option ((List Int)×Bool):=(GJ N s5982 N 0 []).bind λcn=>match cn with|.inl (cr,fg)=>(some (fg,decide (cr=(s5982.length:Int))))|.inr i5=>(some i5)
@[go_sem] def s84(N:Nat):Spec:=p0<|(Aoo<|Aof<|Aog ([],false) λr=>.tup [FW r.1,.b r.2]) (JA N)
theorem Acq(N:Nat):AG Tryz.prog 84 (s84 N):=by
 refine fk (Aoq x84 (Ab (UX N)<|Aj)) ?_;intro s5982 r h _ hS F;dsimp only[x84,Ah];unfold JA at h;refine go hS F ?_;refine DT 1000001 4 1 [.i 0] (by show(4:Nat)<37;omega) (by omega) (ev F) ?_;obtain⟨cn,jo,h⟩:=un h;refine go hS F ?_;refine Bz cn (λz:Int×(List Int)×Nat=>⟨[(0,.v (.string (sB s5982))),(4,.own (1000001,4) z.2.1.length),(5,.i z.1)],[(.a (1000001,4),SE z.2.1)],z.2.2⟩) (λz=>(.inl (z.1,z.2.1):Sum (Int×(List Int)) (((List Int)×Bool)))) (.x 0) ?_ ?_
 ·refine Bp (λn (y:Int×(List Int)×Nat)=>GJ N s5982 n y.1 y.2.1) (λy=>⟨[(0,.v (.string (sB s5982))),(4,.own (1000001,4) y.2.1.length),(5,.i y.1)],[(.a (1000001,4),SE y.2.1)],y.2.2⟩) (0,[],4) jo (Ch F) ?_;rintro n ⟨af,l5996,fh⟩ ae;simp only[GJ]at ae;refine An hS F ae (λ_ ae=>?_) (λ_ ae=>?_)
  ·obtain⟨⟨bw,bv,ez⟩,gh,ae⟩:=un ae;replace F:=fc gh F;refine An hS F ae (λ_ ae=>?_) (λ_ ae=>?_)
   ·obtain rfl:=yJ ae;exact Ai hS F h
   ·obtain⟨jp,ae⟩:=un ae;exact Cd hS F (n,bv,l5996++[bw],fh+1+1+1+1+1) ae
  ·exact B4 hS F (af,l5996,fh+1) ae
 ·rintro⟨cr,fg,jq⟩ rfl;exact Ai hS F h
def Lh(N:Nat)(s6009:List UInt8):Option ((Int×(Int×Int×Int×(List (Int×Int))×Int×Int)×Int×Int×Int×(Int×Int×Int×Int×Bool))×Int):=(F4 N s6009 0).bind λ(r6010,r6011,ep)=>bif decide (ep≠0)then(some ((0,(0,0,0,[],0,0),0,0,0,(0,0,0,0,false)),170))else(bif decide (r6010=1)then((IG N s6009 r6011).bind λ(ej,ei,eh)=>(IE N ej).bind λ((ee,d9,d8,d7,dz,dw),du)=>bif ((decide (eh≠0))||(decide (du≠0)))||(decide (ei≠(s6009.length:Int)))then(some ((0,(0,0,0,[],0,0),0,0,0,(0,0,0,0,false)),170))else(some ((r6010,(ee,d9,d8,d7,dz,dw),0,0,0,(0,0,0,0,false)),0)))else(gd (0<=r6011/\r6011<=(s6009.length:Int))<|(JA N (s6009.drop r6011.toNat)).bind λ(r6038,bu)=>gd ((!(!bu))=true->((AH N r6010 2 7).isSome=true))<|bif (!bu)||(!((AH N r6010 2 7).getD false))then(some ((0,(0,0,0,[],0,0),0,0,0,(0,0,0,0,false)),170))else((A7 [0,0,1,4,3,5,1,1] r6010).bind λam=>bif decide ((r6038.length:Int)≠am)then(some ((0,(0,0,0,[],0,0),0,0,0,(0,0,0,0,false)),170))else(bif decide (r6010=3)then((A7 r6038 0).bind λbr=>(A7 r6038 1).bind λbq=>(A7 r6038 2).bind λbp=>(A7 r6038 3).bind λbo=>(Ca N r6010 bo 0 0 [] 0 0 br bq bp 0 0 0 0 false).bind λdt=>bif !dt then(some ((0,(0,0,0,[],0,0),0,0,0,(0,0,0,0,false)),170))else(some ((r6010,(bo,0,0,[],0,0),br,bq,bp,(0,0,0,0,false)),0)))else(bif decide (r6010=4)then((A7 r6038 0).bind λbn=>(A7 r6038 1).bind λbm=>(A7 r6038 2).bind λbl=>(Ca N r6010 0 0 0 [] 0 0 bn bm bl 0 0 0 0 false).bind λdq=>bif !dq then(some ((0,(0,0,0,[],0,0),0,0,0,(0,0,0,0,false)),170))else(some ((r6010,(0,0,0,[],0,0),bn,bm,bl,(0,0,0,0,false)),0)))else(bif decide (r6010=5)then((A7 r6038 0).bind λbj=>(A7 r6038 1).bind λbi=>(A7 r6038 2).bind λbh=>(A7 r6038 3).bind λbg=>(A7 r6038 4).bind λak=>(AH N ak 0 1).bind λdm=>bif !dm then(some ((0,(0,0,0,[],0,0),0,0,0,(0,0,0,0,false)),170))else((Ca N r6010 0 0 0 [] 0 0 0 0 0 bj bi bh bg (decide (ak=1))).bind λdl=>bif !dl then(some ((0,(0,0,0,[],0,0),0,0,0,(0,0,0,0,false)),170))else(some ((r6010,(0,0,0,[],0,0),0,0,0,(bj,bi,bh,bg,decide (ak=1))),0))))else((A7 r6038 0).bind λbf=>(Ca N r6010 0 0 0 [] 0 0 bf 0 0 0 0 0 0 false).bind λdh=>bif !dh then(some ((0,(0,0,0,[],0,0),0,0,0,(0,0,0,0,false)),170))else(some ((r6010,(0,0,0,[],0,0),bf,0,0,(0,0,0,0,false)),0)))))))))
@[go_sem] def s36(N:Nat):Spec:=p0<|(Aoo<|Aof<|Aog ((0,(0,0,0,[],0,0),0,0,0,(0,0,0,0,false)),0) λr=>.tup [.agg [.i r.1.1,.i r.1.2.1.1,.i r.1.2.1.2.1,.i r.1.2.1.2.2.1,BP r.1.2.1.2.2.2.1,.i r.1.2.1.2.2.2.2.1,.i r.1.2.1.2.2.2.2.2,.i r.1.2.2.1,.i r.1.2.2.2.1,.i r.1.2.2.2.2.1,.i r.1.2.2.2.2.2.1,.i r.1.2.2.2.2.2.2.1,.i r.1.2.2.2.2.2.2.2.1,.i r.1.2.2.2.2.2.2.2.2.1,.b r.1.2.2.2.2.2.2.2.2.2],.i r.2]) (Lh N)
theorem AgN(N:Nat):AG Tryz.prog 36 (s36 N):=by
 refine fk (Aoq x36 (Ab (UX N)<|Ab (Acd N)<|Ab (Ab6 N)<|Ab (Acq N)<|Ab (ZH N)<|Ab (U2 N)<|Aj)) ?_;intro s6009 r h _ hS F;dsimp only[x36,Ah];unfold Lh at h;obtain⟨⟨r6010,r6011,ep⟩,gg,h⟩:=un h;replace F:=fc gg F;refine An hS F h (λ_ h=>?_) (λ_ h=>?_)
 ·exact Ai hS F h
 ·refine An hS F h (λ_ h=>?_) (λ_ h=>?_)
  ·obtain⟨⟨ej,ei,eh⟩,ge,h⟩:=un h;obtain⟨⟨⟨ee,d9,d8,d7,dz,dw⟩,du⟩,gc,h⟩:=un h;replace F:=fc gc (fc ge F);refine An hS F h (λ_ h=>?_) (λ_ h=>?_)
   ·exact Ai hS F h
   ·exact Ai hS F h
  ·obtain⟨ju,⟨r6038,bu⟩,fx,h⟩:=un h;obtain⟨jt,h⟩:=un h;replace F:=fc fx F;refine An hS F h (λ_ h=>?_) (λ_ h=>?_)
   ·exact Ai hS F h
   ·obtain⟨am,cq,h⟩:=un h;have co:[0,0,1,4,3,5,1,1].getD r6010.toNat 0=am:=ixs cq _;have gz:A6 [[.i 0],[.i 0],[.i 1],[.i 4],[.i 3],[.i 5],[.i 1],[.i 1]] [.i 0] r6010.toNat=[.i am]:=by have hq:=yR [0,0,1,4,3,5,1,1] r6010.toNat;rw[co]at hq;exact hq
    have iz:=(Ng cq).1;try simp only[pV,yH]at iz
    replace F:=fc gz (fc co F);refine An hS F h (λ_ h=>?_) (λ_ h=>?_)
    ·exact Ai hS F h
    ·refine An hS F h (λ_ h=>?_) (λ_ h=>?_)
     ·obtain⟨br,iw,bq,iv,bp,ir,bo,iq,dt,fr,h⟩:=un h;obtain⟨jm,F⟩:=KQ 0 GV iw F;obtain⟨jl,F⟩:=KQ 1 GV iv F;obtain⟨jk,F⟩:=KQ 2 GV ir F;obtain⟨jj,F⟩:=KQ 3 GV iq F;replace F:=fc fr F;refine An hS F h (λ_ h=>?_) (λ_ h=>?_)
      ·exact Ai hS F h
      ·exact Ai hS F h
     ·refine An hS F h (λ_ h=>?_) (λ_ h=>?_)
      ·obtain⟨bn,ip,bm,im,bl,ij,dq,fq,h⟩:=un h;obtain⟨ji,F⟩:=KQ 0 GV ip F;obtain⟨jh,F⟩:=KQ 1 GV im F;obtain⟨jg,F⟩:=KQ 2 GV ij F;replace F:=fc fq F;refine An hS F h (λ_ h=>?_) (λ_ h=>?_)
       ·exact Ai hS F h
       ·exact Ai hS F h
      ·refine An hS F h (λ_ h=>?_) (λ_ h=>?_)
       ·obtain⟨bj,ii,bi,ig,bh,ic,bg,ib,ak,g9,dm,fp,h⟩:=un h;obtain⟨jf,F⟩:=KQ 0 GV ii F;obtain⟨je,F⟩:=KQ 1 GV ig F;obtain⟨jd,F⟩:=KQ 2 GV ic F;obtain⟨jc,F⟩:=KQ 3 GV ib F;obtain⟨jb,F⟩:=KQ 4 GV g9 F;replace F:=fc fp F;refine An hS F h (λ_ h=>?_) (λ_ h=>?_)
        ·exact Ai hS F h
        ·obtain⟨dl,fo,h⟩:=un h;replace F:=fc fo F;refine An hS F h (λ_ h=>?_) (λ_ h=>?_)
         ·exact Ai hS F h
         ·exact Ai hS F h
       ·obtain⟨bf,g8,dh,fm,h⟩:=un h;obtain⟨ja,F⟩:=KQ 0 GV g8 F;replace F:=fc fm F;refine An hS F h (λ_ h=>?_) (λ_ h=>?_)
        ·exact Ai hS F h
        ·exact Ai hS F h
end
section
open Go
attribute [local irreducible] Ax BO BB Bj BC Bk AY BD BK Cq
def H5(N:Nat):Option Bool:=(Cu N 0).bind λ(r1,r2)=>(CZ N r1 r2 3 8 0 0 [] 0 0 3 0 2 0 0 0 0 false).bind λ((r4,r5),r6)=>(CZ N r1 r2 4 0 0 0 [] 0 0 3 5 0 0 0 0 0 false).bind λ((r8,r9),d7)=>(MX N r1 r2 4 0 0 0 [] 0 0 3 5 0 0 0 0 0 false).bind λ(r12,dz)=>(CZ N r1 r2 4 0 0 0 [] 0 0 3 (-1) 0 0 0 0 0 false).bind λ((e8,ez),dw)=>(CZ N r1 r2 6 0 0 0 [] 0 0 1 0 0 0 0 0 0 false).bind λ((du,r20),dt)=>(CZ N du r20 6 0 0 0 [] 0 0 1 0 0 0 0 0 0 false).bind λ((ep,ej),dq)=>(CZ N r1 r2 2 0 0 0 [] 0 0 3 0 0 0 0 0 0 false).bind λ((r27,r28),dm)=>(MX N r1 r2 2 0 0 0 [] 0 0 3 0 0 0 0 0 0 false).bind λ(ei,dl)=>(CZ N r1 r2 5 0 0 0 [] 0 0 0 0 0 2 3 4 1 false).bind λ((eh,ee),dh)=>(ND N 4 0 0 0 [] 0 0 3 5 0 0 0 0 0 false).bind λ(r38,dg)=>(Nh N r38).bind λ((bh,(bg,bf,be,bb,ba,az),ay,av,au,(aq,an,am,ak,aj)),de)=>(Hb N r1 r2 [(4,(0,0,0,[],0,0),3,5,0,(0,0,0,0,false)),(6,(0,0,0,[],0,0),1,0,0,(0,0,0,0,false))]).bind λ((d9,r59),r60,db)=>(Kk N 5 0 0 0 [] 0 0 0 0 0 2 3 0 1 false).bind λ(da,cz)=>bif ((((((((((decide (r6≠0))||(decide (d7≠0)))||(decide (dw≠170)))||(decide (dt≠0)))||(decide (dq≠170)))||(decide (dm≠0)))||(decide (dh≠170)))||(decide (dg≠0)))||(decide (de≠0)))||(decide (db≠0)))||(decide ((r4.length:Int)≠2))then(some false)else((HA N 0).bind λ(cy,ai,ah,d8,af,ae)=>(A7 r4 0).bind λ(x73,x74,x75,x76,x77,x78)=>(C2 N x73 x74 x75 x76 x77 x78 cy ai ah [(0,0),(4,0),(4,4)] af ae).bind λcu=>gd (cu=true)<|(A7 r4 1).bind λ(x82,x83,x84,x85,x86,x87)=>(C2 N x82 x83 x84 x85 x86 x87 8 ai ah [(4,4),(0,4),(0,0)] af ae).bind λab=>gd ((ab&&(decide ((r5.length:Int)=0)))=true->((Cu N 5).isSome=true))<|gd ((ab&&(decide ((r5.length:Int)=0)))=true->((CG N r8 r9 (((Cu N 5).getD ([],[])).1) (((Cu N 5).getD ([],[])).2)).isSome=true))<|gd (((ab&&(decide ((r5.length:Int)=0)))&&((CG N r8 r9 (((Cu N 5).getD ([],[])).1) (((Cu N 5).getD ([],[])).2)).getD false))=true->(0<=0/\0<(r20.length:Int)))<|gd (dz=true)<|(Ie N r12 [(4,(0,0,0,[],0,0),3,(-5),0,(0,0,0,0,false))]).bind λcr=>gd ((decide (r38=[8,6,10,0]))=true->((FG N bh bg bf be bb ba az ay av au aq an am ak aj 4 0 0 0 [] 0 0 3 5 0 0 0 0 0 false).isSome=true))<|gd ((((((((((ab&&(decide ((r5.length:Int)=0)))&&((CG N r8 r9 (((Cu N 5).getD ([],[])).1) (((Cu N 5).getD ([],[])).2)).getD false))&&(!((r20.getD 0 (0,0,0,0,false)).2.2.2.2)))&&(decide ((r27.length:Int)=0)))&&(decide ((r28.length:Int)=0)))&&(cr&&(!dl)))&&((decide (r38=[8,6,10,0]))&&((FG N bh bg bf be bb ba az ay av au aq an am ak aj 4 0 0 0 [] 0 0 3 5 0 0 0 0 0 false).getD false)))&&(decide (r60=2)))&&(decide ((r59.length:Int)=1)))=true)<|(H0 N da [3]).bind λcq=>gd (cq=true)<|(H0 N cz [2]).bind λaa=>gd (aa=true->((Dw N r1 r2).isSome=true))<|gd ((aa&&((Dw N r1 r2).getD false))=true->((Dw N [] r2).isSome=true))<|gd (((aa&&((Dw N r1 r2).getD false))&&(!((Dw N [] r2).getD false)))=true->((BF N 4 0 0 0 [] 0 0 3 5 0 0 0 0 0 false).isSome=true))<|gd ((((aa&&((Dw N r1 r2).getD false))&&(!((Dw N [] r2).getD false)))&&((BF N 4 0 0 0 [] 0 0 3 5 0 0 0 0 0 false).getD false))=true->((BF N 0 0 0 0 [] 0 0 0 0 0 0 0 0 0 false).isSome=true))<|some ((((aa&&((Dw N r1 r2).getD false))&&(!((Dw N [] r2).getD false)))&&((BF N 4 0 0 0 [] 0 0 3 5 0 0 0 0 0 false).getD false))&&(!((BF N 0 0 0 0 [] 0 0 0 0 0 0 0 0 0 false).getD false))))
@[go_sem] def s10(N:Nat):Spec:=p0<|pE<|pF (H5 N) false λr=>.b r
theorem Acu(N:Nat):AG Tryz.prog 10 (s10 N):=by
 refine Ar x10.ok<|Ad<|As λr h=>wx x10 (Ab (Acl N)<|Ab (MW N)<|Ab (AcO N)<|Ab (AcP N)<|Ab (AbZ N)<|Ab (pY N)<|Ab (AcN N)<|Ab (oE N)<|Ab (Zw N)<|Ab (oC N)<|Ab (Acr N)<|Ab (oG N)<|Ab (Ab9 N)<|Ab (ZG N)<|Ab (pX N)<|Aj) λ_ hS F=>?_
 dsimp only[x10,Ah,BW];unfold H5 at h;obtain⟨⟨r1,r2⟩,fr,h⟩:=un h;obtain⟨⟨⟨r4,r5⟩,r6⟩,fq,h⟩:=un h;obtain⟨⟨⟨r8,r9⟩,d7⟩,cj,h⟩:=un h;obtain⟨⟨r12,dz⟩,ci,h⟩:=un h;obtain⟨⟨⟨e8,ez⟩,dw⟩,ce,h⟩:=un h;obtain⟨⟨⟨du,r20⟩,dt⟩,b9,h⟩:=un h;obtain⟨⟨⟨ep,ej⟩,dq⟩,b7,h⟩:=un h;obtain⟨⟨⟨r27,r28⟩,dm⟩,bz,h⟩:=un h;obtain⟨⟨ei,dl⟩,bw,h⟩:=un h;obtain⟨⟨⟨eh,ee⟩,dh⟩,bv,h⟩:=un h;obtain⟨⟨r38,dg⟩,bu,h⟩:=un h;obtain⟨⟨⟨bh,⟨bg,bf,be,bb,ba,az⟩,ay,av,au,⟨aq,an,am,ak,aj⟩⟩,de⟩,br,h⟩:=un h;obtain⟨⟨⟨d9,r59⟩,r60,db⟩,bq,h⟩:=un h;obtain⟨⟨da,cz⟩,bp,h⟩:=un h;replace F:=fc bp (fc bq (fc br (fc bu (fc bv (fc bw (fc bz (fc b7 (fc b9 (fc ce (fc ci (fc cj (fc fq (fc fr F)))))))))))));refine An hS F h (λ_ h=>?_) (λ_ h=>?_)
 ·exact Ai hS F h
 ·obtain⟨⟨cy,ai,ah,d8,af,ae⟩,bo,h⟩:=un h;obtain⟨⟨x73,x74,x75,x76,x77,x78⟩,co,h⟩:=un h;obtain⟨gc,F⟩:=KQ 0 Au co (fc bo F);obtain⟨cu,bn,fp,⟨x82,x83,x84,x85,x86,x87⟩,cn,h⟩:=un h;obtain⟨fx,F⟩:=KQ 1 Au cn (fc fp (fc bn F));obtain⟨ab,bm,gj,gi,gh,fh,cr,bl,gg,fg,cq,bj,e9,aa,bi,ge,fo,fm,fj,h⟩:=un h;exact Ai hS (fc bi (fc e9 (fc bj (fc fg (fc bl (fc fh (fc bm F))))))) h
end
theorem AbD:H5 2000=some true:=by decide+kernel
section
open Go
attribute [local irreducible] Ax BO BB Bj BC Bk AY BD BK Cq
def e_s(x:List UInt8):List AV:=[.v (.string (sB x))]
def d_s:List AV->List UInt8|[.v (.string a1)]=>(bL a1)|_=>[]
theorem AiC(R:List (List UInt8))(i:Nat):A6 (R.map e_s) [.v (.string (sB []))] i=e_s (R.getD i []):=by unfold A6;rw[dM,dM,rA];cases R[i]? <;>rfl
def R_s:Rw (List UInt8):=⟨1,e_s,d_s,[.v (.string (sB []))]⟩
def L_s(l:List (List UInt8)):AV:=.sl 1 false (l.map e_s) [.v (.string (sB []))]
def A_s(l:List (List UInt8)):AV:=.sl 1 true (l.map e_s) [.v (.string (sB []))]
attribute [go_sem] R_s L_s A_s e_s d_s AiC
end
open Go
attribute [local irreducible] Ax BO BB Bj BC Bk AY BD BK Cq
