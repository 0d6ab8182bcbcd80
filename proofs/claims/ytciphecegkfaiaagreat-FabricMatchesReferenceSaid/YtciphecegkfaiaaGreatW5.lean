import Derived.Test.YtciphecegkfaiaaGreatW2
set_option linter.unusedSimpArgs false
set_option linter.unusedVariables false
namespace Go.Proofs.YtciphecegkfaiaaGreat.Am
theorem vO{N:Nat}{n:Int}(h:Wr n):FE N n=some (zg n:Int):=by
 have h':=h;unfold Wr at h';unfold FE zg;by_cases h0:n<0
 ·obtain⟨m,hm⟩:∃m:Nat,-n=m:=Int.eq_ofNat_of_zero_le (by omega);rw[dC h0,cT,hm,Aa (by unfold Ab;omega),JF (by omega),eW (by omega)];rw[show(m:Int)*2=((2*m:Nat):Int) by omega,Aa (JF (by omega)),show((2*m:Nat):Int)-1=((2*m-1:Nat):Int) by omega,Aa (JF (by omega))];congr 1;omega
 ·obtain⟨m,rfl⟩:=Int.eq_ofNat_of_zero_le (show 0<=n by omega);rw[dJ h0,cF,JF (by omega),eX (by omega)];rw[show(m:Int)*2=((2*m:Nat):Int) by omega,Aa (JF (by omega))];rfl
theorem tm(m n:Nat):(m:Int).tmod (n:Int)=((m%n:Nat):Int):=(Int.ofNat_tmod m n).symm
theorem td(m n:Nat):(m:Int).tdiv (n:Int)=((m/n:Nat):Int):=(Int.ofNat_tdiv m n).symm
theorem Uj(N:Nat):∀(k n f z:Nat)(l:List Int),0<k->z<128^k->k<=9->k<=n->k<=f->l.length+k<=100->∃(z':Int)(l':List Int),D5 N n z l=some (z',l')/\OS (l'++[IntKind.wrap .u8 z'])=OS l++OT f z/\l'.length<=100
 |0,n,f,z,l,h0,_,_,_,_,_=>by omega
 |k+1,0,f,z,l,_,_,_,h,_,_=>by omega
 |k+1,n+1,0,z,l,_,_,_,_,h,_=>by omega
 |k+1,n+1,f+1,z,l,_,hz,h9,hn,hf,hl=>by
  have hB:(128:Nat)^(k+1)<=128^9:=Nat.pow_le_pow_right (by omega) h9;rw[show(128:Nat)^9=9223372036854775808 from rfl]at hB;rw[D5];by_cases hc:z<128
  ·rw[dJ (by omega),cF,WU hc];refine⟨_,_,rfl,?_,by omega⟩;rw[YJ (by omega)];simp[OS]
  ·rw[dC (by omega),cT,show(128:Int)=((128:Nat):Int)from rfl,tm,td,show((z%128:Nat):Int)+((128:Nat):Int)=((z%128+128:Nat):Int) by omega,Aa (JF (by omega)),Aa (by omega),Aa (JF (by omega)),YJ (by omega)];have hk:0<k:=by
    rcases Nat.eq_zero_or_pos k with rfl|h
    ·rw[show(128:Nat)^(0+1)=128 from rfl]at hz;omega
    ·exact h
   obtain⟨z',l',e1,e2,e3⟩:=Uj N k n f (z/128) (l++[((z%128+128:Nat):Int)]) hk (by rw[Nat.pow_succ]at hz;omega) (by omega) (by omega) (by omega) (by simp;omega);refine⟨z',l',e1,?_,e3⟩;rw[e2,WV hc (by omega)];unfold OS;rw[w9,qV];rfl
theorem Aa1{n:Int}(h:¬Wr n):EV n=[]:=by unfold Wr at h;unfold EV;rw[show(decide (n< -4611686018427387903)||decide (4611686018427387903<n))=true by simp;omega,Cg]
open Classical in
theorem Qp{N:Nat}(hN:10<=N)(n:Int):Dr N n=some (EV n,if Wr n then 0 else 10):=by
 unfold Dr;by_cases h:Wr n
 ·have h':=h;unfold Wr at h';rw[Az _ (by simp;omega),vO h,bS,eX h,Tm h];obtain⟨z',l',e1,e2,e3⟩:=Uj N 9 N 10 (zg n) [] (by omega) (by rw[show(128:Nat)^9=9223372036854775808 from rfl];exact qQ h) (by omega) (by omega) (by omega) (by simp);rw[e1,bS];simp only;rw[Aa (by omega)];have e2':(l'++[IntKind.wrap .u8 z']).map (λx=>UInt8.ofNat x.toNat)=OT 10 (zg n):=by rw[show OS []=[]from rfl,nJ]at e2;exact e2
  rw[e2']
 ·rw[Aa1 h,eW h];unfold Wr at h;rw[AG _ (by simp;omega)]
theorem Uk(N:Nat)(hN:10<=N)(s:List UInt8)(p:Nat)(hs:s.length<=1000000000)(hp:p<=s.length):∀(n i z:Nat),i<=9->9<n+i->z<128^i->KC 9 (s.drop p)=(match KC (9-i) (s.drop (p+i))with|some (y,m)=>if 0<i/\y=0 then none else some (z+y*128^i,i+m)|none=>none)->∃o,ER N p s n z i=some o/\(match o with|.inl ()=>(0,0,10)|.inr r=>r)=(match EF (s.drop p)with|some (x,m)=>(x,((p+m:Nat):Int),0)|none=>((0,0,10):Int×Int×Int))
 |0,i,z,hi,hn,hz,_=>by omega
 |n+1,i,z,hi,hn,hz,hI=>by
  rw[ER];by_cases h9:i=9
  ·subst h9;rw[Aa (λh=>by simp at h),Az _ (by simp)];refine⟨_,rfl,?_⟩;have:EF (s.drop p)=none:=by unfold EF;rw[hI];rfl
   rw[this]
  have hi9:i<9:=by omega
  obtain⟨k,hk⟩:∃k,9-i=k+1:=⟨8-i,by omega⟩
  rw[Aa (λ_=>by unfold Ab;omega)];by_cases hle:s.length<=p+i
  ·rw[Az _ (by rw[KV];exact .inr (dJ (by omega)))];refine⟨_,rfl,?_⟩;have:EF (s.drop p)=none:=by unfold EF;rw[hI,List.drop_eq_nil_of_le hle,hk];rfl
   rw[this]
  rw[AG _ (by simp;omega),Aa (by unfold Ab;omega),Aa (by omega),Aa (by unfold Ab;omega),Aa (by omega)];have hpi:((p:Int)+(i:Int)).toNat=p+i:=by omega
  have hlt:p+i<s.length:=by omega
  have hdr:s.drop (p+i)=s.getD (p+i) 0::s.drop (p+i+1):=by rw[mL hlt];simp[eT,hlt]
  rw[hk,hdr]at hI;rw[hpi];generalize hbb:s.getD (p+i) 0=b at hI⊢;have hb:b.toNat<256:=b.toNat_lt;have hB:(128:Nat)^(i+1)<=128^9:=Nat.pow_le_pow_right (by omega) hi9;rw[show(128:Nat)^9=9223372036854775808 from rfl]at hB;have h2:(128:Nat)^i=2^(7*i):=by rw[Nat.pow_mul]
  have e2:128^i*(b.toNat%128)+z<128^(i+1):=by rw[Nat.pow_succ];have:128^i*(b.toNat%128)<=128^i*127:=Nat.mul_le_mul_left _ (by omega);omega
  have e:CQ .shl .u64 ((b.toNat%128:Nat):Int) (7*(i:Int))=((128^i*(b.toNat%128):Nat):Int):=by unfold CQ;simp only;rw[show(7*(i:Int)).toNat=7*i by omega,show min (7*i) (IntKind.bits .u64)=7*i from Nat.min_eq_left (by show 7*i<=64;omega)];rw[show((b.toNat%128:Nat):Int)*2^(7*i)=((128^i*(b.toNat%128):Nat):Int) by rw[h2,Int.natCast_mul,Int.natCast_pow,X4];rfl,JF (by omega)]
  rw[JF (show b.toNat<18446744073709551616 by omega),show(128:Int)=((128:Nat):Int)from rfl,tm,e,show(z:Int)+((128^i*(b.toNat%128):Nat):Int)=((128^i*(b.toNat%128)+z:Nat):Int) by omega,Aa (JF (by omega))];simp only[KC]at hI;by_cases hc:128<=b.toNat
  ·rw[dC (by omega),cT,Aa (by unfold Ab;omega),show((i:Int)+1)=((i+1:Nat):Int)from rfl];refine Uk N hN s p hs hp n (i+1) _ (by omega) (by omega) e2 ?_;rw[hI,eX hc,show 9-(i+1)=k by omega,show p+(i+1)=p+i+1 by omega];cases hr:KC k (s.drop (p+i+1))with
   |none=>rfl
   |some zm=>
    obtain⟨y,m⟩:=zm;rw[pA];simp only;by_cases hy:y=0
    ·rw[eX hy,eX ⟨by omega,hy⟩]
    ·rw[eW hy];have e3:128^i*(b.toNat%128)+z+y*128^(i+1)=z+(b.toNat%128+128*y)*128^i:=by rw[Nat.pow_succ];grind
     simp only;rw[e3,eW (by omega),eW (by omega),show i+(m+1)=i+1+m by omega]
  ·rw[eW hc]at hI;simp only at hI;rw[dJ (by omega),cF];have hm:b.toNat%128=b.toNat:=tT (by omega);rw[hm]at e2⊢;have e4:128^i*b.toNat+z=z+b.toNat*128^i:=by rw[Nat.mul_comm,P9]
   rw[e4]at e2⊢;generalize hzz:z+b.toNat*128^i=y at*;rw[show(2:Int)=((2:Nat):Int)from rfl,tm,td,Aa (JF (by omega)),gY (by omega)];have hu:(bif decide (((y%2:Nat):Int)=1)then gd (Ab (-((y/2:Nat):Int))) (gd (Ab (-((y/2:Nat):Int)-1)) (some (-((y/2:Nat):Int)-1)))else some ((y/2:Nat):Int):Option Int)=some (Kz y):=by
    unfold Kz;by_cases h:y%2=0
    ·rw[dJ (by omega),cF,eX h]
    ·rw[dC (by omega),cT,eW h,Aa (by unfold Ab;omega),Aa (by unfold Ab;omega)]
   rw[hu,bS,Qp hN,bS];simp only;rw[Aa (λ_=>by unfold Ab;omega),Aa (λ_=>by unfold Ab;omega),Aa (λ_=>by omega)];have hsl:(s.drop (p:Int).toNat).take (((p:Int)+(i:Int)+1).toNat-(p:Int).toNat)=(s.drop p).take (i+1):=by rw[show(p:Int).toNat=p by omega,show((p:Int)+(i:Int)+1).toNat-p=i+1 by omega]
   rw[hsl];by_cases hw:Wr (Kz y)
   ·by_cases hq:EV (Kz y)=(s.drop p).take (i+1)
    ·rw[Az _ (by simp[hw,hq]),Aa (by unfold Ab;omega),Aa (by unfold Ab;omega)];refine⟨_,rfl,?_⟩;have hr:=NK hw ((s.drop p).drop (i+1));rw[hq,KL,w8,s9,Nat.min_eq_left (by omega)]at hr;rw[hr];simp only;congr 1
    ·rw[AG _ (by simp[hq])];refine⟨_,rfl,?_⟩;have:EF (s.drop p)=none:=by
      cases hr:EF (s.drop p)with
      |none=>rfl
      |some nm=>
       exfalso;obtain⟨x,m⟩:=nm;obtain⟨_,a2,_,_⟩:=Hf hr;unfold EF at hr;rw[hI]at hr;split at hr
       ·cases hr
       ·rw[pA]at hr;split at hr
        ·cases hr
        ·cases hr
         exact hq a2.symm
     rw[this]
   ·rw[AG _ (by simp[hw])];refine⟨_,rfl,?_⟩;have:EF (s.drop p)=none:=by
     cases hr:EF (s.drop p)with
     |none=>rfl
     |some nm=>
      exfalso;obtain⟨x,m⟩:=nm;obtain⟨a1,_,_,_⟩:=Hf hr;unfold EF at hr;rw[hI]at hr;split at hr
      ·cases hr
      ·rw[pA]at hr;split at hr
       ·cases hr
       ·cases hr
        exact hw a1
    rw[this]
theorem NL{N:Nat}(hN:10<=N){s:List UInt8}{p:Nat}(hs:s.length<=1000000000)(hp:p<=s.length):E1 N s p=some (match EF (s.drop p)with|some (n,m)=>(n,((p+m:Nat):Int),0)|none=>(0,0,10)):=by
 unfold E1;obtain⟨o,h1,h2⟩:=Uk N hN s p hs hp N 0 0 (by omega) (by omega) (by simp) (by
  rw[TU,OQ];cases KC 9 (s.drop p)with
  |none=>rfl
  |some zm=>obtain⟨y,m⟩:=zm;simp)
 rw[mK]at h1;rw[Az _ (by simp;omega),h1,bS,<-h2];cases o<;>rfl
