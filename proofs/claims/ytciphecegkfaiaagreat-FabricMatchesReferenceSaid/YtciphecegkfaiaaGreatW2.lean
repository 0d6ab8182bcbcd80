import Derived.Test.YtciphecegkfaiaaGreatP9
import Derived.Test.YtciphecegkfaiaaGreatW4
set_option linter.unusedSimpArgs false
set_option linter.unusedVariables false
namespace Go.Proofs.YtciphecegkfaiaaGreat.Am
section
open Go
theorem JF{n:Nat}(h:n<18446744073709551616):IntKind.wrap .u64 (n:Int)=n:=by
 have e:IntKind.wrap .u64 (n:Int)=(n:Int)%2^64:=by simp[IntKind.wrap,IntKind.bits,IntKind.signed]
 rw[e,show(2:Int)^64=18446744073709551616 by decide];omega
theorem YJ{n:Nat}(h:n<256):IntKind.wrap .u8 (n:Int)=n:=by
 have e:IntKind.wrap .u8 (n:Int)=(n:Int)%2^8:=by simp[IntKind.wrap,IntKind.bits,IntKind.signed]
 rw[e,show(2:Int)^8=256 by decide];omega
theorem gY{n:Int}(h: -9223372036854775808<=n/\n<=9223372036854775807):IntKind.wrap .i64 n=n:=IW (k:=.i64) h
theorem LC{w x:Nat}(h:x<2^w):(BitVec.ofInt w (x:Int)).toNat=x:=by rw[BitVec.toNat_ofInt];have:((x:Int)%((2^w:Nat):Int))=x:=Int.emod_eq_of_lt (by omega) (by omega);rw[this];rfl
theorem gZ{z:Nat}(h:z<18446744073709551616):B9 .and .u64 (z:Int) 127=((z%128:Nat):Int):=by unfold B9;simp only;rw[BitVec.toNat_and,show(127:Int)=((127:Nat):Int)from rfl,show IntKind.bits .u64=64 from rfl,LC (by omega),LC (by omega),show 127=2^7-1 from rfl,Nat.and_two_pow_sub_one_eq_mod,JF (by omega)]
theorem vL{z:Nat}(h:z<256):B9 .and .u8 (z:Int) 127=((z%128:Nat):Int):=by unfold B9;simp only;rw[BitVec.toNat_and,show(127:Int)=((127:Nat):Int)from rfl,show IntKind.bits .u8=8 from rfl,LC (by omega),LC (by omega),show 127=2^7-1 from rfl,Nat.and_two_pow_sub_one_eq_mod,YJ (by omega)]
theorem AaW{z:Nat}(h:z<18446744073709551616):B9 .and .u64 (z:Int) 1=((z%2:Nat):Int):=by unfold B9;simp only;rw[BitVec.toNat_and,show(1:Int)=((1:Nat):Int)from rfl,show IntKind.bits .u64=64 from rfl,LC (by omega),LC (by omega),show 1=2^1-1 from rfl,Nat.and_two_pow_sub_one_eq_mod,JF (by omega)]
theorem Acc{z:Nat}(h:z<128):B9 .or .u8 (z:Int) 128=((z+128:Nat):Int):=by unfold B9;simp only;rw[BitVec.toNat_or,show(128:Int)=((128:Nat):Int)from rfl,show IntKind.bits .u8=8 from rfl,LC (by omega),LC (by omega)];have:=Nat.two_pow_add_eq_or_of_lt (i:=7) (b:=z) (by omega) 1;rw[show 2^7*1=128 from rfl]at this;rw[Nat.or_comm,<-this,YJ (by omega),P9]
theorem Acd{z y i:Nat}(hz:z<2^i)(hb:2^i*y+z<18446744073709551616):B9 .or .u64 (z:Int) ((2^i*y:Nat):Int)=((2^i*y+z:Nat):Int):=by unfold B9;simp only;rw[BitVec.toNat_or,show IntKind.bits .u64=64 from rfl,LC (by omega),LC (by omega),Nat.or_comm,<-Nat.two_pow_add_eq_or_of_lt hz,JF hb]
theorem AdW{z:Nat}(h:z<18446744073709551616):B9 .xor .u64 (z:Int) 0=(z:Int):=by unfold B9;simp only;rw[BitVec.toNat_xor,show(0:Int)=((0:Nat):Int)from rfl,show IntKind.bits .u64=64 from rfl,LC (by omega),LC (by omega),Nat.xor_zero,JF h]
theorem AdX{z:Nat}(h:z<18446744073709551616):B9 .xor .u64 (z:Int) 18446744073709551615=((18446744073709551615-z:Nat):Int):=by unfold B9;simp only;rw[show IntKind.bits .u64=64 from rfl,show BitVec.ofInt 64 18446744073709551615=BitVec.allOnes 64 by decide,BitVec.xor_allOnes,BitVec.toNat_not,LC (by omega),JF (by omega)]
theorem Ace{z:Nat}(h:z<9223372036854775808):B9 .xor .i64 (z:Int) 0=(z:Int):=by unfold B9;simp only;rw[BitVec.toNat_xor,show(0:Int)=((0:Nat):Int)from rfl,show IntKind.bits .i64=64 from rfl,LC (by omega),LC (by omega),Nat.xor_zero,gY (by omega)]
theorem Acf{z:Nat}(h:z<9223372036854775808):B9 .xor .i64 (z:Int) (-1)= -(z:Int)-1:=by unfold B9;simp only;rw[show IntKind.bits .i64=64 from rfl,show BitVec.ofInt 64 (-1)=BitVec.allOnes 64 by decide,BitVec.xor_allOnes,BitVec.toNat_not,LC (by omega)];simp only[IntKind.wrap,IntKind.bits,IntKind.signed];simp;omega
def Kz(z:Nat):Int:=if z%2=0 then((z/2:Nat):Int)else-((z/2:Nat):Int)-1
def zg(n:Int):Nat:=if 0<=n then(2*n).toNat else(-2*n-1).toNat
theorem AaX(n:Int):Kz (zg n)=n:=by
 unfold Kz zg;by_cases h:0<=n
 ·rw[eX h,eX (by omega)];omega
 ·rw[eW h,eW (by omega)];omega
theorem AaY(z:Nat):zg (Kz z)=z:=by
 unfold Kz zg;by_cases h:z%2=0
 ·rw[eX h,eX (by omega)];omega
 ·rw[eW h,eW (by omega)];omega
def Wr(n:Int):Prop:= -4611686018427387903<=n/\n<=4611686018427387903
theorem qQ{n:Int}(h:Wr n):zg n<9223372036854775808:=by unfold Wr at h;unfold zg;split<;>omega
theorem Acg{n:Int}(h:Wr n):zz n=zg n:=by
 unfold Wr at h;unfold zz zg CQ;simp only;have e63:(2:Int)^min (63:Int).toNat (IntKind.bits .i64)=9223372036854775808:=by decide
 have e1:(2:Int)^min (1:Int).toNat (IntKind.bits .u64)=2:=by decide
 rw[e63,e1];by_cases hn:0<=n
 ·rw[eX hn,Int.fdiv_eq_ediv_of_nonneg _ (by decide),show n/9223372036854775808=((0:Nat):Int) by omega,JF (by omega)];obtain⟨m,rfl⟩:=Int.eq_ofNat_of_zero_le hn;rw[JF (by omega),show(m:Int)*2=((2*m:Nat):Int) by omega,JF (by omega)];rw[show((0:Nat):Int)=0 from rfl,AdW (by omega)];omega
 ·rw[eW hn,Int.fdiv_eq_ediv_of_nonneg _ (by decide),show n/9223372036854775808= -1 by omega];have w1:∀x:Int,IntKind.wrap .u64 x=x%18446744073709551616:=λx=>by
   have e:IntKind.wrap .u64 x=x%2^64:=by simp[IntKind.wrap,IntKind.bits,IntKind.signed]
   rw[e,show(2:Int)^64=18446744073709551616 by decide]
  obtain⟨m,hm⟩:∃m:Nat,2*n+18446744073709551616=m:=Int.eq_ofNat_of_zero_le (by omega);rw[w1 (-1),w1 n,w1,show n%18446744073709551616*2%18446744073709551616=(m:Int) by omega,show(-1:Int)%18446744073709551616=18446744073709551615 by decide,AdX (by omega)];omega
def KC:Nat->List UInt8->Option (Nat×Nat)|0,_=>none|_+1,[]=>none|k+1,b::l=>if 128<=b.toNat then(KC k l).bind λzm=>if zm.1=0 then none else some (b.toNat%128+128*zm.1,zm.2+1)else some (b.toNat,1)
def OT(f:Nat)(z:Nat):List UInt8:=OS ((E3 f (z:Int)).map WC)
theorem WU{f z:Nat}(h:z<128):OT (f+1) z=[UInt8.ofNat z]:=by unfold OT;rw[Ql (by omega)];simp only[eZ,w7,WC,if_true,Ky,OS];rw[gZ (by omega),YJ (by omega),tT h];rfl
theorem WV{f z:Nat}(h:¬z<128)(hz:z<18446744073709551616):OT (f+1) z=UInt8.ofNat (z%128+128)::OT f (z/128):=by unfold OT;rw[Qm (by omega),mV];simp only[eZ,WC,Ky,OS,yF,if_false];rw[gZ hz,YJ (by omega),Acc (by omega),show((z:Int)/128)=((z/128:Nat):Int)from rfl];rfl
theorem qR{n:Nat}(h:n<256):(UInt8.ofNat n).toNat=n:=by simp[UInt8.toNat_ofNat];omega
theorem qS:∀(k f z:Nat)(rest:List UInt8),z<128^k->k<=9->k<=f->0<k->KC k (OT f z++rest)=some (z,(OT f z).length)
 |0,f,z,rest,hz,_,_,h0=>by omega
 |k+1,0,z,rest,hz,_,hf,h0=>by omega
 |k+1,f+1,z,rest,hz,h9,hf,h0=>by
  have hb:(128:Nat)^(k+1)<=128^9:=Nat.pow_le_pow_right (by omega) h9;rw[show(128:Nat)^9=9223372036854775808 from rfl]at hb;by_cases h:z<128
  ·rw[WU h];simp only[s8,KC];rw[qR (by omega),eW (by omega)];rfl
  ·have hk:0<k:=by
    rcases Nat.eq_zero_or_pos k with rfl|h'
    ·simp at hz;omega
    ·exact h'
   have hz':z/128<128^k:=by rw[Nat.pow_succ]at hz;exact Nat.div_lt_of_lt_mul (by rw[Nat.mul_comm];exact hz)
   rw[WV h (by omega)];simp only[s8,KC];rw[qR (by omega),eX (by omega),qS k f (z/128) rest hz' (by omega) (by omega) hk,pA];simp only;rw[eW (by omega),pC];congr 2;omega
theorem qT:∀(k f:Nat)(l:List UInt8)(z m:Nat),KC k l=some (z,m)->k<=f->k<=9->z<128^k/\l.take m=OT f z/\m<=l.length/\0<m
 |0,f,l,z,m,h,_,_=>by simp[KC]at h
 |k+1,0,l,z,m,h,hf,_=>by omega
 |k+1,f+1,[],z,m,h,_,_=>by simp[KC]at h
 |k+1,f+1,b::l,z,m,h,hf,h9=>by
  have hb:=b.toNat_lt;have hB:(128:Nat)^(k+1)<=128^9:=Nat.pow_le_pow_right (by omega) h9;rw[show(128:Nat)^9=9223372036854775808 from rfl]at hB;have hp:0<128^k:=Nat.pow_pos (by omega);simp only[KC]at h;by_cases hc:128<=b.toNat
  ·rw[eX hc]at h;obtain⟨⟨z',m'⟩,h1,h2⟩:=yB.1 h;simp only at h2;by_cases h0:z'=0
   ·rw[eX h0]at h2;cases h2
   ·rw[eW h0]at h2;cases h2
    obtain⟨i1,i2,i3,i4⟩:=qT k f l z' m' h1 (by omega) (by omega);have hz:b.toNat%128+128*z'<128^(k+1):=by rw[Nat.pow_succ];omega
    refine⟨hz,?_,by simp;omega,by omega⟩;rw[WV (by omega) (by omega),QZ,i2];congr 1
    ·have:(b.toNat%128+128*z')%128+128=b.toNat:=by omega
     rw[this];simp
    ·rw[show(b.toNat%128+128*z')/128=z' by omega]
  ·rw[eW hc]at h;cases h
   refine⟨by rw[Nat.pow_succ];omega,?_,by simp,by omega⟩;rw[WU (by omega)];simp
def EF(l:List UInt8):Option (Int×Nat):=(KC 9 l).bind λzm=>if Kz zm.1< -4611686018427387903 then none else some (Kz zm.1,zm.2)
theorem Tm{n:Int}(h:Wr n):EV n=OT 10 (zg n):=by have h':=h;unfold Wr at h';unfold EV Ti OT;rw[Acg h,show(decide (n< -4611686018427387903)||decide (4611686018427387903<n))=false by simp;omega,tN]
theorem NK{n:Int}(h:Wr n)(rest:List UInt8):EF (EV n++rest)=some (n,(EV n).length):=by unfold EF;rw[Tm h,qS 9 10 _ rest (qQ h) (by omega) (by omega) (by omega),pA];simp only;rw[AaX,eW (by unfold Wr at h;omega)]
theorem Hf{l:List UInt8}{n:Int}{m:Nat}(h:EF l=some (n,m)):Wr n/\l.take m=EV n/\m<=l.length/\0<m:=by
 unfold EF at h;obtain⟨⟨z,m'⟩,h1,h2⟩:=yB.1 h;simp only at h2;split at h2
 ·cases h2
 ·rename_i hn;cases h2
  obtain⟨i1,i2,i3,i4⟩:=qT 9 10 l z m h1 (by omega) (by omega);rw[show(128:Nat)^9=9223372036854775808 from rfl]at i1;have hw:Wr (Kz z):=⟨by omega,by unfold Kz;split<;>omega⟩
  exact⟨hw,by rw[Tm hw,AaY];exact i2,i3,i4⟩
theorem nI{z:Nat}(h:z<9223372036854775808):B9 .xor .i64 (IntKind.wrap .i64 (CQ .shr .u64 (z:Int) 1)) (-(IntKind.wrap .i64 (B9 .and .u64 (z:Int) 1)))=Kz z:=by
 have e1:CQ .shr .u64 (z:Int) 1=((z/2:Nat):Int):=by unfold CQ;simp only;rw[show(2:Int)^min (1:Int).toNat (IntKind.bits .u64)=2 by decide,Int.fdiv_eq_ediv_of_nonneg _ (by decide)];rfl
 rw[AaW (by omega),e1,gY (by omega),gY (by omega)];unfold Kz;by_cases h2:z%2=0
 ·rw[eX h2,h2,show(-((0:Nat):Int))=0 from rfl,Ace (by omega)]
 ·rw[eW h2,show z%2=1 by omega,show(-((1:Nat):Int))= -1 from rfl,Acf (by omega)]
theorem AaZ{z b i:Nat}(hz:z<128^i)(hb:b<256)(hi:i<9):B9 .or .u64 (z:Int) (CQ .shl .u64 (IntKind.wrap .u64 (B9 .and .u8 (b:Int) 127)) (7*(i:Int)))=((128^i*(b%128)+z:Nat):Int)/\128^i*(b%128)+z<128^(i+1):=by
 have h2:(128:Nat)^i=2^(7*i):=by rw[Nat.pow_mul]
 have hB:(128:Nat)^(i+1)<=128^9:=Nat.pow_le_pow_right (by omega) hi;rw[show(128:Nat)^9=9223372036854775808 from rfl]at hB;have hlt:128^i*(b%128)+z<128^(i+1):=by rw[Nat.pow_succ];have:128^i*(b%128)<=128^i*127:=Nat.mul_le_mul_left _ (by omega);omega
 refine⟨?_,hlt⟩;rw[vL hb,JF (by omega)];have e:CQ .shl .u64 ((b%128:Nat):Int) (7*(i:Int))=((2^(7*i)*(b%128):Nat):Int):=by unfold CQ;simp only;rw[show(7*(i:Int)).toNat=7*i by omega,show min (7*i) (IntKind.bits .u64)=7*i from Nat.min_eq_left (by show 7*i<=64;omega)];rw[show((b%128:Nat):Int)*2^(7*i)=((2^(7*i)*(b%128):Nat):Int) by rw[Int.natCast_mul,Int.natCast_pow,X4];rfl,JF (by rw[<-h2];omega)]
 rw[e,Acd (by rw[<-h2];exact hz) (by rw[<-h2];omega),h2]
theorem WW(N:Nat)(s:List UInt8)(p:Nat)(hs:s.length<=1000000000)(hp:p<=s.length):∀(n i z:Nat),i<=9->9<n+i->z<128^i->Ho N p s n z i=some (match KC (9-i) (s.drop (p+i))with
  |some (y,m)=>if(0<i/\y=0)\/Kz (z+y*128^i)< -4611686018427387903 then .inl ()else .inr (Kz (z+y*128^i),((p+i+m:Nat):Int),0)
  |none=>.inl ())
 |0,i,z,hi,hn,hz=>by omega
 |n+1,i,z,hi,hn,hz=>by
  rw[Ho];by_cases h9:i=9
  ·subst h9;rw[show decide (((9:Nat):Int)<9)=false from by decide,cF];rfl
  have hi9:i<9:=by omega
  rw[show decide ((i:Int)<9)=true from dC (by omega),cT,Aa (by unfold Ab;omega)];obtain⟨k,hk⟩:∃k,9-i=k+1:=⟨8-i,by omega⟩
  by_cases hle:s.length<=p+i
  ·rw[dC (by omega),cT,List.drop_eq_nil_of_le hle,hk];rfl
  rw[dJ (by omega),cF,Aa (by unfold Ab;omega),Aa (by omega),Aa (by unfold Ab;omega),Aa (by omega)];have hpi:((p:Int)+(i:Int)).toNat=p+i:=by omega
  have hlt:p+i<s.length:=by omega
  have hdr:s.drop (p+i)=s.getD (p+i) 0::s.drop (p+i+1):=by rw[mL hlt];simp[eT,hlt]
  rw[hpi,hk,hdr];generalize hbb:s.getD (p+i) 0=b;have hb:b.toNat<256:=b.toNat_lt;obtain⟨e1,e2⟩:=AaZ hz hb hi9;rw[e1];have hB:(128:Nat)^(i+1)<=128^9:=Nat.pow_le_pow_right (by omega) hi9;rw[show(128:Nat)^9=9223372036854775808 from rfl]at hB;simp only[KC];by_cases hc:128<=b.toNat
  ·rw[dC (by omega),cT,Aa (by unfold Ab;omega),eX hc,show((i:Int)+1)=((i+1:Nat):Int)from rfl,WW N s p hs hp n (i+1) _ (by omega) (by omega) e2,show 9-(i+1)=k by omega,show p+(i+1)=p+i+1 by omega];cases hr:KC k (s.drop (p+i+1))with
   |none=>rfl
   |some zm=>
    obtain⟨y,m⟩:=zm;rw[pA];simp only;by_cases hy:y=0
    ·rw[eX (.inl ⟨by omega,hy⟩),eX hy]
    ·rw[eW hy];have e3:128^i*(b.toNat%128)+z+y*128^(i+1)=z+(b.toNat%128+128*y)*128^i:=by rw[Nat.pow_succ];grind
     rw[e3];simp only;by_cases hu:Kz (z+(b.toNat%128+128*y)*128^i)< -4611686018427387903
     ·rw[eX (.inr hu),eX (.inr hu)]
     ·rw[eW (by omega),eW (by omega),show p+i+1+m=p+i+(m+1) by omega]
  ·rw[dJ (by omega),cF,eW hc];have hm:b.toNat%128=b.toNat:=tT (by omega);rw[hm]at e2⊢;rw[nI (by omega),AaW (by omega),gY (by omega),Aa (by unfold Ab;omega),show 128^i*b.toNat+z=z+b.toNat*128^i by rw[Nat.mul_comm,P9]];simp only;by_cases hy:0<i/\b.toNat=0
   ·rw[AG _ (by simp;left;omega),eX (.inl hy)]
   by_cases hu:Kz (z+b.toNat*128^i)< -4611686018427387903
   ·rw[AG _ (by simp[hu]),eX (.inr hu)]
   ·rw[Az _ (by rw[Fj];exact⟨by rw[KV];by_cases h0:b.toNat=0;exact .inr (by simp;omega);exact .inl (by simp;omega),by simpa using hu⟩),Aa (by unfold Ab;omega),Aa (by unfold Ab;omega),eW (by omega)];rfl
theorem WX{N:Nat}(hN:10<=N){s:List UInt8}{p:Nat}(hs:s.length<=1000000000)(hp:p<=s.length):EP N s p=some (match EF (s.drop p)with|some (n,m)=>(n,((p+m:Nat):Int),0)|none=>(0,0,10)):=by
 unfold EP;have h:=WW N s p hs hp N 0 0 (by omega) (by omega) (by simp);rw[mK]at h;rw[Az _ (by simp;omega),h,pA,EF,TU,OQ];cases KC 9 (s.drop p)with
 |none=>rfl
 |some zm=>
  obtain⟨y,m⟩:=zm;simp only[Nat.pow_zero,Nat.mul_one,s6,pA];by_cases hu:Kz y< -4611686018427387903
  ·rw[eX (.inr hu),eX hu]
  ·rw[eW (by omega),eW hu]
def IU:Nat->List UInt8->Option (List Int×List UInt8)|0,l=>some ([],l)|k+1,l=>(EF l).bind λnm=>(IU k (l.drop nm.2)).bind λr=>some (nm.1::r.1,r.2)
theorem JW:∀(k:Nat)(l:List UInt8)(ns:List Int)(r:List UInt8),IU k l=some (ns,r)->l=Dc ns++r/\ns.length=k/\∀n∈ns,Wr n
 |0,l,ns,r,h=>by cases h;simp[Dc]
 |k+1,l,ns,r,h=>by
  simp only[IU]at h;obtain⟨⟨n,m⟩,h1,h⟩:=yB.1 h;obtain⟨⟨ms,r'⟩,h2,h⟩:=yB.1 h;simp only[yE,Wt]at h;obtain⟨rfl,rfl⟩:=h;obtain⟨a1,a2,a3,a4⟩:=Hf h1;obtain⟨b1,b2,b3⟩:=JW k _ ms r' h2;refine⟨?_,by simp[b2],λx hx=>?_⟩
  ·have:l=l.take m++l.drop m:=(KL m l).symm;simp only at b1;rw[this,a2,b1];simp[Dc]
  ·rcases lJ.1 hx with rfl|hx
   ·exact a1
   ·exact b3 x hx
end
def KD:List Int->List Pt|x::y::r=>(x,y)::KD r|_=>[]
def fl:List Pt->List Int|[]=>[]|p::l=>p.1::p.2::fl l
theorem WY:∀l:List Pt,(fl l).length=2*l.length
 |[]=>rfl
 |p::l=>by simp only[fl,pC,WY l];omega
theorem iC:∀(k:Nat)(xs:List Int),xs.length=2*k->fl (KD xs)=xs/\(KD xs).length=k
 |0,[],_=>⟨rfl,rfl⟩
 |0,_::_,h=>by simp at h
 |k+1,[],h=>by simp at h
 |k+1,[_],h=>by simp at h;omega
 |k+1,x::y::r,h=>by obtain⟨h1,h2⟩:=iC k r (by simp at h;omega);simp only[KD,fl,h1,pC,h2];exact⟨trivial,trivial⟩
theorem SL:∀l:List Pt,NI l=Dc (fl l)
 |[]=>rfl
 |p::l=>by have:=SL l;simp only[NI,Dc,fl,eZ,CV,w7,List.flatten_nil,qF,qV]at this⊢;rw[this]
open Classical in
noncomputable def KY(s:List UInt8):Option (Int×Int×Int×List Pt×Int×Int):=(IU 6 s).bind λhr=>match hr.1 with|[a,b,c,f,g,n]=>if 3<=n/\n<=8 then(IU (2*n.toNat) hr.2).bind λxr=>if xr.2=[]/\UP a b c (KD xr.1) f g then some (a,b,c,KD xr.1,f,g)else none else none|_=>none
theorem M6{N:Nat}(hN:10<=N){s:List UInt8}{p:Nat}(hs:s.length<=1000000000)(hp:p<=s.length):dN N s p=some ((EF (s.drop p)).map λnm=>(nm.1,((p+nm.2:Nat):Int))):=by
 unfold dN;rw[WX hN hs hp];cases EF (s.drop p)with
 |none=>rfl
 |some nm=>rfl
theorem F8{s:List UInt8}{p:Nat}{n:Int}{m:Nat}(hp:p<=s.length)(h:EF (s.drop p)=some (n,m)):p+m<=s.length:=by have:=(Hf h).2.2.1;rw[s9]at this;omega
theorem qU{N:Nat}(hN:10<=N){s:List UInt8}(hs:s.length<=1000000000):∀(k p:Nat)(l:List Pt),p<=s.length->dP N s k p l=some ((IU (2*k) (s.drop p)).map λxr=>(l++KD xr.1,((s.length-xr.2.length:Nat):Int)))
 |0,p,l,hp=>by simp only[dP,Nat.mul_zero,IU,t8,KD,qF,s9];rw[show s.length-(s.length-p)=p by omega]
 |k+1,p,l,hp=>by
  simp only[dP];rw[M6 hN hs hp,show 2*(k+1)=2*k+1+1 by omega];simp only[IU];cases h1:EF (s.drop p)with
  |none=>rfl
  |some nm=>
   obtain⟨n,m⟩:=nm;have hp1:=F8 hp h1;simp only[t8,pb,pA,zV];rw[M6 hN hs hp1];cases h2:EF (s.drop (p+m))with
   |none=>rfl
   |some nm2=>
    obtain⟨n2,m2⟩:=nm2;have hp2:=F8 hp1 h2;simp only[t8,pb,pA,zV];rw[qU hN hs k (p+m+m2) _ hp2];cases IU (2*k) (s.drop (p+m+m2))with
    |none=>rfl
    |some xr=>simp[KD]
theorem vM{N:Nat}(hN:100<=N){s:List UInt8}(hs:s.length<=1000000000):WG N s=some (KY s):=by
 unfold WG KY;have h10:10<=N:=by omega
 have e0:=M6 h10 hs (t7 s.length);rw[mK,uP]at e0;rw[e0,show(6:Nat)=0+1+1+1+1+1+1 from rfl];simp only[IU];cases h1:EF s with
 |none=>rfl
 |some nm1=>
 obtain⟨a,m1⟩:=nm1;have p1:=F8 (t7 s.length) (by rw[uP];exact h1);simp only[t8,pb,pA,zV];rw[s6]at p1⊢;rw[M6 h10 hs p1];cases h2:EF (s.drop m1)with
 |none=>rfl
 |some nm2=>
 obtain⟨b,m2⟩:=nm2;have p2:=F8 p1 h2;simp only[t8,pb,pA,zV];rw[M6 h10 hs p2];cases h3:EF (s.drop (m1+m2))with
 |none=>rfl
 |some nm3=>
 obtain⟨c,m3⟩:=nm3;have p3:=F8 p2 h3;simp only[t8,pb,pA,zV];rw[M6 h10 hs p3];cases h4:EF (s.drop (m1+m2+m3))with
 |none=>rfl
 |some nm4=>
 obtain⟨f,m4⟩:=nm4;have p4:=F8 p3 h4;simp only[t8,pb,pA,zV];rw[M6 h10 hs p4];cases h5:EF (s.drop (m1+m2+m3+m4))with
 |none=>rfl
 |some nm5=>
 obtain⟨g,m5⟩:=nm5;have p5:=F8 p4 h5;simp only[t8,pb,pA,zV];rw[M6 h10 hs p5];cases h6:EF (s.drop (m1+m2+m3+m4+m5))with
 |none=>rfl
 |some nm6=>
 obtain⟨n,m6⟩:=nm6;have p6:=F8 p5 h6;simp only[t8,pb,pA,zV];by_cases hn:3<=n/\n<=8
 ·rw[eX hn,AG _ (by simp[hn]),qU h10 hs _ _ _ p6];cases h7:IU (2*n.toNat) (s.drop (m1+m2+m3+m4+m5+m6))with
  |none=>rfl
  |some xr=>
   obtain⟨xs,r⟩:=xr;obtain⟨b1,_,_⟩:=JW _ _ _ _ h7;have hl:r.length<=s.length:=by have:=congrArg List.length b1;rw[s9,fF]at this;omega
   simp only[t8,pb,pA,nJ];by_cases hr:r=[]
   ·subst hr;rw[Az _ (by simp),HK hN,pA];by_cases hu:UP a b c (KD xs) f g
    ·rw[eX ⟨rfl,hu⟩,(HL.2 hu)];rfl
    ·rw[eW λh=>hu h.2,show(Gw a b c f g&&vB (KD xs))=false by rw[w6];exact λh=>hu (HL.1 h)];rfl
   ·have:0<r.length:=List.length_pos_iff.2 hr;rw[AG _ (by simp;omega),eW λh=>hr h.1]
 ·rw[eW hn,Az _ (by rw[KV];simp;omega)]
theorem iD{s:List UInt8}{a b c:Int}{l:List Pt}{p q:Int}(h:KY s=some (a,b,c,l,p,q)):UP a b c l p q/\s=IQ a b c l p q:=by
 unfold KY at h;obtain⟨⟨hs,r⟩,h1,h⟩:=yB.1 h;simp only at h;split at h
 ·rename_i a' b' c' f' g' n;split at h
  ·rename_i hn;obtain⟨⟨xs,r'⟩,h2,h⟩:=yB.1 h;simp only at h;split at h
   ·rename_i hu;obtain⟨rfl,hu⟩:=hu;simp only[yE,Wt]at h;obtain⟨rfl,rfl,rfl,rfl,rfl,rfl⟩:=h;obtain⟨b1,b2,_⟩:=JW _ _ _ _ h1;obtain⟨c1,c2,_⟩:=JW _ _ _ _ h2;obtain⟨d1,d2⟩:=iC _ _ c2;refine⟨hu,?_⟩;unfold IQ SA;rw[SL,d1,d2,b1,c1,qF,show((n.toNat:Nat):Int)=n by omega]
   ·cases h
  ·cases h
 ·cases h
