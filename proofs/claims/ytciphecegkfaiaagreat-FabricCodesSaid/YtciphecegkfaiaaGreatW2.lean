import Derived.Test.YtciphecegkfaiaaGreatP9
import Derived.Test.YtciphecegkfaiaaGreatM7
import Derived.Test.YtciphecegkfaiaaGreatW4
namespace Go.Proofs.YtciphecegkfaiaaGreat.Am
set_option linter.unusedSimpArgs false
set_option linter.unusedVariables false
open Go
theorem wrN {n:Nat} (h:n<18446744073709551616):IntKind.wrap .u64 (n:Int)=n:=by
 have e:IntKind.wrap .u64 (n:Int)=(n:Int)%2^64:=by simp[IntKind.wrap,IntKind.bits,IntKind.signed]
 rw[e,show(2:Int)^64=18446744073709551616 by decide]
 omega
theorem wr8 {n:Nat} (h:n<256):IntKind.wrap .u8 (n:Int)=n:=by
 have e:IntKind.wrap .u8 (n:Int)=(n:Int)%2^8:=by simp[IntKind.wrap,IntKind.bits,IntKind.signed]
 rw[e,show(2:Int)^8=256 by decide]
 omega
theorem wrI {n:Int} (h: -9223372036854775808≤n∧n≤9223372036854775807):IntKind.wrap .i64 n=n:=Hv (k:= .i64) h
theorem ofN {w x:Nat} (h:x<2^w):(BitVec.ofInt w (x:Int)).toNat=x:=by
 rw[BitVec.toNat_ofInt]
 have:((x:Int)%((2^w:Nat):Int))=x:=Int.emod_eq_of_lt (by omega) (by omega)
 rw[this];rfl
theorem W6 {z:Nat} (h:z<18446744073709551616):BW .and .u64 (z:Int) 127=((z%128:Nat):Int):=by
 unfold BW
 simp only
 rw[BitVec.toNat_and,show(127:Int)=((127:Nat):Int) from rfl,show IntKind.bits .u64=64 from rfl,ofN (by omega),ofN (by omega),show 127=2^7-1 from rfl,Nat.and_two_pow_sub_one_eq_mod,wrN (by omega)]
theorem dA {z:Nat} (h:z<256):BW .and .u8 (z:Int) 127=((z%128:Nat):Int):=by
 unfold BW
 simp only
 rw[BitVec.toNat_and,show(127:Int)=((127:Nat):Int) from rfl,show IntKind.bits .u8=8 from rfl,ofN (by omega),ofN (by omega),show 127=2^7-1 from rfl,Nat.and_two_pow_sub_one_eq_mod,wr8 (by omega)]
theorem kE {z:Nat} (h:z<18446744073709551616):BW .and .u64 (z:Int) 1=((z%2:Nat):Int):=by
 unfold BW
 simp only
 rw[BitVec.toNat_and,show(1:Int)=((1:Nat):Int) from rfl,show IntKind.bits .u64=64 from rfl,ofN (by omega),ofN (by omega),show 1=2^1-1 from rfl,Nat.and_two_pow_sub_one_eq_mod,wrN (by omega)]
theorem nE {z:Nat} (h:z<128):BW .or .u8 (z:Int) 128=((z+128:Nat):Int):=by
 unfold BW
 simp only
 rw[BitVec.toNat_or,show(128:Int)=((128:Nat):Int) from rfl,show IntKind.bits .u8=8 from rfl,ofN (by omega),ofN (by omega)]
 have:=Nat.two_pow_add_eq_or_of_lt (i:=7) (b:=z) (by omega) 1
 rw[show 2^7*1=128 from rfl] at this
 rw[Nat.or_comm,←this,wr8 (by omega),Nat.add_comm]
theorem nG {z y i:Nat} (hz:z<2^i) (hb:2^i*y+z<18446744073709551616):BW .or .u64 (z:Int) ((2^i*y:Nat):Int)=((2^i*y+z:Nat):Int):=by
 unfold BW
 simp only
 rw[BitVec.toNat_or,show IntKind.bits .u64=64 from rfl,ofN (by omega),ofN (by omega),Nat.or_comm,←Nat.two_pow_add_eq_or_of_lt hz,wrN hb]
theorem rC {z:Nat} (h:z<18446744073709551616):BW .xor .u64 (z:Int) 0=(z:Int):=by
 unfold BW
 simp only
 rw[BitVec.toNat_xor,show(0:Int)=((0:Nat):Int) from rfl,show IntKind.bits .u64=64 from rfl,ofN (by omega),ofN (by omega),Nat.xor_zero,wrN h]
theorem rD {z:Nat} (h:z<18446744073709551616):BW .xor .u64 (z:Int) 18446744073709551615=((18446744073709551615-z:Nat):Int):=by
 unfold BW
 simp only
 rw[show IntKind.bits .u64=64 from rfl,show BitVec.ofInt 64 18446744073709551615=BitVec.allOnes 64 by decide,BitVec.xor_allOnes,BitVec.toNat_not,ofN (by omega),wrN (by omega)]
theorem nH {z:Nat} (h:z<9223372036854775808):BW .xor .i64 (z:Int) 0=(z:Int):=by
 unfold BW
 simp only
 rw[BitVec.toNat_xor,show(0:Int)=((0:Nat):Int) from rfl,show IntKind.bits .i64=64 from rfl,ofN (by omega),ofN (by omega),Nat.xor_zero,wrI (by omega)]
theorem nI {z:Nat} (h:z<9223372036854775808):BW .xor .i64 (z:Int) (-1)= -(z:Int)-1:=by
 unfold BW
 simp only
 rw[show IntKind.bits .i64=64 from rfl,show BitVec.ofInt 64 (-1)=BitVec.allOnes 64 by decide,BitVec.xor_allOnes,BitVec.toNat_not,ofN (by omega)]
 simp only[IntKind.wrap,IntKind.bits,IntKind.signed]
 simp
 omega
def unz (z:Nat):Int:=if z%2=0 then((z/2:Nat):Int) else-((z/2:Nat):Int)-1
def zg (n:Int):Nat:=if 0≤n then(2*n).toNat else(-2*n-1).toNat
theorem kF (n:Int):unz (zg n)=n:=by
 unfold unz zg
 by_cases h:0≤n
 ·rw[if_pos h,if_pos (by omega)];omega
 ·rw[if_neg h,if_neg (by omega)];omega
theorem kG (z:Nat):zg (unz z)=z:=by
 unfold unz zg
 by_cases h:z%2=0
 ·rw[if_pos h,if_pos (by omega)];omega
 ·rw[if_neg h,if_neg (by omega)];omega
def Wr (n:Int):Prop:= -4611686018427387903≤n∧n≤4611686018427387903
theorem Zv {n:Int} (h:Wr n):zg n<9223372036854775808:=by
 unfold Wr at h
 unfold zg
 split<;>omega
theorem nJ {n:Int} (h:Wr n):zz n=zg n:=by
 unfold Wr at h
 unfold zz zg Cp
 simp only
 have e63:(2:Int)^min (63:Int).toNat (IntKind.bits .i64)=9223372036854775808:=by decide
 have e1:(2:Int)^min (1:Int).toNat (IntKind.bits .u64)=2:=by decide
 rw[e63,e1]
 by_cases hn:0≤n
 ·rw[if_pos hn,Int.fdiv_eq_ediv_of_nonneg _ (by decide),show n/9223372036854775808=((0:Nat):Int) by omega,wrN (by omega)]
  obtain⟨m,rfl⟩:=Int.eq_ofNat_of_zero_le hn
  rw[wrN (by omega),show(m:Int)*2=((2*m:Nat):Int) by omega,wrN (by omega)]
  rw[show((0:Nat):Int)=0 from rfl,rC (by omega)]
  omega
 ·rw[if_neg hn,Int.fdiv_eq_ediv_of_nonneg _ (by decide),show n/9223372036854775808= -1 by omega]
  have w1:∀x:Int,IntKind.wrap .u64 x=x%18446744073709551616:=fun x=>by
   have e:IntKind.wrap .u64 x=x%2^64:=by simp[IntKind.wrap,IntKind.bits,IntKind.signed]
   rw[e,show(2:Int)^64=18446744073709551616 by decide]
  obtain⟨m,hm⟩:∃m:Nat,2*n+18446744073709551616=m:=Int.eq_ofNat_of_zero_le (by omega)
  rw[w1 (-1),w1 n,w1,show n%18446744073709551616*2%18446744073709551616=(m:Int) by omega,show(-1:Int)%18446744073709551616=18446744073709551615 by decide,rD (by omega)]
  omega
def rdB:Nat→List UInt8→Option (Nat×Nat)
 |0,_=>none
 |_+1,[]=>none
 |k+1,b::l=>if 128≤b.toNat then(rdB k l).bind fun zm=>if zm.1=0 then none else some (b.toNat%128+128*zm.1,zm.2+1) else some (b.toNat,1)
def vbL (f:Nat) (z:Nat):List UInt8:=toB ((D8 f (z:Int)).map grO)
theorem SD {f z:Nat} (h:z<128):vbL (f+1) z=[UInt8.ofNat z]:=by
 unfold vbL
 rw[Ni (by omega)]
 simp only[List.map_cons,List.map_nil,grO,if_true,I0,toB]
 rw[W6 (by omega),wr8 (by omega),Nat.mod_eq_of_lt h]
 rfl
theorem SE {f z:Nat} (h:¬z<128) (hz:z<18446744073709551616):vbL (f+1) z=UInt8.ofNat (z%128+128)::vbL f (z/128):=by
 unfold vbL
 rw[Nj (by omega),YI]
 simp only[List.map_cons,grO,I0,toB,yF,if_false]
 rw[W6 hz,wr8 (by omega),nE (by omega),show((z:Int)/128)=((z/128:Nat):Int) from rfl]
 rfl
theorem Zw {n:Nat} (h:n<256):(UInt8.ofNat n).toNat=n:=by simp[UInt8.toNat_ofNat];omega
theorem Zx:∀(k f z:Nat) (rest:List UInt8),z<128^k→k≤9→k≤f→0<k→rdB k (vbL f z++rest)=some (z,(vbL f z).length)
 |0,f,z,rest,hz,_,_,h0=>by omega
 |k+1,0,z,rest,hz,_,hf,h0=>by omega
 |k+1,f+1,z,rest,hz,h9,hf,h0=>by
  have hb:(128:Nat)^(k+1)≤128^9:=Nat.pow_le_pow_right (by omega) h9
  rw[show(128:Nat)^9=9223372036854775808 from rfl] at hb
  by_cases h:z<128
  ·rw[SD h]
   simp only[List.cons_append,rdB]
   rw[Zw (by omega),if_neg (by omega)]
   rfl
  ·have hk:0<k:=by
    rcases Nat.eq_zero_or_pos k with rfl|h'
    ·simp at hz;omega
    ·exact h'
   have hz':z/128<128^k:=by
    rw[Nat.pow_succ] at hz
    exact Nat.div_lt_of_lt_mul (by rw[Nat.mul_comm];exact hz)
   rw[SE h (by omega)]
   simp only[List.cons_append,rdB]
   rw[Zw (by omega),if_pos (by omega),Zx k f (z/128) rest hz' (by omega) (by omega) hk,Option.bind_some]
   simp only
   rw[if_neg (by omega),List.length_cons]
   congr 2
   omega
theorem Zy:∀(k f:Nat) (l:List UInt8) (z m:Nat),rdB k l=some (z,m)→k≤f→k≤9→z<128^k∧l.take m=vbL f z∧m≤l.length∧0<m
 |0,f,l,z,m,h,_,_=>by simp[rdB] at h
 |k+1,0,l,z,m,h,hf,_=>by omega
 |k+1,f+1,[],z,m,h,_,_=>by simp[rdB] at h
 |k+1,f+1,b::l,z,m,h,hf,h9=>by
  have hb:=b.toNat_lt
  have hB:(128:Nat)^(k+1)≤128^9:=Nat.pow_le_pow_right (by omega) h9
  rw[show(128:Nat)^9=9223372036854775808 from rfl] at hB
  have hp:0<128^k:=Nat.pow_pos (by omega)
  simp only[rdB] at h
  by_cases hc:128≤b.toNat
  ·rw[if_pos hc] at h
   obtain⟨⟨z',m'⟩,h1,h2⟩:=yB.1 h
   simp only at h2
   by_cases h0:z'=0
   ·rw[if_pos h0] at h2;cases h2
   ·rw[if_neg h0] at h2
    cases h2
    obtain⟨i1,i2,i3,i4⟩:=Zy k f l z' m' h1 (by omega) (by omega)
    have hz:b.toNat%128+128*z'<128^(k+1):=by rw[Nat.pow_succ];omega
    refine⟨hz, ?_,by simp;omega,by omega⟩
    rw[SE (by omega) (by omega),List.take_succ_cons,i2]
    congr 1
    ·have:(b.toNat%128+128*z')%128+128=b.toNat:=by omega
     rw[this];simp
    ·rw[show(b.toNat%128+128*z')/128=z' by omega]
  ·rw[if_neg hc] at h
   cases h
   refine⟨by rw[Nat.pow_succ];omega, ?_,by simp,by omega⟩
   rw[SD (by omega)]
   simp
def rdI (l:List UInt8):Option (Int×Nat):=(rdB 9 l).bind fun zm=>if unz zm.1< -4611686018427387903 then none else some (unz zm.1,zm.2)
theorem PX {n:Int} (h:Wr n):EZ n=vbL 10 (zg n):=by
 have h':=h
 unfold Wr at h'
 unfold EZ PT vbL
 rw[nJ h,show(decide (n< -4611686018427387903)||decide (4611686018427387903<n))=false by simp;omega,cond_false]
theorem TQ {n:Int} (h:Wr n) (rest:List UInt8):rdI (EZ n++rest)=some (n,(EZ n).length):=by
 unfold rdI
 rw[PX h,Zx 9 10 _ rest (Zv h) (by omega) (by omega) (by omega),Option.bind_some]
 simp only
 rw[kF,if_neg (by unfold Wr at h;omega)]
theorem L6 {l:List UInt8} {n:Int} {m:Nat} (h:rdI l=some (n,m)):Wr n∧l.take m=EZ n∧m≤l.length∧0<m:=by
 unfold rdI at h
 obtain⟨⟨z,m'⟩,h1,h2⟩:=yB.1 h
 simp only at h2
 split at h2
 ·cases h2
 ·rename_i hn
  cases h2
  obtain⟨i1,i2,i3,i4⟩:=Zy 9 10 l z m h1 (by omega) (by omega)
  rw[show(128:Nat)^9=9223372036854775808 from rfl] at i1
  have hw:Wr (unz z):=⟨by omega,by unfold unz;split<;>omega⟩
  exact⟨hw,by rw[PX hw,kG];exact i2,i3,i4⟩
theorem YT {z:Nat} (h:z<9223372036854775808):BW .xor .i64 (IntKind.wrap .i64 (Cp .shr .u64 (z:Int) 1)) (-(IntKind.wrap .i64 (BW .and .u64 (z:Int) 1)))=unz z:=by
 have e1:Cp .shr .u64 (z:Int) 1=((z/2:Nat):Int):=by
  unfold Cp
  simp only
  rw[show(2:Int)^min (1:Int).toNat (IntKind.bits .u64)=2 by decide,Int.fdiv_eq_ediv_of_nonneg _ (by decide)]
  rfl
 rw[kE (by omega),e1,wrI (by omega),wrI (by omega)]
 unfold unz
 by_cases h2:z%2=0
 ·rw[if_pos h2,h2,show(-((0:Nat):Int))=0 from rfl,nH (by omega)]
 ·rw[if_neg h2,show z%2=1 by omega,show(-((1:Nat):Int))= -1 from rfl,nI (by omega)]
theorem kH {z b i:Nat} (hz:z<128^i) (hb:b<256) (hi:i<9):BW .or .u64 (z:Int) (Cp .shl .u64 (IntKind.wrap .u64 (BW .and .u8 (b:Int) 127)) (7*(i:Int)))=((128^i*(b%128)+z:Nat):Int)∧128^i*(b%128)+z<128^(i+1):=by
 have h2:(128:Nat)^i=2^(7*i):=by rw[Nat.pow_mul]
 have hB:(128:Nat)^(i+1)≤128^9:=Nat.pow_le_pow_right (by omega) hi
 rw[show(128:Nat)^9=9223372036854775808 from rfl] at hB
 have hlt:128^i*(b%128)+z<128^(i+1):=by
  rw[Nat.pow_succ]
  have:128^i*(b%128)≤128^i*127:=Nat.mul_le_mul_left _ (by omega)
  omega
 refine⟨?_,hlt⟩
 rw[dA hb,wrN (by omega)]
 have e:Cp .shl .u64 ((b%128:Nat):Int) (7*(i:Int))=((2^(7*i)*(b%128):Nat):Int):=by
  unfold Cp
  simp only
  rw[show(7*(i:Int)).toNat=7*i by omega,show min (7*i) (IntKind.bits .u64)=7*i from Nat.min_eq_left (by show 7*i≤64;omega)]
  rw[show((b%128:Nat):Int)*2^(7*i)=((2^(7*i)*(b%128):Nat):Int) by rw[Int.natCast_mul,Int.natCast_pow,Int.mul_comm];rfl,wrN (by rw[←h2];omega)]
 rw[e,nG (by rw[←h2];exact hz) (by rw[←h2];omega),h2]
theorem SF (N:Nat) (s:List UInt8) (p:Nat) (hs:s.length≤1000000000) (hp:p≤s.length):∀(n i z:Nat),i≤9→9<n+i→z<128^i→F2 N p s n z i=some (match rdB (9-i) (s.drop (p+i)) with
  |some (y,m)=>if(0<i∧y=0)∨unz (z+y*128^i)< -4611686018427387903 then .inl () else .inr (unz (z+y*128^i),((p+i+m:Nat):Int),0)
  |none=> .inl ())
 |0,i,z,hi,hn,hz=>by omega
 |n+1,i,z,hi,hn,hz=>by
  rw[F2]
  by_cases h9:i=9
  ·subst h9
   rw[show decide (((9:Nat):Int)<9)=false from by decide,cF]
   rfl
  have hi9:i<9:=by omega
  rw[show decide ((i:Int)<9)=true from decide_eq_true (by omega),cT,Ab (by unfold I64;omega)]
  obtain⟨k,hk⟩:∃k,9-i=k+1:=⟨8-i,by omega⟩
  by_cases hle:s.length≤p+i
  ·rw[decide_eq_true (by omega),cT,List.drop_eq_nil_of_le hle,hk]
   rfl
  rw[decide_eq_false (by omega),cF,Ab (by unfold I64;omega),Ab (by omega),Ab (by unfold I64;omega),Ab (by omega)]
  have hpi:((p:Int)+(i:Int)).toNat=p+i:=by omega
  have hlt:p+i<s.length:=by omega
  have hdr:s.drop (p+i)=s.getD (p+i) 0::s.drop (p+i+1):=by
   rw[List.drop_eq_getElem_cons hlt]
   simp[List.getD_eq_getElem?_getD,hlt]
  rw[hpi,hk,hdr]
  generalize hbb:s.getD (p+i) 0=b
  have hb:b.toNat<256:=b.toNat_lt
  obtain⟨e1,e2⟩:=kH hz hb hi9
  rw[e1]
  have hB:(128:Nat)^(i+1)≤128^9:=Nat.pow_le_pow_right (by omega) hi9
  rw[show(128:Nat)^9=9223372036854775808 from rfl] at hB
  simp only[rdB]
  by_cases hc:128≤b.toNat
  ·rw[decide_eq_true (by omega),cT,Ab (by unfold I64;omega),if_pos hc,show((i:Int)+1)=((i+1:Nat):Int) from rfl,SF N s p hs hp n (i+1) _ (by omega) (by omega) e2,show 9-(i+1)=k by omega,show p+(i+1)=p+i+1 by omega]
   cases hr:rdB k (s.drop (p+i+1)) with
   |none=>rfl
   |some zm=>
    obtain⟨y,m⟩:=zm
    rw[Option.bind_some]
    simp only
    by_cases hy:y=0
    ·rw[if_pos (.inl ⟨by omega,hy⟩),if_pos hy]
    ·rw[if_neg hy]
     have e3:128^i*(b.toNat%128)+z+y*128^(i+1)=z+(b.toNat%128+128*y)*128^i:=by rw[Nat.pow_succ];grind
     rw[e3]
     simp only
     by_cases hu:unz (z+(b.toNat%128+128*y)*128^i)< -4611686018427387903
     ·rw[if_pos (.inr hu),if_pos (.inr hu)]
     ·rw[if_neg (by omega),if_neg (by omega),show p+i+1+m=p+i+(m+1) by omega]
  ·rw[decide_eq_false (by omega),cF,if_neg hc]
   have hm:b.toNat%128=b.toNat:=Nat.mod_eq_of_lt (by omega)
   rw[hm] at e2⊢
   rw[YT (by omega),kE (by omega),wrI (by omega),Ab (by unfold I64;omega),show 128^i*b.toNat+z=z+b.toNat*128^i by rw[Nat.mul_comm,Nat.add_comm]]
   simp only
   by_cases hy:0<i∧b.toNat=0
   ·rw[cT' _ (by simp;left;omega),if_pos (.inl hy)]
   by_cases hu:unz (z+b.toNat*128^i)< -4611686018427387903
   ·rw[cT' _ (by simp[hu]),if_pos (.inr hu)]
   ·rw[cF' _ (by rw[Bool.or_eq_false_iff];exact⟨by rw[Bool.and_eq_false_iff];by_cases h0:b.toNat=0;exact .inr (by simp;omega);exact .inl (by simp;omega),by simpa using hu⟩),Ab (by unfold I64;omega),Ab (by unfold I64;omega),if_neg (by omega)]
    rfl
theorem kJ {N:Nat} (hN:10≤N) {s:List UInt8} {p:Nat} (hs:s.length≤1000000000) (hp:p≤s.length):DT N s p=some (match rdI (s.drop p) with|some (n,m)=>(n,((p+m:Nat):Int),0)|none=>(0,0,10)):=by
 unfold DT
 have h:=SF N s p hs hp N 0 0 (by omega) (by omega) (by simp)
 rw[Int.natCast_zero] at h
 rw[cF' _ (by simp;omega),h,Option.bind_some,rdI,Nat.sub_zero,Nat.add_zero]
 cases rdB 9 (s.drop p) with
 |none=>rfl
 |some zm=>
  obtain⟨y,m⟩:=zm
  simp only[Nat.pow_zero,Nat.mul_one,Nat.zero_add,Option.bind_some]
  by_cases hu:unz y< -4611686018427387903
  ·rw[if_pos (.inr hu),if_pos hu]
  ·rw[if_neg (by omega),if_neg hu]
def rdN:Nat→List UInt8→Option (List Int×List UInt8)
 |0,l=>some ([],l)
 |k+1,l=>(rdI l).bind fun nm=>(rdN k (l.drop nm.2)).bind fun r=>some (nm.1::r.1,r.2)
theorem PY:∀(ns:List Int) (rest:List UInt8),(∀n∈ns,Wr n)→rdN ns.length (CC ns++rest)=some (ns,rest)
 |[],rest,_=>rfl
 |n::ns,rest,h=>by
  have e:CC (n::ns)++rest=EZ n++(CC ns++rest):=by simp[CC]
  simp only[List.length_cons,rdN]
  rw[e,TQ (h n (by simp)),Option.bind_some]
  simp only[List.drop_left]
  rw[PY ns rest fun m hm=>h m (by simp[hm]),Option.bind_some]
theorem Iq:∀(k:Nat) (l:List UInt8) (ns:List Int) (r:List UInt8),rdN k l=some (ns,r)→l=CC ns++r∧ns.length=k∧∀n∈ns,Wr n
 |0,l,ns,r,h=>by cases h;simp[CC]
 |k+1,l,ns,r,h=>by
  simp only[rdN] at h
  obtain⟨⟨n,m⟩,h1,h⟩:=yB.1 h
  obtain⟨⟨ms,r'⟩,h2,h⟩:=yB.1 h
  simp only[yE,Prod.mk.injEq] at h
  obtain⟨rfl,rfl⟩:=h
  obtain⟨a1,a2,a3,a4⟩:=L6 h1
  obtain⟨b1,b2,b3⟩:=Iq k _ ms r' h2
  refine⟨?_,by simp[b2],fun x hx=> ?_⟩
  ·have:l=l.take m++l.drop m:=(List.take_append_drop m l).symm
   simp only at b1
   rw[this,a2,b1]
   simp[CC]
  ·rcases List.mem_cons.1 hx with rfl|hx
   ·exact a1
   ·exact b3 x hx
end Go.Proofs.YtciphecegkfaiaaGreat.Am
namespace Go.Proofs.YtciphecegkfaiaaGreat.Am
set_option linter.unusedSimpArgs false
set_option linter.unusedVariables false
def prs:List Int→List Pt
 |x::y::r=>(x,y)::prs r
 |_=>[]
def fl:List Pt→List Int
 |[]=>[]
 |p::l=>p.1::p.2::fl l
theorem Po:∀l:List Pt,prs (fl l)=l
 |[]=>rfl
 |p::l=>by simp only[fl,prs,Po l]
theorem SG:∀l:List Pt,(fl l).length=2*l.length
 |[]=>rfl
 |p::l=>by simp only[fl,List.length_cons,SG l];omega
theorem W7:∀(k:Nat) (xs:List Int),xs.length=2*k→fl (prs xs)=xs∧(prs xs).length=k
 |0,[],_=>⟨rfl,rfl⟩
 |0,_::_,h=>by simp at h
 |k+1,[],h=>by simp at h
 |k+1,[_],h=>by simp at h;omega
 |k+1,x::y::r,h=>by
  obtain⟨h1,h2⟩:=W7 k r (by simp at h;omega)
  simp only[prs,fl,h1,List.length_cons,h2]
  exact⟨trivial,trivial⟩
theorem Pp:∀l:List Pt,ptS l=CC (fl l)
 |[]=>rfl
 |p::l=>by
  have:=Pp l
  simp only[ptS,CC,fl,List.map_cons,List.flatten_cons,List.map_nil,List.flatten_nil,List.append_nil,List.append_assoc] at this⊢
  rw[this]
open Classical in
noncomputable def L7 (s:List UInt8):Option (Int×Int×Int×List Pt×Int×Int):=(rdN 6 s).bind fun hr=>match hr.1 with
 |[a,b,c,f,g,n]=>if 3≤n∧n≤8 then(rdN (2*n.toNat) hr.2).bind fun xr=>if xr.2=[]∧UP a b c (prs xr.1) f g then some (a,b,c,prs xr.1,f,g) else none else none
 |_=>none
theorem KN {N:Nat} (hN:10≤N) {s:List UInt8} {p:Nat} (hs:s.length≤1000000000) (hp:p≤s.length):dN N s p=some ((rdI (s.drop p)).map fun nm=>(nm.1,((p+nm.2:Nat):Int))):=by
 unfold dN
 rw[kJ hN hs hp]
 cases rdI (s.drop p) with
 |none=>rfl
 |some nm=>rfl
theorem E0 {s:List UInt8} {p:Nat} {n:Int} {m:Nat} (hp:p≤s.length) (h:rdI (s.drop p)=some (n,m)):p+m≤s.length:=by
 have:=(L6 h).2.2.1
 rw[List.length_drop] at this
 omega
theorem Zz {N:Nat} (hN:10≤N) {s:List UInt8} (hs:s.length≤1000000000):∀(k p:Nat) (l:List Pt),p≤s.length→dP N s k p l=some ((rdN (2*k) (s.drop p)).map fun xr=>(l++prs xr.1,((s.length-xr.2.length:Nat):Int)))
 |0,p,l,hp=>by
  simp only[dP,Nat.mul_zero,rdN,Option.map_some,prs,List.append_nil,List.length_drop]
  rw[show s.length-(s.length-p)=p by omega]
 |k+1,p,l,hp=>by
  simp only[dP]
  rw[KN hN hs hp,show 2*(k+1)=2*k+1+1 by omega]
  simp only[rdN]
  cases h1:rdI (s.drop p) with
  |none=>rfl
  |some nm=>
   obtain⟨n,m⟩:=nm
   have hp1:=E0 hp h1
   simp only[Option.map_some,pb,Option.bind_some,List.drop_drop]
   rw[KN hN hs hp1]
   cases h2:rdI (s.drop (p+m)) with
   |none=>rfl
   |some nm2=>
    obtain⟨n2,m2⟩:=nm2
    have hp2:=E0 hp1 h2
    simp only[Option.map_some,pb,Option.bind_some,List.drop_drop]
    rw[Zz hN hs k (p+m+m2) _ hp2]
    cases rdN (2*k) (s.drop (p+m+m2)) with
    |none=>rfl
    |some xr=>simp[prs]
theorem dB {N:Nat} (hN:100≤N) {s:List UInt8} (hs:s.length≤1000000000):Sq N s=some (L7 s):=by
 unfold Sq L7
 have h10:10≤N:=by omega
 have e0:=KN h10 hs (Nat.zero_le s.length)
 rw[Int.natCast_zero,List.drop_zero] at e0
 rw[e0,show(6:Nat)=0+1+1+1+1+1+1 from rfl]
 simp only[rdN]
 cases h1:rdI s with
 |none=>rfl
 |some nm1=>
 obtain⟨a,m1⟩:=nm1
 have p1:=E0 (Nat.zero_le s.length) (by rw[List.drop_zero];exact h1)
 simp only[Option.map_some,pb,Option.bind_some,List.drop_drop]
 rw[Nat.zero_add] at p1⊢
 rw[KN h10 hs p1]
 cases h2:rdI (s.drop m1) with
 |none=>rfl
 |some nm2=>
 obtain⟨b,m2⟩:=nm2
 have p2:=E0 p1 h2
 simp only[Option.map_some,pb,Option.bind_some,List.drop_drop]
 rw[KN h10 hs p2]
 cases h3:rdI (s.drop (m1+m2)) with
 |none=>rfl
 |some nm3=>
 obtain⟨c,m3⟩:=nm3
 have p3:=E0 p2 h3
 simp only[Option.map_some,pb,Option.bind_some,List.drop_drop]
 rw[KN h10 hs p3]
 cases h4:rdI (s.drop (m1+m2+m3)) with
 |none=>rfl
 |some nm4=>
 obtain⟨f,m4⟩:=nm4
 have p4:=E0 p3 h4
 simp only[Option.map_some,pb,Option.bind_some,List.drop_drop]
 rw[KN h10 hs p4]
 cases h5:rdI (s.drop (m1+m2+m3+m4)) with
 |none=>rfl
 |some nm5=>
 obtain⟨g,m5⟩:=nm5
 have p5:=E0 p4 h5
 simp only[Option.map_some,pb,Option.bind_some,List.drop_drop]
 rw[KN h10 hs p5]
 cases h6:rdI (s.drop (m1+m2+m3+m4+m5)) with
 |none=>rfl
 |some nm6=>
 obtain⟨n,m6⟩:=nm6
 have p6:=E0 p5 h6
 simp only[Option.map_some,pb,Option.bind_some,List.drop_drop]
 by_cases hn:3≤n∧n≤8
 ·rw[if_pos hn,cT' _ (by simp[hn]),Zz h10 hs _ _ _ p6]
  cases h7:rdN (2*n.toNat) (s.drop (m1+m2+m3+m4+m5+m6)) with
  |none=>rfl
  |some xr=>
   obtain⟨xs,r⟩:=xr
   obtain⟨b1,_,_⟩:=Iq _ _ _ _ h7
   have hl:r.length≤s.length:=by
    have:=congrArg List.length b1
    rw[List.length_drop,List.length_append] at this
    omega
   simp only[Option.map_some,pb,Option.bind_some,List.nil_append]
   by_cases hr:r=[]
   ·subst hr
    rw[cF' _ (by simp),Gn hN,Option.bind_some]
    by_cases hu:UP a b c (prs xs) f g
    ·rw[if_pos ⟨rfl,hu⟩,(Gp.2 hu)]
     rfl
    ·rw[if_neg fun h=>hu h.2,show(Fs a b c f g&&vB (prs xs))=false by rw[Bool.eq_false_iff];exact fun h=>hu (Gp.1 h)]
     rfl
   ·have:0<r.length:=List.length_pos_iff.2 hr
    rw[cT' _ (by simp;omega),if_neg fun h=>hr h.1]
 ·rw[if_neg hn,cF' _ (by rw[Bool.and_eq_false_iff];simp;omega)]
theorem ZA {a b c:Int} {l:List Pt} {p q:Int} (h:UP a b c l p q):(∀n∈[a,b,c,p,q,(l.length:Int)],Wr n)∧∀n∈fl l,Wr n:=by
 obtain⟨h1,h2,h3,h4,h5⟩:=h
 have l8:=h5.l8
 constructor
 ·intro n hn
  simp only[List.mem_cons,List.not_mem_nil,or_false] at hn
  unfold Wr
  rcases hn with rfl|rfl|rfl|rfl|rfl|rfl<;>omega
 ·have key:∀l':List Pt,(∀p∈l',On p)→∀n∈fl l',Wr n:=by
   intro l'
   induction l' with
   |nil=>intro _ n hn;cases hn
   |cons p l' ih=>
    intro h n hn
    have hp:=h p (by simp)
    unfold On at hp
    simp only[fl,List.mem_cons] at hn
    unfold Wr
    rcases hn with rfl|rfl|hn
    ·omega
    ·omega
    ·exact ih (fun p hp=>h p (by simp[hp])) n hn
  exact key l h5.on
theorem N7 {a b c:Int} {l:List Pt} {p q:Int} (h:UP a b c l p q) (w:List UInt8):rdN 6 (Ip a b c l p q++w)=some ([a,b,c,p,q,(l.length:Int)],CC (fl l)++w):=by
 have:=PY [a,b,c,p,q,(l.length:Int)] (CC (fl l)++w) (ZA h).1
 unfold Ip Pe
 rw[Pp,List.append_assoc]
 exact this
theorem PZ {a b c:Int} {l:List Pt} {p q:Int} (h:UP a b c l p q) (w:List UInt8):rdN (2*(l.length:Int).toNat) (CC (fl l)++w)=some (fl l,w):=by
 have:=PY (fl l) w (ZA h).2
 rw[SG] at this
 exact this
theorem rF {a b c:Int} {l:List Pt} {p q:Int} (h:UP a b c l p q):L7 (Ip a b c l p q)=some (a,b,c,l,p,q):=by
 have e:=N7 h []
 have e2:=PZ h []
 have l3:=h.l.l3
 have l8:=h.l.l8
 rw[List.append_nil] at e
 unfold L7
 rw[e,Option.bind_some]
 simp only
 rw[if_pos (by omega),e2,Option.bind_some]
 simp only
 rw[Po,if_pos ⟨rfl,h⟩]
theorem nP {s:List UInt8} {a b c:Int} {l:List Pt} {p q:Int} (h:L7 s=some (a,b,c,l,p,q)):UP a b c l p q∧s=Ip a b c l p q:=by
 unfold L7 at h
 obtain⟨⟨hs,r⟩,h1,h⟩:=yB.1 h
 simp only at h
 split at h
 ·rename_i a' b' c' f' g' n
  split at h
  ·rename_i hn
   obtain⟨⟨xs,r'⟩,h2,h⟩:=yB.1 h
   simp only at h
   split at h
   ·rename_i hu
    obtain⟨rfl,hu⟩:=hu
    simp only[yE,Prod.mk.injEq] at h
    obtain⟨rfl,rfl,rfl,rfl,rfl,rfl⟩:=h
    obtain⟨b1,b2,_⟩:=Iq _ _ _ _ h1
    obtain⟨c1,c2,_⟩:=Iq _ _ _ _ h2
    obtain⟨d1,d2⟩:=W7 _ _ c2
    refine⟨hu, ?_⟩
    unfold Ip Pe
    rw[Pp,d1,d2,b1,c1,List.append_nil,show((n.toNat:Nat):Int)=n by omega]
   ·cases h
  ·cases h
 ·cases h
end Go.Proofs.YtciphecegkfaiaaGreat.Am
