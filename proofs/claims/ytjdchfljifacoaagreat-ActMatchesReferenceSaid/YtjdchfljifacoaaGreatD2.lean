import Derived.Test.YtjdchfljifacoaaGreatP9
set_option linter.all false
set_option maxRecDepth 100000
set_option maxHeartbeats 8000000
noncomputable section
namespace Go.Proofs.YtjdchfljifacoaaGreat.Am
theorem AU{E:Type}(b:Bool)(h:b=true)(x y:E):(bif b then x else y)=x:=by subst h;rfl
theorem A1{E:Type}(b:Bool)(h:b=false)(x y:E):(bif b then x else y)=y:=by subst h;rfl
theorem bS'{E J:Type}(o:Option E)(a:E)(h:o=some a)(f:E->Option J):o.bind f=f a:=by subst h;rfl
theorem cT{E:Type}(x y:E):(bif true then x else y)=x:=AU _ rfl x y
theorem cF{E:Type}(x y:E):(bif false then x else y)=y:=A1 _ rfl x y
theorem bS{E J:Type}(a:E)(f:E->Option J):(some a).bind f=f a:=bS' _ a rfl f
theorem SL{J:Type}{L:Nat->Int->Option (Sum Unit J)}{len:Nat}(f:Nat->Option J)(h1:∀n (k:Nat),k<len->f k=none->L (n+1) k=L n ((k+1:Nat):Int))(h2:∀n (k:Nat) r,k<len->f k=some r->L (n+1) k=some (.inr r))(h3:∀n,L (n+1) len=some (.inl ())):∀(n k:Nat),k<=len->len<n+k->(L n k=some (.inl ())/\∀j,k<=j->j<len->f j=none)\/∃j r,k<=j/\j<len/\f j=some r/\(∀i,k<=i->i<j->f i=none)/\L n k=some (.inr r)
 |0,k,hk,hn=>by omega
 |n+1,k,hk,hn=>by
  by_cases he:k=len
  ·grind
  cases hf:f k with
  |some r=>grind
  |none=>
   rcases SL f h1 h2 h3 n (k+1) (by omega) (by omega)with⟨e,h⟩|⟨j,r,a1,a2,a3,a4,a5⟩
   all_goals grind
theorem GK{J:Type}{L:Nat->Int->Option (Sum Unit J)}{len:Nat}(f:Nat->Option J)(h1:∀n (k:Nat),k<len->f k=none->L (n+1) k=L n ((k+1:Nat):Int))(h2:∀n (k:Nat) r,k<len->f k=some r->L (n+1) k=some (.inr r))(h3:∀n,L (n+1) len=some (.inl ()))(n:Nat)(hn:len<n):(L n 0=some (.inl ())/\∀j,j<len->f j=none)\/∃j r,j<len/\f j=some r/\(∀i,i<j->f i=none)/\L n 0=some (.inr r):=by have:=SL f h1 h2 h3 n 0 (by omega) (by omega);grind
theorem ns(k:Nat):((k+1:Nat):Int)=(k:Int)+1:=by omega
theorem Nw(i n:Nat):((i:Int)+1).tmod (n:Int)=(((i+1)%n:Nat):Int):=by rfl
theorem F1{l:List Pt}{i:Nat}(h:i<l.length):A7 l (i:Int)=some ((pa l i).1,(pa l i).2):=by rw[Ou (0,0) (by omega) (by omega),tK];rfl
theorem BR{E:Type}{p q:Prop}[Decidable p][Decidable q]{k:Option E}(h:p->q):gd (p->q) k=k:=Ae h
theorem YC{N:Nat}{a b c:Pt}(ha:CD a)(hb:CD b)(hc:CD c):Hr N a.1 a.2 b.1 b.2 c.1 c.2=some (Ao a b c):=by unfold CD at*;have h1:=Ob (x:=b.1-a.1) (y:=c.2-a.2) (by omega) (by omega);have h2:=Ob (x:=b.2-a.2) (y:=c.1-a.1) (by omega) (by omega);unfold Hr Ao;rw[Ae (by omega),Ae (by omega),Ae (by omega),Ae (by omega),Ae (by omega),Ae (by omega),Ae (by omega)]
theorem jU{N:Nat}{a b c:Pt}(ha:CD a)(hb:CD b)(hc:CD c):Fw N a.1 a.2 b.1 b.2 c.1 c.2=some (Ao a b c):=by unfold CD at*;have h1:=Ob (x:=b.1-a.1) (y:=c.2-a.2) (by omega) (by omega);have h2:=Ob (x:=b.2-a.2) (y:=c.1-a.1) (by omega) (by omega);unfold Fw Ao;rw[Ae (by omega),Ae (by omega),Ae (by omega),Ae (by omega),Ae (by omega),Ae (by omega),Ae (by omega)]
def On(p:Pt):Prop:=(0<=p.1/\p.1<=40)/\(0<=p.2/\p.2<=40)
instance(p:Pt):Decidable (On p):=inferInstanceAs (Decidable ((_/\_)/\(_/\_)))
theorem On.sml{p:Pt}(h:On p):CD p:=by unfold On at h;unfold CD;omega
structure VP(l:List Pt):Prop where
 l3:3<=l.length
 l8:l.length<=8
 on:∀p∈l,On p
 cv:Conv l
open Classical in
def vB(l:List Pt):Bool:=decide (VP l)
theorem Li{l:List Pt}:vB l=true↔VP l:=by unfold vB;simp
theorem KK{l:List Pt}:vB l=false↔¬VP l:=by unfold vB;simp
theorem Wz(N:Nat)(p:Pt):IO N p.1 p.2=some (!decide (On p)):=by
 unfold IO;by_cases h:On p
 ·grind[On]
 ·rw[bJ h];unfold On at h;grind
open Classical in
theorem WA{N:Nat}{l:List Pt}(hN:100<=N)(hl:l.length<=50):Bm N l=some (decide (∃p∈l,¬On p)):=by
 unfold Bm CI;have key:=GK (L:=A3 N l) (λi=>if On (pa l i)then none else some (i)) (λn k hk hf=>by
   rw[A3];have e1:decide ((k:Int)<(l.length))=true:=by simp;omega
   have hon:On (pa l k):=by grind
   rw[e1,cT,F1 hk];simp only[bS];rw[Wz];simp only[bS,hon,decide_true,Jh,cF];rw[Ae (by omega),ns]) (λn k r hk hf=>by
   rw[A3];have e1:decide ((k:Int)<(l.length))=true:=by simp;omega
   have hon:¬On (pa l k):=by grind
   rw[dQ hon]at hf;rw[e1,cT,F1 hk];simp;rw[Wz];simp only[bS,hon,decide_false,Iv,cT];rw[<-yJ hf]) (λn=>by
   rw[A3];have e1:decide ((l.length:Int)<(l.length))=false:=by simp
   rw[e1,cF]) N (by omega)
 rcases key with⟨e,h⟩|⟨j,r,a2,a3,a4,e⟩
 ·rw[e];simp;congr 1;grind[Jf]
 ·rw[e];simp only[bS];by_cases hon:On (pa l j)
  ·simp[hon]at a3
  ·simp only[hon,if_false,yE]at a3;subst a3;congr 1;rw[show decide ((0:Int)<=(j))=true from by simp];symm;simp only[bK];exact⟨_,Bo a2,hon⟩
open Classical in
theorem jV{N:Nat}{l:List Pt}(hl:l.length<=50)(ho:∀p∈l,CD p){i:Nat}(hi:i<l.length)(n:Nat)(hn:l.length<n):Dv N l i (pa l i).1 (pa l i).2 n 0=some (if∀k,k<l.length->k≠i->k≠(i+1)%l.length->0<Ao (pa l i) (pa l ((i+1)%l.length)) (pa l k)then .inl ()else .inr false):=by
 have hm:(i+1)%l.length<l.length:=tH _ (by omega);have step:∀n (k:Nat),k<l.length->Dv N l i (pa l i).1 (pa l i).2 (n+1) k=if(k≠i/\k≠(i+1)%l.length)/\Ao (pa l i) (pa l ((i+1)%l.length)) (pa l k)<=0 then some (.inr false)else Dv N l i (pa l i).1 (pa l i).2 n ((k+1):Int):=λn k hk=>by
  rw[Dv];have e1:decide ((k:Int)<(l.length))=true:=by simp;omega
  have tu:=YC (N:=N) (ho _ (Bo hi)) (ho _ (Bo hm)) (ho _ (Bo hk));have e2:(l.getD (((i+1)%l.length):Int).toNat (0,0))=pa l ((i+1)%l.length):=by rfl
  rw[e1,cT,F1 hk];simp only[bS,Nw,jS];rw[Ae (by omega),Ae (by grind),Ae (by omega)];grind
 have key:=GK (L:=Dv N l i (pa l i).1 (pa l i).2) (len:=l.length) (λk=>if(k≠i/\k≠(i+1)%l.length)/\Ao (pa l i) (pa l ((i+1)%l.length)) (pa l k)<=0 then some false else none)
  (by grind) (by grind) (λn=>by
   rw[Dv];have e1:decide ((l.length:Int)<(l.length))=false:=by simp
   rw[e1,cF]) n (by omega)
 grind
open Classical in
theorem IJ{N:Nat}(hN:100<=N)(l:List Pt):Cy N l=some (vB l):=by
 unfold Cy;by_cases hl:l.length<3\/8<l.length
 ·have e1:((decide ((l.length:Int)<3))||(decide (8<(l.length:Int))))=true:=by simp;omega
  have e2:vB l=false:=KK.2 λh=>by have:=h.l3;have:=h.l8;omega
  simp only[e1,Bool.true_or,cT,e2];rw[Ae (by grind)]
 have e1:((decide ((l.length:Int)<3))||(decide (8<(l.length:Int))))=false:=by simp;omega
 rw[Ae (by grind[WA]),WA hN (by omega)];simp only[e1,Bool.false_or,oK];by_cases ho:∃p∈l,¬On p
 ·rw[show decide (∃p∈l,¬On p)=true from by simpa using ho,cT];have e2:=KK.2 λh=>by obtain⟨p,hp,hn⟩:=ho;exact hn (h.on p hp)
  rw[e2]
 rw[show decide (∃p∈l,¬On p)=false from by simpa using ho,cF];have hon:∀p∈l,On p:=by grind
 have hs:=λp hp=>(hon p hp).sml
 have step:∀n (i:Nat),i<l.length->D7 N l (n+1) i=if∀k,k<l.length->k≠i->k≠(i+1)%l.length->0<Ao (pa l i) (pa l ((i+1)%l.length)) (pa l k)then D7 N l n ((i+1:Nat))else some (.inr false):=λn i hi=>by
  rw[D7];have e1:decide ((i:Int)<(l.length))=true:=by simp;omega
  rw[e1,cT,F1 hi];simp only[bS];rw[Ae (by omega),Ae (by omega),jV (by omega) hs hi N (by omega)];split
  ·simp only[bS];rw[Ae (by omega),ns]
  ·simp
 have key:=GK (L:=D7 N l) (len:=l.length) (λi=>if∀k,k<l.length->k≠i->k≠(i+1)%l.length->0<Ao (pa l i) (pa l ((i+1)%l.length)) (pa l k)then none else some false)
  (by grind) (by grind) (λn=>by
   rw[D7];have e1:decide ((l.length:Int)<(l.length))=false:=by simp
   rw[e1,cF]) N (by omega)
 rcases key with⟨e,h⟩|⟨j,r,a2,a3,a4,e⟩
 ·rw[e];simp only[bS];congr 1;symm;refine Li.2 ⟨by omega,by omega,hon,λi k hi hk n1 n2=>?_⟩;grind
 ·rw[e];simp;split at a3
  ·cases a3
  ·rename_i h;cases a3
   congr 1;symm;exact KK.2 λhv=>h λk hk n1 n2=>hv.cv j k a2 hk n1 n2
theorem KT{N:Nat}(hN:100<=N){l:List Pt}(h:VP l):Cy N l=some true:=by rw[IJ hN,Li.2 h]
def pk(c n:Int):Int:=if c<0 then(-(c+1)).tmod n else c.tmod n
theorem DI{c n:Int}(hn:0<n):0<=pk c n/\pk c n<n:=by
 unfold pk;split
 ·exact⟨Int.tmod_nonneg _ (by omega),Int.tmod_lt_of_pos _ hn⟩
 simp_all[Int.tmod_nonneg,Int.tmod_lt_of_pos]
theorem RK{N:Nat}{c n:Int}(hc:Af c)(hn:0<n):EJ N c n=some (pk c n):=by
 unfold EJ pk;by_cases h:c<0
 ·rw[aB h,cT,dW h,Ae (by omega),Ae (by omega),Ae (by omega)]
 ·rw[bJ h,cF,dQ h,Ae (by omega)]
theorem YD{l:List Pt}{i:Nat}(h:i<l.length):l.drop i=pa l i::l.drop (i+1):=by rw[De h];simp_all
theorem Dq{k n:Nat}(h:k<n):decide ((k:Int)<(n:Int))=true:=by simp;omega
theorem F2(n:Nat):decide ((n:Int)<(n:Int))=false:=by simp
theorem L4{n k i j:Nat}(hi:i<n)(hj:j<n)(h:(k+i)%n=(k+j)%n):i=j:=by
 have h1:((k%n+i)%n)=((k%n+j)%n):=by simpa[Nat.add_mod]using h
 have hk:k%n<n:=tH _ (by omega);generalize k%n=m at*;by_cases a:m+i<n<;>by_cases b:m+j<n
 ·rw[sI a,sI b]at h1;omega
 ·rw[sI a,Nat.mod_eq_sub_mod (by omega),sI (by omega)]at h1;omega
 ·rw[sI b,Nat.mod_eq_sub_mod (by omega),sI (by omega)]at h1;omega
 ·rw[Nat.mod_eq_sub_mod (by omega),sI (by omega),Nat.mod_eq_sub_mod (by omega),sI (by omega)]at h1;omega
def α(l:List Pt)(i:Nat)(p:Pt):Int:=Ao (pa l i) (pa l ((i+1)%l.length)) p
def inn(l:List Pt)(p:Pt):Prop:=∀i,i<l.length->0<α l i p
def clo(l:List Pt)(p:Pt):Prop:=∀i,i<l.length->0<=α l i p
theorem inn.clo{l:List Pt}{p:Pt}(h:inn l p):clo l p:=λi hi=>w8 (h i hi)
open Classical in
def sd(l:List Pt)(p:Pt):Int:=if inn l p then 1 else if clo l p then 0 else-1
theorem SM(N:Nat)(x y:Int):F3 N x y=some (if x<y then-1 else if y<x then 1 else 0):=by unfold F3 HY;grind
theorem VP.sml{l:List Pt}(h:VP l):∀p∈l,CD p:=λp hp=>(h.on p hp).sml
theorem jX{f:Pt->Pt}{l:List Pt}{i:Nat}(hi:i<l.length)(v:Pt):((l.take i).map f++l.drop i).set i v=(l.take i).map f++v::l.drop (i+1):=by
 have e:((l.take i).map f).length=i:=by simp;omega
 rw[YD hi,List.set_append_right _ _ (by omega),e,Nat.sub_self,List.set_cons_zero]
theorem dR{f:Pt->Pt}{l:List Pt}{i:Nat}(hi:i<l.length)(u v:Pt):((l.take i).map f++u::l.drop (i+1)).set i v=(l.take i).map f++v::l.drop (i+1):=by
 have e:((l.take i).map f).length=i:=by simp;omega
 rw[List.set_append_right _ _ (by omega),e,Nat.sub_self,List.set_cons_zero]
theorem WC{f:Pt->Pt}{l R:List Pt}{i:Nat}(hi:i<l.length)(u:Pt):A7 ((l.take i).map f++u::R) (i:Int)=some u:=by
 have e:((l.take i).map f).length=i:=by simp;omega
 rw[M4,List.getElem?_append_right (by omega),e,Nat.sub_self];rfl
theorem jY{f:Pt->Pt}{l:List Pt}{i:Nat}(hi:i<l.length):(l.take i).map f++f (pa l i)::l.drop (i+1)=(l.take (i+1)).map f++l.drop (i+1):=by rw[List.take_succ_eq_append_getElem hi,uI,List.map_singleton,<-De hi,qZ];rfl
theorem VP.ne{l:List Pt}(h:VP l){i:Nat}(hi:i<l.length):pa l i≠pa l ((i+1)%l.length):=λe=>by
 have l3:=h.l3;obtain⟨k,hk,n1,n2⟩:∃k,k<l.length/\k≠i/\k≠(i+1)%l.length:=by
  by_cases h0:0≠i/\0≠(i+1)%l.length
  ·exact⟨0,by omega,h0.1,h0.2⟩
  by_cases h1:1≠i/\1≠(i+1)%l.length
  ·exact⟨1,by omega,h1.1,h1.2⟩
  exact⟨2,by omega,by omega,by omega⟩
 have:=h.cv i k hi hk n1 n2;rw[<-e,cZ]at this;omega
theorem H6{f:Pt->Pt}{l:List Pt}{i:Nat}(h:i<l.length):pa (l.map f) i=f (pa l i):=by rw[De (by simpa using h),List.getElem_map,De h]
section
open Go
theorem wrN{n:Nat}(h:n<18446744073709551616):IntKind.wrap .u64 (n:Int)=n:=by grind[IntKind.wrap,IntKind.bits,IntKind.signed]
theorem wr8{n:Nat}(h:n<256):IntKind.wrap .u8 (n:Int)=n:=by grind[IntKind.wrap,IntKind.bits,IntKind.signed]
theorem wrI{n:Int}(h: -9223372036854775808<=n/\n<=9223372036854775807):IntKind.wrap .i64 n=n:=KF h
theorem ofN{w x:Nat}(h:x<2^w):(BitVec.ofInt w (x:Int)).toNat=x:=by rw[BitVec.toNat_ofInt];have:((x:Int)%((2^w:Nat)))=x:=Int.emod_eq_of_lt (by omega) (by omega);rw[this];rfl
theorem AhO{z:Nat}(h:z<18446744073709551616):E1 .and .u64 (z:Int) 127=((z%128:Nat):Int):=by unfold E1;rw[BitVec.toNat_and,show(127:Int)=((127:Nat))from rfl,show IntKind.bits .u64=64 from rfl,ofN (by omega),ofN (by omega),show 127=2^7-1 from rfl,Nat.and_two_pow_sub_one_eq_mod,wrN (by omega)]
theorem Aid{z:Nat}(h:z<256):E1 .and .u8 (z:Int) 127=((z%128:Nat):Int):=by unfold E1;rw[BitVec.toNat_and,show(127:Int)=((127:Nat))from rfl,show IntKind.bits .u8=8 from rfl,ofN (by omega),ofN (by omega),show 127=2^7-1 from rfl,Nat.and_two_pow_sub_one_eq_mod,wr8 (by omega)]
theorem AiG{z:Nat}(h:z<18446744073709551616):E1 .and .u64 (z:Int) 1=((z%2:Nat):Int):=by unfold E1;rw[BitVec.toNat_and,show(1:Int)=((1:Nat))from rfl,show IntKind.bits .u64=64 from rfl,ofN (by omega),ofN (by omega),show 1=2^1-1 from rfl,Nat.and_two_pow_sub_one_eq_mod,wrN (by omega)]
theorem AiW{z:Nat}(h:z<128):E1 .or .u8 (z:Int) 128=((z+128:Nat):Int):=by unfold E1;simp only;rw[BitVec.toNat_or,show(128:Int)=((128:Nat))from rfl,show IntKind.bits .u8=8 from rfl,ofN (by omega),ofN (by omega)];have:=Nat.two_pow_add_eq_or_of_lt (i:=7) (by omega) 1;rw[Nat.or_comm,<-this,wr8 (by omega),H7]
theorem AiX{z y i:Nat}(hz:z<2^i)(hb:2^i*y+z<18446744073709551616):E1 .or .u64 (z:Int) ((2^i*y:Nat):Int)=((2^i*y+z:Nat):Int):=by unfold E1;rw[BitVec.toNat_or,show IntKind.bits .u64=64 from rfl,ofN (by omega),ofN (by omega),Nat.or_comm,<-Nat.two_pow_add_eq_or_of_lt hz,wrN hb]
theorem Aji{z:Nat}(h:z<18446744073709551616):E1 .xor .u64 (z:Int) 0=(z:Int):=by unfold E1;rw[BitVec.toNat_xor,show(0:Int)=((0:Nat))from rfl,show IntKind.bits .u64=64 from rfl,ofN (by omega),ofN (by omega),Nat.xor_zero,wrN h]
theorem Ajj{z:Nat}(h:z<18446744073709551616):E1 .xor .u64 (z:Int) 18446744073709551615=((18446744073709551615-z:Nat):Int):=by unfold E1;simp only;rw[show IntKind.bits .u64=64 from rfl,show BitVec.ofInt 64 18446744073709551615=BitVec.allOnes 64 by decide,BitVec.xor_allOnes,BitVec.toNat_not,ofN (by omega),wrN (by omega)]
theorem AiY{z:Nat}(h:z<9223372036854775808):E1 .xor .i64 (z:Int) 0=(z:Int):=by unfold E1;simp only;rw[BitVec.toNat_xor,show(0:Int)=((0:Nat))from rfl,show IntKind.bits .i64=64 from rfl,ofN (by omega),ofN (by omega),Nat.xor_zero,wrI (by omega)]
theorem AiZ{z:Nat}(h:z<9223372036854775808):E1 .xor .i64 (z:Int) (-1)= -(z:Int)-1:=by unfold E1;rw[show IntKind.bits .i64=64 from rfl,show BitVec.ofInt 64 (-1)=BitVec.allOnes 64 by decide,BitVec.xor_allOnes,BitVec.toNat_not,ofN (by omega)];grind[IntKind.wrap,IntKind.bits,IntKind.signed]
def unz(z:Nat):Int:=if z%2=0 then((z/2:Nat):Int)else-((z/2:Nat):Int)-1
def zg(n:Int):Nat:=if 0<=n then(2*n).toNat else(-2*n-1).toNat
theorem AiH(n:Int):unz (zg n)=n:=by unfold unz zg;grind
theorem AiI(z:Nat):zg (unz z)=z:=by unfold unz zg;grind
def Akh(n:Int):Prop:= -4611686018427387903<=n/\n<=4611686018427387903
theorem Ai0{n:Int}(h:Akh n):zg n<9223372036854775808:=by unfold Akh at h;unfold zg;split<;>omega
theorem Ai1{n:Int}(h:Akh n):zz n=zg n:=by
 unfold Akh at h;unfold zz zg CW;simp only;have e63:(2:Int)^min (63:Int).toNat (IntKind.bits .i64)=9223372036854775808:=by decide
 have e1:(2:Int)^min (1:Int).toNat (IntKind.bits .u64)=2:=by decide
 rw[e63,e1];by_cases hn:0<=n
 ·rw[dW hn,Int.fdiv_eq_ediv_of_nonneg _ (by decide),show n/9223372036854775808=((0:Nat):Int) by omega,wrN (by omega)];obtain⟨m,rfl⟩:=Int.eq_ofNat_of_zero_le hn;rw[wrN (by omega),show(m:Int)*2=((2*m:Nat):Int) by omega,wrN (by omega)];rw[show((0:Nat):Int)=0 from rfl,Aji (by omega)];omega
 ·have w1:∀x:Int,IntKind.wrap .u64 x=x%18446744073709551616:=by grind[IntKind.wrap,IntKind.bits,IntKind.signed]
  grind[Ajj]
def rdB:Nat->List UInt8->Option (Nat×Nat)|0,_=>none|_+1,[]=>none|k+1,b::l=>if 128<=b.toNat then(rdB k l).bind λzm=>if zm.1=0 then none else some (b.toNat%128+128*zm.1,zm.2+1)else some (b.toNat,1)
def vbL(f:Nat)(z:Nat):List UInt8:=pM ((Fg f (z:Int)).map pJ)
theorem AhP{f z:Nat}(h:z<128):vbL (f+1) z=[UInt8.ofNat z]:=by unfold vbL;rw[TA (by omega)];simp only[Mt];rw[AhO (by omega),wr8 (by omega),sI h];rfl
theorem AhQ{f z:Nat}(h:¬z<128)(hz:z<18446744073709551616):vbL (f+1) z=UInt8.ofNat (z%128+128)::vbL f (z/128):=by unfold vbL;rw[TB (by omega),AaH];simp only[eG,pJ,Mt,yF];rw[AhO hz,wr8 (by omega),AiW (by omega),show((z)/128)=((z/128):Int)from rfl];rfl
theorem Ah6{n:Nat}(h:n<256):(UInt8.ofNat n).toNat=n:=by simp_all
theorem Ah7:∀(k f z:Nat)(rest:List UInt8),z<128^k->k<=9->k<=f->0<k->rdB k (vbL f z++rest)=some (z,(vbL f z).length)
 |0,f,z,rest,hz,_,_,h0=>by omega
 |k+1,0,z,rest,hz,_,hf,h0=>by omega
 |k+1,f+1,z,rest,hz,h9,hf,h0=>by
  have hb:(128)^(k+1)<=128^9:=Nat.pow_le_pow_right (by omega) h9;by_cases h:z<128
  ·rw[AhP h];simp only[sF,rdB];rw[Ah6 (by omega),dQ (by omega)];rfl
  ·have hk:0<k:=by grind
   have hz':z/128<128^k:=by omega
   rw[AhQ h (by omega)];simp only[sF,rdB];rw[Ah6 (by omega),dW (by omega),Ah7 k f (z/128) rest hz' (by omega) (by omega) hk,pK];grind
theorem Ah8:∀(k f:Nat)(l:List UInt8)(z m:Nat),rdB k l=some (z,m)->k<=f->k<=9->z<128^k/\l.take m=vbL f z/\m<=l.length/\0<m
 |0,f,l,z,m,h,_,_=>by simp[rdB]at h
 |k+1,0,l,z,m,h,hf,_=>by omega
 |k+1,f+1,[],z,m,h,_,_=>by simp[rdB]at h
 |k+1,f+1,b::l,z,m,h,hf,h9=>by
  have hb:=b.toNat_lt;have hB:(128)^(k+1)<=128^9:=Nat.pow_le_pow_right (by omega) h9;have hp:0<128^k:=by grind
  simp only[rdB]at h;by_cases hc:128<=b.toNat
  ·rw[dW hc]at h;obtain⟨⟨z',m'⟩,h1,h2⟩:=yB.1 h;by_cases h0:z'=0
   ·rw[dW h0]at h2;cases h2
   ·rw[dQ h0]at h2;cases h2
    obtain⟨i1,i2,i3,i4⟩:=Ah8 k f l z' m' h1 (by omega) (by omega);have hz:b.toNat%128+128*z'<128^(k+1):=by omega
    refine⟨hz,?_,by simp;omega,by omega⟩;rw[AhQ (by omega) (by omega),List.take_succ_cons,i2];congr 1
    ·have:(b.toNat%128+128*z')%128+128=b.toNat:=by omega
     rw[this];simp
    grind
  ·rw[dQ hc]at h;cases h
   refine⟨by omega,?_,by simp,by omega⟩;rw[AhP (by omega)];simp
def xP(l:List UInt8):Option (Int×Nat):=(rdB 9 l).bind λzm=>if unz zm.1< -4611686018427387903 then none else some (unz zm.1,zm.2)
theorem AhM{n:Int}(h:Akh n):Lp n=vbL 10 (zg n):=by have h':=h;unfold Akh at h';unfold Lp W6 vbL;rw[Ai1 h,show(decide (n< -4611686018427387903)||decide (4611686018427387903<n))=false by simp;omega,sH]
theorem AhC{n:Int}(h:Akh n)(rest:List UInt8):xP (Lp n++rest)=some (n,(Lp n).length):=by unfold xP;rw[AhM h,Ah7 9 10 _ rest (Ai0 h) (by omega) (by omega) (by omega),pK];rw[AiH,dQ (by unfold Akh at h;omega)]
theorem Ahp{l:List UInt8}{n:Int}{m:Nat}(h:xP l=some (n,m)):Akh n/\l.take m=Lp n/\m<=l.length/\0<m:=by
 obtain⟨⟨z,m'⟩,h1,h2⟩:=yB.1 h;simp only at h2;split at h2
 ·cases h2
 ·cases h2
  obtain⟨i1,i2,i3,i4⟩:=Ah8 9 10 l z m h1 (by omega) (by omega);have hw:Akh (unz z):=⟨by omega,by unfold unz;split<;>omega⟩
  grind[AhM,AiI]
theorem AhW{z:Nat}(h:z<9223372036854775808):E1 .xor .i64 (IntKind.wrap .i64 (CW .shr .u64 (z:Int) 1)) (-(IntKind.wrap .i64 (E1 .and .u64 (z:Int) 1)))=unz z:=by
 have e1:CW .shr .u64 (z) 1=((z/2:Nat)):=by grind[CW,IntKind.bits]
 rw[AiG (by omega),e1,wrI (by omega),wrI (by omega)];unfold unz;by_cases h2:z%2=0
 ·rw[dW h2,h2,show(-((0:Nat):Int))=0 from rfl,AiY (by omega)]
 ·rw[dQ h2,show z%2=1 by omega,show(-((1:Nat):Int))= -1 from rfl,AiZ (by omega)]
theorem AiJ{z b i:Nat}(hz:z<128^i)(hb:b<256)(hi:i<9):E1 .or .u64 (z:Int) (CW .shl .u64 (IntKind.wrap .u64 (E1 .and .u8 (b:Int) 127)) (7*(i:Int)))=((128^i*(b%128)+z:Nat):Int)/\128^i*(b%128)+z<128^(i+1):=by
 have h2:(128)^i=2^(7*i):=by rw[Nat.pow_mul]
 have hB:(128)^(i+1)<=128^9:=Nat.pow_le_pow_right (by omega) hi;have hlt:128^i*(b%128)+z<128^(i+1):=by have:128^i*(b%128)<=128^i*127:=Nat.mul_le_mul_left _ (by omega);omega
 refine⟨?_,hlt⟩;rw[Aid hb,wrN (by omega)];have e:CW .shl .u64 ((b%128:Nat)) (7*(i))=((2^(7*i)*(b%128):Nat)):=by unfold CW;rw[show(7*(i:Int)).toNat=7*i by omega,Nat.min_eq_left (by show 7*i<=64;omega)];rw[show((b%128:Nat):Int)*2^(7*i)=((2^(7*i)*(b%128):Nat)) by rw[Int.natCast_mul,Int.natCast_pow,Lc];rfl,wrN (by rw[<-h2];omega)]
 rw[e,AiX (by rw[<-h2];exact hz) (by rw[<-h2];omega),h2]
theorem AhG(N:Nat)(s:List UInt8)(p:Nat)(hs:s.length<=1000000000)(hp:p<=s.length):∀(n i z:Nat),i<=9->9<n+i->z<128^i->Kr N p s n z i=some (match rdB (9-i) (s.drop (p+i))with
  |some (y,m)=>if(0<i/\y=0)\/unz (z+y*128^i)< -4611686018427387903 then .inl ()else .inr (unz (z+y*128^i),((p+i+m:Nat):Int),0)
  |none=>.inl ())
 |0,i,z,hi,hn,hz=>by omega
 |n+1,i,z,hi,hn,hz=>by
  rw[Kr];by_cases h9:i=9
  ·subst h9;rw[show decide (((9:Nat):Int)<9)=false from by decide,cF];rfl
  have hi9:i<9:=by omega
  rw[show decide ((i:Int)<9)=true from by grind,cT,Ae (by unfold Af;omega)];obtain⟨k,hk⟩:∃k,9-i=k+1:=⟨8-i,by omega⟩
  by_cases hle:s.length<=p+i
  ·rw[aB (by omega),cT,List.drop_eq_nil_of_le hle,hk];rfl
  rw[bJ (by omega),cF,Ae (by unfold Af;omega),Ae (by omega),Ae (by unfold Af;omega),Ae (by omega)];have hpi:((p:Int)+(i:Int)).toNat=p+i:=by omega
  have hlt:p+i<s.length:=by omega
  have hdr:s.drop (p+i)=s.getD (p+i) 0::s.drop (p+i+1):=by rw[oH hlt];grind
  rw[hpi,hk,hdr];generalize hbb:s.getD (p+i) 0=b;have hb:b.toNat<256:=b.toNat_lt;obtain⟨e1,e2⟩:=AiJ hz hb hi9;rw[e1];have hB:(128:Nat)^(i+1)<=128^9:=Nat.pow_le_pow_right (by omega) hi9;simp only[rdB];by_cases hc:128<=b.toNat
  ·rw[aB (by omega),cT,Ae (by omega),dW hc,show((i:Int)+1)=((i+1:Nat):Int)from rfl,AhG N s p hs hp n (i+1) _ (by omega) (by omega) e2,show 9-(i+1)=k by omega,show p+(i+1)=p+i+1 by omega];grind
  ·rw[bJ (by omega),cF,dQ hc];have hm:b.toNat%128=b.toNat:=by omega
   rw[hm]at e2⊢;rw[AhW (by omega),AiG (by omega),wrI (by omega),Ae (by omega),show 128^i*b.toNat+z=z+b.toNat*128^i by rw[Nat.mul_comm,H7]];simp only;by_cases hy:0<i/\b.toNat=0
   ·rw[AU _ (by simp;omega),dW (.inl hy)]
   by_cases hu:unz (z+b.toNat*128^i)< -4611686018427387903
   ·rw[AU _ (by simp[hu]),dW (.inr hu)]
   ·rw[A1 _ (by grind),Ae (by omega),Ae (by omega),dQ (by omega)];rfl
theorem AhH{N:Nat}(hN:10<=N){s:List UInt8}{p:Nat}(hs:s.length<=1000000000)(hp:p<=s.length):B3 N s p=some (match xP (s.drop p)with|some (n,m)=>(n,((p+m:Nat):Int),0)|none=>(0,0,10)):=by unfold B3;have h:=AhG N s p hs hp N 0 0 (by omega) (by omega) (by simp);rw[nL]at h;rw[A1 _ (by simp;omega),h,pK,xP,Nat.sub_zero,Gt];grind
def rdN:Nat->List UInt8->Option (List Int×List UInt8)|0,l=>some ([],l)|k+1,l=>(xP l).bind λnm=>(rdN k (l.drop nm.2)).bind λr=>some (nm.1::r.1,r.2)
theorem AhD:∀(ns:List Int)(rest:List UInt8),(∀n∈ns,Akh n)->rdN ns.length (E0 ns++rest)=some (ns,rest)
 |[],rest,_=>rfl
 |n::ns,rest,h=>by
  have e:E0 (n::ns)++rest=Lp n++(E0 ns++rest):=by simp[E0]
  simp only[pV,rdN];rw[e,AhC (h n (by simp)),pK];simp;rw[AhD ns rest λm hm=>by grind,pK]
theorem Ahx:∀(k:Nat)(l:List UInt8)(ns:List Int)(r:List UInt8),rdN k l=some (ns,r)->l=E0 ns++r/\ns.length=k/\∀n∈ns,Akh n
 |0,l,ns,r,h=>by cases h;simp[E0]
 |k+1,l,ns,r,h=>by obtain⟨⟨n,m⟩,h1,h⟩:=yB.1 h;obtain⟨⟨ms,r'⟩,h2,h⟩:=yB.1 h;obtain⟨a1,a2,a3,a4⟩:=Ahp h1;obtain⟨b1,b2,b3⟩:=Ahx k _ ms r' h2;grind[y9,E0]
end
def EdS(es:List (Pt×Pt)):Prop:=∀e∈es,CD e.1/\CD e.2
theorem EdS.tl{e:Pt×Pt}{es:List (Pt×Pt)}(h:EdS (e::es)):EdS es:=λx hx=>h x (by simp[hx])
open Go
attribute [local irreducible] Ax BO BB Bj BC Bk AY BD BK Cq
def ED(N:Nat)(af:Int)(l16:List (Int×Int)):Nat->Int->(List (Int×Int))->Option ((List (Int×Int)))|0,_,_=>none|n+1,ai,l28=>bif decide (ai≠af)then(gd (Af (ai+1))<|gd ((l16.length:Int)≠0)<|(A7 l16 ((ai+1).tmod (l16.length:Int))).bind λ(x29,x30)=>gd ((l28.length+1)*16<=140737488355328)<|ED N af l16 n ((ai+1).tmod (l16.length:Int)) (l28++[(x29,x30)]))else(some l28)
def Fx(N:Nat)(l16:List (Int×Int))(am:Int)(af:Int):Option (List (Int×Int)):=(A7 l16 am).bind λ(x19,x20)=>(ED N af l16 N am [(x19,x20)]).bind λbj=>some bj
@[go_sem] def AdI(N:Nat):Spec:=p0<|(Aon Aq<|Aoi<|Aoi<|Aof<|Aog [] BP) (Fx N)
theorem xT(N:Nat):AG Tryz.prog 129 (AdI N):=by
 refine fk (Aoq AkM (Aj)) ?_;intro l16 am af r h _ hS F;dsimp only[AkM,Ah,Aq];unfold Fx at h;obtain⟨⟨x19,x20⟩,bf,h⟩:=un h;obtain⟨co,F⟩:=Cb Cz bf F;obtain⟨bu,bg,h⟩:=un h;refine go hS F ?_;refine Bz bu (λz:(List (Int×Int))×Nat=>⟨[(7,.own (104,2) z.1.length)],[(.a (104,2),LK z.1)],z.2⟩) (λz=>(z.1:(List (Int×Int)))) (.x 0) ?_ ?_
 ·refine Bp (λn (y:Int×(List (Int×Int))×Nat)=>ED N af l16 n y.1 y.2.1) (λy=>⟨[(0,BP l16),(1,.i y.1),(2,.i af),(7,.own (104,2) y.2.1.length)],[(.a (104,2),LK y.2.1)],y.2.2⟩) (am,[(x19,x20)],2) bg (Ch F) ?_;rintro n ⟨ai,l28,bo⟩ aa;simp only[ED]at aa;refine An hS F aa (λ_ aa=>?_) (λ_ aa=>?_)
  ·obtain⟨bv,de,⟨x29,x30⟩,be,aa⟩:=un aa;obtain⟨cn,F⟩:=Cb Cz be F;obtain⟨db,aa⟩:=un aa;exact Cd hS F (n,(ai+1).tmod (l16.length:Int),l28++[(x29,x30)],bo+1+1+1) aa
  ·exact B4 hS F (l28,bo+1) aa
 ·rintro⟨bj,dh⟩ rfl;exact Ai hS F h
def C1(N:Nat)(l38:List (Int×Int)):Nat->Int->Option (Sum Unit Bool)|0,_=>none|n+1,ah=>bif decide (ah<(l38.length:Int))then((A7 l38 ah).bind λ(x47,x48)=>(Gg N x47 x48).bind λbi=>bif !bi then(some (.inr false))else(gd (Af (ah+1))<|C1 N l38 n (ah+1)))else(some (.inl ()))
def Ck(N:Nat)(l38:List (Int×Int))(i67:Int):Nat->Int->Option (Sum Unit Bool)|0,_=>none|n+1,k70=>bif decide (k70<(l38.length:Int))then(gd ((decide (k70≠i67))=true->(Af (i67+1)))<|gd ((decide (k70≠i67))=true->((l38.length:Int)≠0))<|gd (((decide (k70≠i67))&&(decide (k70≠(i67+1).tmod (l38.length:Int))))=true->(0<=i67/\i67<(l38.length:Int)))<|gd (((decide (k70≠i67))&&(decide (k70≠(i67+1).tmod (l38.length:Int))))=true->((CU N l38 i67).isSome=true))<|gd (((decide (k70≠i67))&&(decide (k70≠(i67+1).tmod (l38.length:Int))))=true->(0<=k70/\k70<(l38.length:Int)))<|gd (((decide (k70≠i67))&&(decide (k70≠(i67+1).tmod (l38.length:Int))))=true->((Fw N ((l38.getD i67.toNat (0,0)).1) ((l38.getD i67.toNat (0,0)).2) (((CU N l38 i67).getD (0,0)).1) (((CU N l38 i67).getD (0,0)).2) ((l38.getD k70.toNat (0,0)).1) ((l38.getD k70.toNat (0,0)).2)).isSome=true))<|bif ((decide (k70≠i67))&&(decide (k70≠(i67+1).tmod (l38.length:Int))))&&(decide ((Fw N ((l38.getD i67.toNat (0,0)).1) ((l38.getD i67.toNat (0,0)).2) (((CU N l38 i67).getD (0,0)).1) (((CU N l38 i67).getD (0,0)).2) ((l38.getD k70.toNat (0,0)).1) ((l38.getD k70.toNat (0,0)).2)).getD 0<=0))then(some (.inr false))else(gd (Af (k70+1))<|Ck N l38 i67 n (k70+1)))else(some (.inl ()))
def CA(N:Nat)(l38:List (Int×Int)):Nat->Int->Option (Sum Unit Bool)|0,_=>none|n+1,i67=>bif decide (i67<(l38.length:Int))then((Ck N l38 i67 N 0).bind λaq=>match aq with|.inl ()=>(gd (Af (i67+1))<|CA N l38 n (i67+1))|.inr bq=>(some (.inr bq)))else(some (.inl ()))
def Cj(N:Nat)(l38:List (Int×Int)):Option Bool:=bif (decide ((l38.length:Int)<3))||(decide (8<(l38.length:Int)))then(some false)else((C1 N l38 N 0).bind λau=>match au with|.inl ()=>((CA N l38 N 0).bind λan=>match an with|.inl ()=>(some true)|.inr bp=>(some bp))|.inr br=>(some br))
@[go_sem] def AdJ(N:Nat):Spec:=p0<|(Aon Aq<|Aof<|Aog false .b) (Cj N)
theorem SB(N:Nat):AG Tryz.prog 114 (AdJ N):=by
 refine fk (Aoq AkI (Ab (xR N)<|Ab (cC N)<|Ab (xQ N)<|Aj)) ?_;intro l38 r h _ hS F;dsimp only[AkI,Ah,Aq];unfold Cj at h;refine An hS F h (λ_ h=>?_) (λ_ h=>?_)
 ·exact Ai hS F h
 ·obtain⟨au,bg,h⟩:=un h;refine go hS F ?_;refine Bz au (λz:Nat=>⟨[(0,BP l38)],[],z⟩) (λz=>(.inl ():Sum Unit Bool)) (.x 0) ?_ ?_
  ·refine Bp (λn (y:Int×Nat)=>C1 N l38 n y.1) (λy=>⟨[(0,BP l38),(3,.i y.1)],[],y.2⟩) (0,3) bg (Ch F) ?_;rintro n ⟨ah,bn⟩ aa;simp only[C1]at aa;refine An hS F aa (λ_ aa=>?_) (λ_ aa=>?_)
   ·obtain⟨⟨x47,x48⟩,bb,aa⟩:=un aa;obtain⟨cj,F⟩:=Cb Cz bb F;obtain⟨bi,ba,aa⟩:=un aa;replace F:=fc ba F;refine An hS F aa (λ_ aa=>?_) (λ_ aa=>?_)
    ·obtain rfl:=yJ aa;exact Ai hS F h
    ·obtain⟨bv,aa⟩:=un aa;exact Cd hS F (n,ah+1,bn+1+1+1) aa
   ·exact B4 hS F (bn+1) aa
  ·rintro cy rfl;obtain⟨an,cr,h⟩:=un h;refine go hS F ?_;refine Bz an (λz:Nat=>⟨[],[],z⟩) (λz=>(.inl ():Sum Unit Bool)) (.x 2) ?_ ?_
   ·refine Bp (λn (y:Int×Nat)=>CA N l38 n y.1) (λy=>⟨[(0,BP l38),(4,.i y.1)],[],y.2⟩) (0,cy+1) cr (Ch F) ?_;rintro n ⟨i67,bm⟩ ae;simp only[CA]at ae;refine An hS F ae (λ_ ae=>?_) (λ_ ae=>?_)
    ·obtain⟨aq,cq,ae⟩:=un ae;refine go hS F ?_;refine Bz aq (λz:Nat=>⟨[(0,BP l38),(4,.i i67)],[],z⟩) (λz=>(.inl ():Sum Unit Bool)) (.x 4) ?_ ?_
     ·refine Bp (λn (y:Int×Nat)=>Ck N l38 i67 n y.1) (λy=>⟨[(0,BP l38),(4,.i i67),(5,.i y.1)],[],y.2⟩) (0,bm+1+1) cq (Ch F) ?_;rintro n ⟨k70,bl⟩ ab;simp only[Ck]at ab;refine An hS F ab (λ_ ab=>?_) (λ_ ab=>?_)
      ·obtain⟨da,cz,ci,ce,b9,b7,ab⟩:=un ab;refine An hS F ab (λ_ ab=>?_) (λ_ ab=>?_)
       ·obtain rfl:=yJ ab;obtain rfl:=yJ ae;exact Ai hS F h
       ·obtain⟨bz,ab⟩:=un ab;exact Cd hS F (n,k70+1,bl+1+1+1) ab
      ·exact B4 hS F (bl+1) ab
     ·rintro cu rfl;obtain⟨bw,ae⟩:=un ae;exact Cd hS F (n,i67+1,cu+1) ae
    ·exact B4 hS F (bm+1) ae
   ·rintro dg rfl;exact Ai hS F h
def EX(N:Nat)(l81:List (Int×Int))(ak:Int)(aj:Int):Option ((List (Int×Int))×(List (Int×Int))×Int):=(Cj N l81).bind λbh=>bif ((((!bh)||(decide (ak<0)))||(decide ((l81.length:Int)<=ak)))||(decide (aj<0)))||(decide ((l81.length:Int)<=aj))then(some ([],[],70))else((Fx N l81 ak aj).bind λr86=>(Fx N l81 aj ak).bind λr88=>bif (decide ((r86.length:Int)<3))||(decide ((r88.length:Int)<3))then(some ([],[],70))else(some (r86,r88,0)))
@[go_sem] def AdK(N:Nat):Spec:=p0<|(Aon Aq<|Aoi<|Aoi<|Aof<|Aog ([],[],0) λr=>.tup [BP r.1,BP r.2.1,.i r.2.2]) (EX N)
theorem xU(N:Nat):AG Tryz.prog 107 (AdK N):=by
 refine fk (Aoq AlC (Ab (SB N)<|Ab (xT N)<|Aj)) ?_;intro l81 ak aj r h _ hS F;dsimp only[AlC,Ah,Aq];unfold EX at h;obtain⟨bh,az,h⟩:=un h;replace F:=fc az F;refine An hS F h (λ_ h=>?_) (λ_ h=>?_)
 ·exact Ai hS F h
 ·obtain⟨r86,ay,r88,av,h⟩:=un h;replace F:=fc av (fc ay F);refine An hS F h (λ_ h=>?_) (λ_ h=>?_)
  ·exact Ai hS F h
  ·exact Ai hS F h
