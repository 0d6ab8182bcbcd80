import Derived.Test.YtciphecegkfaiaaGreatD8
set_option linter.unusedSimpArgs false
set_option linter.unusedVariables false
noncomputable section
namespace Go.Proofs.YtciphecegkfaiaaGreat.Am
theorem AG{E:Type}(b:Bool)(h:b=true)(x y:E):(bif b then x else y)=x:=by subst h;rfl
theorem Az{E:Type}(b:Bool)(h:b=false)(x y:E):(bif b then x else y)=y:=by subst h;rfl
theorem bS'{E J:Type}(o:Option E)(a:E)(h:o=some a)(f:E->Option J):o.bind f=f a:=by subst h;rfl
theorem cT{E:Type}(x y:E):(bif true then x else y)=x:=AG _ rfl x y
theorem cF{E:Type}(x y:E):(bif false then x else y)=y:=Az _ rfl x y
theorem bS{E J:Type}(a:E)(f:E->Option J):(some a).bind f=f a:=bS' _ a rfl f
theorem Se{J:Type}{L:Nat->Int->Option (Sum Unit J)}{len:Nat}(f:Nat->Option J)(h1:∀n (k:Nat),k<len->f k=none->L (n+1) k=L n ((k+1:Nat):Int))(h2:∀n (k:Nat) r,k<len->f k=some r->L (n+1) k=some (.inr r))(h3:∀n,L (n+1) len=some (.inl ())):∀(n k:Nat),k<=len->len<n+k->(L n k=some (.inl ())/\∀j,k<=j->j<len->f j=none)\/∃j r,k<=j/\j<len/\f j=some r/\(∀i,k<=i->i<j->f i=none)/\L n k=some (.inr r)
 |0,k,hk,hn=>by omega
 |n+1,k,hk,hn=>by
  by_cases he:k=len
  ·subst he;exact .inl ⟨h3 n,λj h1 h2=>by omega⟩
  cases hf:f k with
  |some r=>exact .inr ⟨k,r,fA _,by omega,hf,λi _ _=>by omega,h2 n k r (by omega) hf⟩
  |none=>
   rw[h1 n k (by omega) hf];rcases Se f h1 h2 h3 n (k+1) (by omega) (by omega)with⟨e,h⟩|⟨j,r,a1,a2,a3,a4,a5⟩
   ·refine .inl ⟨e,λj hj hl=>?_⟩;by_cases hjk:j=k
    ·rw[hjk];exact hf
    ·exact h j (by omega) hl
   ·refine .inr ⟨j,r,by omega,a2,a3,λi h1 h2=>?_,a5⟩;by_cases hik:i=k
    ·rw[hik];exact hf
    ·exact a4 i (by omega) h2
theorem Hh{J:Type}{L:Nat->Int->Option (Sum Unit J)}{len:Nat}(f:Nat->Option J)(h1:∀n (k:Nat),k<len->f k=none->L (n+1) k=L n ((k+1:Nat):Int))(h2:∀n (k:Nat) r,k<len->f k=some r->L (n+1) k=some (.inr r))(h3:∀n,L (n+1) len=some (.inl ()))(n:Nat)(hn:len<n):(L n 0=some (.inl ())/\∀j,j<len->f j=none)\/∃j r,j<len/\f j=some r/\(∀i,i<j->f i=none)/\L n 0=some (.inr r):=by
 have:=Se f h1 h2 h3 n 0 (by omega) (by omega);rw[mK]at this;rcases this with⟨e,h⟩|⟨j,r,a1,a2,a3,a4,e⟩
 ·exact .inl ⟨e,λj hj=>h j (by omega) hj⟩
 ·exact .inr ⟨j,r,a2,a3,λi hi=>a4 i (by omega) hi,e⟩
theorem ns(k:Nat):((k+1:Nat):Int)=(k:Int)+1:=by omega
theorem Mo(i n:Nat):((i:Int)+1).tmod (n:Int)=(((i+1)%n:Nat):Int):=by rw[Int.tmod_eq_emod_of_nonneg (by omega)];rfl
theorem DI{l:List Pt}{i:Nat}(h:i<l.length):AA l (i:Int)=some ((pa l i).1,(pa l i).2):=by rw[Km (0,0) (by omega) (by omega),uS];rfl
theorem A8{E:Type}{p q:Prop}[Decidable p][Decidable q]{k:Option E}(h:p->q):gd (p->q) k=k:=Aa h
theorem UG{a b c:Pt}(ha:BH a)(hb:BH b)(hc:BH c): -2000000<=Ah a b c/\Ah a b c<=2000000:=by unfold BH at*;have h1:=Ng (x:=b.1-a.1) (y:=c.2-a.2) (by omega) (by omega);have h2:=Ng (x:=b.2-a.2) (y:=c.1-a.1) (by omega) (by omega);unfold Ah;omega
theorem Nv{N:Nat}{a b c:Pt}(ha:BH a)(hb:BH b)(hc:BH c):Ee N a.1 a.2 b.1 b.2 c.1 c.2=some (Ah a b c):=by unfold BH at*;have h1:=Ng (x:=b.1-a.1) (y:=c.2-a.2) (by omega) (by omega);have h2:=Ng (x:=b.2-a.2) (y:=c.1-a.1) (by omega) (by omega);unfold Ee Ah;rw[Aa (by unfold Ab;omega),Aa (by unfold Ab;omega),Aa (by unfold Ab;omega),Aa (by unfold Ab;omega),Aa (by unfold Ab;omega),Aa (by unfold Ab;omega),Aa (by unfold Ab;omega)]
theorem QX{N:Nat}{a b c:Pt}(ha:BH a)(hb:BH b)(hc:BH c):DV N a.1 a.2 b.1 b.2 c.1 c.2=some (Ah a b c):=by unfold BH at*;have h1:=Ng (x:=b.1-a.1) (y:=c.2-a.2) (by omega) (by omega);have h2:=Ng (x:=b.2-a.2) (y:=c.1-a.1) (by omega) (by omega);unfold DV Ah;rw[Aa (by unfold Ab;omega),Aa (by unfold Ab;omega),Aa (by unfold Ab;omega),Aa (by unfold Ab;omega),Aa (by unfold Ab;omega),Aa (by unfold Ab;omega),Aa (by unfold Ab;omega)]
def On(p:Pt):Prop:=(0<=p.1/\p.1<=40)/\(0<=p.2/\p.2<=40)
instance(p:Pt):Decidable (On p):=inferInstanceAs (Decidable ((_/\_)/\(_/\_)))
theorem On.sml{p:Pt}(h:On p):BH p:=by unfold On at h;unfold BH;omega
structure VP(l:List Pt):Prop where
 l3:3<=l.length
 l8:l.length<=8
 on:∀p∈l,On p
 cv:Conv l
open Classical in
def vB(l:List Pt):Bool:=decide (VP l)
theorem I3{l:List Pt}:vB l=true↔VP l:=by unfold vB;simp
theorem Ia{l:List Pt}:vB l=false↔¬VP l:=by unfold vB;simp
theorem VL(N:Nat)(p:Pt):Gz N p.1 p.2=some (!decide (On p)):=by
 unfold Gz;congr 1;by_cases h:On p
 ·rw[dC h];unfold On at h;simp only[T8,Fj,eS];omega
 ·rw[dJ h];unfold On at h;simp only[S4,tV,eR];omega
open Classical in
theorem VM{N:Nat}{l:List Pt}(hN:100<=N)(hl:l.length<=50):Bc N l=some (decide (∃p∈l,¬On p)):=by
 unfold Bc CM;have key:=Hh (L:=AX N l) (len:=l.length) (λi=>if On (pa l i)then none else some (i:Int)) (λn k hk hf=>by
   rw[AX];have e1:decide ((k:Int)<(l.length:Int))=true:=by simp;omega
   have hon:On (pa l k):=by
    by_cases h:On (pa l k)
    ·exact h
    ·simp[h]at hf
   rw[e1,cT,DI hk];simp only[bS];rw[VL];simp only[bS,hon,decide_true,T8,cF];rw[Aa (by unfold Ab;omega),ns]) (λn k r hk hf=>by
   rw[AX];have e1:decide ((k:Int)<(l.length:Int))=true:=by simp;omega
   have hon:¬On (pa l k):=λh=>by simp[h]at hf
   rw[eW hon]at hf;rw[e1,cT,DI hk];simp only[bS];rw[VL];simp only[bS,hon,decide_false,S4,cT];rw[<-yJ hf]) (λn=>by
   rw[AX];have e1:decide ((l.length:Int)<(l.length:Int))=false:=by simp
   rw[e1,cF]) N (by omega)
 rcases key with⟨e,h⟩|⟨j,r,a2,a3,a4,e⟩
 ·rw[e];simp only[bS];congr 1;symm;simp only[show decide ((0:Int)<=-1)=false from rfl,eS];rintro⟨p,hp,hn⟩;obtain⟨i,hi,rfl⟩:=H0 hp;have:=h i hi;simp[hn]at this
 ·rw[e];simp only[bS];by_cases hon:On (pa l j)
  ·simp[hon]at a3
  ·simp only[hon,if_false,yE]at a3;subst a3;congr 1;rw[show decide ((0:Int)<=(j:Int))=true from by simp];symm;simp only[eR];exact⟨_,AN a2,hon⟩
open Classical in
theorem lH{N:Nat}{l:List Pt}(hl:l.length<=50)(ho:∀p∈l,BH p){i:Nat}(hi:i<l.length)(n:Nat)(hn:l.length<n):Dz N l i (pa l i).1 (pa l i).2 n 0=some (if∀k,k<l.length->k≠i->k≠(i+1)%l.length->0<Ah (pa l i) (pa l ((i+1)%l.length)) (pa l k)then .inl ()else .inr false):=by
 have hm:(i+1)%l.length<l.length:=uM _ (by omega);have step:∀n (k:Nat),k<l.length->Dz N l i (pa l i).1 (pa l i).2 (n+1) k=if(k≠i/\k≠(i+1)%l.length)/\Ah (pa l i) (pa l ((i+1)%l.length)) (pa l k)<=0 then some (.inr false)else Dz N l i (pa l i).1 (pa l i).2 n ((k+1:Nat):Int):=λn k hk=>by
  rw[Dz];have e1:decide ((k:Int)<(l.length:Int))=true:=by simp;omega
  have tu:=Nv (N:=N) (ho _ (AN hi)) (ho _ (AN hm)) (ho _ (AN hk));have e2:(l.getD (((i+1)%l.length:Nat):Int).toNat (0,0))=pa l ((i+1)%l.length):=by rw[uS];rfl
  rw[e1,cT,DI hk];simp only[bS,Mo,e2,tu,fD,mN];rw[Aa (λ_=>⟨by omega,by omega⟩),Aa (λ_=>yT),Aa (by unfold Ab;omega)];by_cases h:(k≠i/\k≠(i+1)%l.length)/\Ah (pa l i) (pa l ((i+1)%l.length)) (pa l k)<=0
  ·rw[eX h];have e3:(((decide ((k:Int)≠(i:Int)))&&(decide ((k:Int)≠(((i+1)%l.length:Nat):Int))))&&(decide (Ah (pa l i) (pa l ((i+1)%l.length)) (pa l k)<=0)))=true:=by obtain⟨⟨h1,h2⟩,h3⟩:=h;simp only[lP,eR];exact⟨⟨by omega,by omega⟩,h3⟩
   rw[e3,cT]
  ·rw[eW h];have e3:(((decide ((k:Int)≠(i:Int)))&&(decide ((k:Int)≠(((i+1)%l.length:Nat):Int))))&&(decide (Ah (pa l i) (pa l ((i+1)%l.length)) (pa l k)<=0)))=false:=by rw[w6];intro hb;simp only[lP,eR]at hb;exact h ⟨⟨by omega,by omega⟩,hb.2⟩
   rw[e3,cF,ns]
 have key:=Hh (L:=Dz N l i (pa l i).1 (pa l i).2) (len:=l.length) (λk=>if(k≠i/\k≠(i+1)%l.length)/\Ah (pa l i) (pa l ((i+1)%l.length)) (pa l k)<=0 then some false else none)
  (λn k hk hf=>by
   rw[step n k hk,eW];intro h;rw[eX h]at hf;cases hf) (λn k r hk hf=>by
   by_cases h:(k≠i/\k≠(i+1)%l.length)/\Ah (pa l i) (pa l ((i+1)%l.length)) (pa l k)<=0
   ·rw[step n k hk,eX h];rw[eX h]at hf;cases hf;rfl
   ·rw[eW h]at hf;cases hf) (λn=>by
   rw[Dz];have e1:decide ((l.length:Int)<(l.length:Int))=false:=by simp
   rw[e1,cF]) n (by omega)
 rcases key with⟨e,h⟩|⟨j,r,a2,a3,a4,e⟩
 ·rw[e,eX];intro k hk h1 h2;have:=h k hk;rcases Nz 0 (Ah (pa l i) (pa l ((i+1)%l.length)) (pa l k))with h3|h3
  ·exact h3
  ·rw[eX ⟨⟨h1,h2⟩,h3⟩]at this;cases this
 ·rw[e];split at a3
  ·rename_i h;cases a3
   rw[eW];intro hA;have:=hA j a2 h.1.1 h.1.2;omega
  ·cases a3
open Classical in
theorem F5{N:Nat}(hN:100<=N)(l:List Pt):BO N l=some (vB l):=by
 unfold BO;by_cases hl:l.length<3\/8<l.length
 ·have e1:((decide ((l.length:Int)<3))||(decide (8<(l.length:Int))))=true:=by simp;omega
  have e2:vB l=false:=Ia.2 λh=>by have:=h.l3;have:=h.l8;omega
  simp only[e1,T8,yF,Bool.true_or,cT,e2];rw[Aa (λh=>by simp at h)]
 have e1:((decide ((l.length:Int)<3))||(decide (8<(l.length:Int))))=false:=by simp;omega
 rw[Aa (λ_=>by rw[VM hN (by omega)];rfl),VM hN (by omega)];simp only[e1,Bool.false_or,mN];by_cases ho:∃p∈l,¬On p
 ·rw[show decide (∃p∈l,¬On p)=true from by simpa using ho,cT];have e2:vB l=false:=Ia.2 λh=>by obtain⟨p,hp,hn⟩:=ho;exact hn (h.on p hp)
  rw[e2]
 rw[show decide (∃p∈l,¬On p)=false from by simpa using ho,cF];have hon:∀p∈l,On p:=λp hp=>by
  by_cases h:On p
  ·exact h
  ·exact absurd ⟨p,hp,h⟩ ho
 have hs:∀p∈l,BH p:=λp hp=>(hon p hp).sml
 have step:∀n (i:Nat),i<l.length->D9 N l (n+1) i=if∀k,k<l.length->k≠i->k≠(i+1)%l.length->0<Ah (pa l i) (pa l ((i+1)%l.length)) (pa l k)then D9 N l n ((i+1:Nat):Int)else some (.inr false):=λn i hi=>by
  rw[D9];have e1:decide ((i:Int)<(l.length:Int))=true:=by simp;omega
  rw[e1,cT,DI hi];simp only[bS];rw[Aa (by unfold Ab;omega),Aa (by omega),lH (by omega) hs hi N (by omega)];split
  ·simp only[bS];rw[Aa (by unfold Ab;omega),ns]
  ·simp only[bS]
 have key:=Hh (L:=D9 N l) (len:=l.length) (λi=>if∀k,k<l.length->k≠i->k≠(i+1)%l.length->0<Ah (pa l i) (pa l ((i+1)%l.length)) (pa l k)then none else some false)
  (λn k hk hf=>by
   rw[step n k hk];split
   ·rfl
   ·rename_i h;simp[eW h]at hf) (λn k r hk hf=>by
   rw[step n k hk];split
   ·rename_i h;rw[eX h]at hf;cases hf
   ·rename_i h;rw[eW h]at hf;cases hf;rfl) (λn=>by
   rw[D9];have e1:decide ((l.length:Int)<(l.length:Int))=false:=by simp
   rw[e1,cF]) N (by omega)
 rcases key with⟨e,h⟩|⟨j,r,a2,a3,a4,e⟩
 ·rw[e];simp only[bS];congr 1;symm;refine I3.2 ⟨by omega,by omega,hon,λi k hi hk n1 n2=>?_⟩;have:=h i hi;split at this
  ·rename_i h;exact h k hk n1 n2
  ·cases this
 ·rw[e];simp only[bS];split at a3
  ·cases a3
  ·rename_i h;cases a3
   congr 1;symm;exact Ia.2 λhv=>h λk hk n1 n2=>hv.cv j k a2 hk n1 n2
theorem Jq{N:Nat}(hN:100<=N){l:List Pt}(h:VP l):BO N l=some true:=by rw[F5 hN,I3.2 h]
def pk(c n:Int):Int:=if c<0 then(-(c+1)).tmod n else c.tmod n
theorem Gu{c n:Int}(hn:0<n):0<=pk c n/\pk c n<n:=by
 unfold pk;split
 ·exact⟨Int.tmod_nonneg _ (by omega),Int.tmod_lt_of_pos _ hn⟩
 ·exact⟨Int.tmod_nonneg _ (by omega),Int.tmod_lt_of_pos _ hn⟩
theorem QY{N:Nat}{c n:Int}(hc:Ab c)(hn:0<n):EI N c n=some (pk c n):=by
 unfold EI pk;unfold Ab at hc;by_cases h:c<0
 ·rw[dC h,cT,eX h,Aa (by unfold Ab;omega),Aa (by unfold Ab;omega),Aa (by omega)]
 ·rw[dJ h,cF,eW h,Aa (by omega)]
theorem P8{l:List Pt}{i:Nat}(h:i<l.length):l.drop i=pa l i::l.drop (i+1):=by rw[D2 h];exact mL h
theorem Ch{k n:Nat}(h:k<n):decide ((k:Int)<(n:Int))=true:=by simp;omega
theorem CT(n:Nat):decide ((n:Int)<(n:Int))=false:=by simp
theorem ptE{p q:Pt}:(decide (p.1=q.1)&&decide (p.2=q.2))=decide (p=q):=by rw[Sw];simp only[lP,eR];exact⟨λh=>Rl h.1 h.2,λh=>by rw[h];exact⟨rfl,rfl⟩⟩
theorem Nh{n k i j:Nat}(hi:i<n)(hj:j<n)(h:(k+i)%n=(k+j)%n):i=j:=by
 have h1:((k%n+i)%n)=((k%n+j)%n):=by simpa[Nat.add_mod]using h
 have hk:k%n<n:=uM _ (by omega);generalize k%n=m at*;by_cases a:m+i<n<;>by_cases b:m+j<n
 ·rw[tT a,tT b]at h1;omega
 ·rw[tT a,Nat.mod_eq_sub_mod (by omega),tT (by omega)]at h1;omega
 ·rw[tT b,Nat.mod_eq_sub_mod (by omega),tT (by omega)]at h1;omega
 ·rw[Nat.mod_eq_sub_mod (by omega),tT (by omega),Nat.mod_eq_sub_mod (by omega:n<=m+j),tT (by omega)]at h1;omega
def α(l:List Pt)(i:Nat)(p:Pt):Int:=Ah (pa l i) (pa l ((i+1)%l.length)) p
def inn(l:List Pt)(p:Pt):Prop:=∀i,i<l.length->0<α l i p
def clo(l:List Pt)(p:Pt):Prop:=∀i,i<l.length->0<=α l i p
theorem inn.clo{l:List Pt}{p:Pt}(h:inn l p):clo l p:=λi hi=>zX (h i hi)
open Classical in
def sd(l:List Pt)(p:Pt):Int:=if inn l p then 1 else if clo l p then 0 else-1
theorem zJ{l:List Pt}{p:Pt}:sd l p=1↔inn l p:=by
 unfold sd;split
 ·simp[*]
 ·split<;>simp[*]
theorem Pp{l:List Pt}{p:Pt}:sd l p=0↔clo l p/\¬inn l p:=by
 unfold sd;split
 ·simp[*]
 ·split<;>simp[*]
theorem lI(l:List Pt)(p:Pt):sd l p=1\/sd l p=0\/sd l p= -1:=by
 unfold sd;split
 ·simp
 ·split<;>simp
theorem HF{l:List Pt}{e:Pt×Pt}:e∈Bu l↔∃i,i<l.length/\e=(pa l i,pa l ((i+1)%l.length)):=by unfold Bu;simp only[tI,Sv];exact⟨λ⟨i,h,e⟩=>⟨i,h,e.symm⟩,λ⟨i,h,e⟩=>⟨i,h,e.symm⟩⟩
theorem I4{l:List Pt}(hs:∀p∈l,BH p):∀e∈Bu l,BH e.1/\BH e.2:=λe he=>by obtain⟨i,hi,rfl⟩:=HF.1 he;exact⟨hs _ (AN hi),hs _ (AN (uM _ (by omega)))⟩
theorem LP(N:Nat)(x y:Int):DK N x y=some (if x<y then-1 else if y<x then 1 else 0):=by
 unfold DK HC;rw[dJ (by simp),bS,dJ (by simp),bS,cF,cF];by_cases h:x<y
 ·rw[dC h,cT,eX h]
 ·rw[dJ h,cF,eW h];by_cases h:y<x
  ·rw[dC h,cT,eX h]
  ·rw[dJ h,cF,eW h]
theorem VP.sml{l:List Pt}(h:VP l):∀p∈l,BH p:=λp hp=>(h.on p hp).sml
theorem lK{f:Pt->Pt}{l:List Pt}{i:Nat}(hi:i<l.length)(v:Pt):((l.take i).map f++l.drop i).set i v=(l.take i).map f++v::l.drop (i+1):=by
 have e:((l.take i).map f).length=i:=by simp;omega
 rw[P8 hi,List.set_append_right _ _ (by omega),e,X2,List.set_cons_zero]
theorem dD{f:Pt->Pt}{l:List Pt}{i:Nat}(hi:i<l.length)(u v:Pt):((l.take i).map f++u::l.drop (i+1)).set i v=(l.take i).map f++v::l.drop (i+1):=by
 have e:((l.take i).map f).length=i:=by simp;omega
 rw[List.set_append_right _ _ (by omega),e,X2,List.set_cons_zero]
theorem VO{f:Pt->Pt}{l R:List Pt}{i:Nat}(hi:i<l.length)(u:Pt):AA ((l.take i).map f++u::R) (i:Int)=some u:=by
 have e:((l.take i).map f).length=i:=by simp;omega
 rw[C7,Ja (by omega),e,X2];rfl
theorem lN{f:Pt->Pt}{l:List Pt}{i:Nat}(hi:i<l.length):(l.take i).map f++f (pa l i)::l.drop (i+1)=(l.take (i+1)).map f++l.drop (i+1):=by rw[Pq hi,w9,List.map_singleton,<-D2 hi,qV];rfl
theorem VP.ne{l:List Pt}(h:VP l){i:Nat}(hi:i<l.length):pa l i≠pa l ((i+1)%l.length):=λe=>by
 have l3:=h.l3;obtain⟨k,hk,n1,n2⟩:∃k,k<l.length/\k≠i/\k≠(i+1)%l.length:=by
  by_cases h0:0≠i/\0≠(i+1)%l.length
  ·exact⟨0,by omega,h0.1,h0.2⟩
  by_cases h1:1≠i/\1≠(i+1)%l.length
  ·exact⟨1,by omega,h1.1,h1.2⟩
  exact⟨2,by omega,by omega,by omega⟩
 have:=h.cv i k hi hk n1 n2;rw[<-e,TN]at this;omega
theorem FK{f:Pt->Pt}{l:List Pt}{i:Nat}(h:i<l.length):pa (l.map f) i=f (pa l i):=by rw[D2 (by simpa using h),List.getElem_map,D2 h]
def EdS(es:List (Pt×Pt)):Prop:=∀e∈es,BH e.1/\BH e.2
theorem EdS.tl{e:Pt×Pt}{es:List (Pt×Pt)}(h:EdS (e::es)):EdS es:=λx hx=>h x (by simp[hx])
def QC(o:Pt)(e:Pt×Pt):Int:=Ah o e.1 e.2
def Hi(l:List Pt):Int:=((Bu l).map (QC (pa l 0))).sum
theorem oY{o:Pt}{e:Pt×Pt}(ho:BH o)(h:BH e.1/\BH e.2): -2000000<=QC o e/\QC o e<=2000000:=UG ho h.1 h.2
theorem TS(N:Nat){l:List Pt}(hl:0<l.length)(hs:∀p∈l,BH p):∀(es:List (Pt×Pt))(k:Nat)(o:Int),EdS es->k+es.length<=1000->(-3000000*k<=o/\o<=3000000*k)->EJ N l es o=some (o+(es.map (QC (pa l 0))).sum)
 |[],k,o,h,hk,hb=>by simp[EJ]
 |e::es,k,o,h,hk,hb=>by have he:=h e (by simp);have ho:=hs _ (AN hl);have b:=oY ho he;rw[show e=((e.1.1,e.1.2),(e.2.1,e.2.2))from rfl,EJ,show AA l 0=some ((pa l 0).1,(pa l 0).2)from DI (i:=0) hl,bS];simp only;simp only[pC]at hk;rw[Nv ho he.1 he.2,bS,Aa (by unfold Ab;unfold QC at b;omega),TS N hl hs es (k+1) _ h.tl (by omega) (by unfold QC at b;omega),eZ,List.sum_cons,Int.add_assoc];rfl
theorem X5{N:Nat}(hN:100<=N){l:List Pt}(h:VP l):GA N l=some (Hi l):=by unfold GA;have l3:=h.l3;have l8:=h.l8;have:=TS N (l:=l) (by omega) h.sml (Bu l) 0 0 (I4 h.sml) (by rw[Kx];omega) (by omega);rw[Jq hN h,bS,Az _ (by rfl),Aa (by omega),this,bS,X3];rfl
theorem Qb{E:Type}(f:E->Int)(B:Int):∀(es:List E),(∀e∈es,-B<=f e/\f e<=B)->-B*es.length<=(es.map f).sum/\(es.map f).sum<=B*es.length
 |[],_=>by simp
 |e::es,h=>by
  have h1:=h e (by simp);have h2:=Qb f B es λx hx=>h x (by simp[hx])
  simp only[eZ,List.sum_cons,pC,ns];rw[Int.mul_add,Int.mul_add];omega
theorem VS{l:List Pt}(h:VP l): -16000000<=Hi l/\Hi l<=16000000:=by
 have l3:=h.l3;have l8:=h.l8;have:=Qb (QC (pa l 0)) 2000000 (Bu l) λe he=>by have:=oY (h.sml _ (AN (i:=0) (by omega))) (I4 h.sml e he);omega
 rw[Kx]at this;unfold Hi;omega
def qa(l:List Pt)(t:Nat):Pt:=pa l (t%l.length)
theorem Jr{l:List Pt}{t:Nat}(h:t<l.length):qa l t=pa l t:=by unfold qa;rw[tT h]
theorem ID(l:List Pt)(t:Nat):qa l (t+l.length)=qa l t:=by unfold qa;rw[Nat.add_mod_right]
theorem IE{l:List Pt}(h:0<l.length)(t:Nat):qa l t∈l:=AN (uM _ h)
theorem Sf{n s a b:Nat}(ha:a<n)(hb:b<n)(h:a≠b):(s+a)%n≠(s+b)%n:=λe=>h (Nh ha hb e)
theorem Ib{l:List Pt}(h:Conv l){s a:Nat}(h2:2<=a)(ha:a<l.length):0<Ah (qa l s) (qa l (s+1)) (qa l (s+a)):=by
 have hn:0<l.length:=by omega
 have e:=h (s%l.length) ((s+a)%l.length) (uM _ hn) (uM _ hn) (λe=>Sf (s:=s) (by omega:a<l.length) (by omega:0<l.length) (by omega) (by simpa using e)) (λe=>Sf (s:=s) (by omega:a<l.length) (by omega:1<l.length) (by omega) (by rw[e,Tn]));rw[Tn]at e;exact e
theorem Ll{l:List Pt}(h:Conv l)(s a:Nat)(h1:1<=a):∀d,a+d+1<l.length->0<Ah (qa l s) (qa l (s+a)) (qa l (s+(a+d+1)))
 |0,hd=>by have e:=Ib h (s:=s+a) (a:=l.length-a) (by omega) (by omega);rw[show s+a+(l.length-a)=s+l.length by omega,ID,G4,G4]at e;have e2:=G4 (qa l s) (qa l (s+a)) (qa l (s+a+1));rw[show s+(a+0+1)=s+a+1 by omega];have e3:=G4 (qa l (s+a)) (qa l (s+a+1)) (qa l s);omega
 |d+1,hd=>by
  have ih:=Ll h s a h1 d (by omega);have ed:=Ll h s (a+d+1) (by omega) 0 (by omega);rw[show s+(a+d+1+0+1)=s+(a+(d+1)+1) by omega]at ed;have lb:0<Ah (qa l s) (qa l (s+1)) (qa l (s+(a+d+1))):=Ib h (by omega) (by omega);have lc:0<Ah (qa l s) (qa l (s+1)) (qa l (s+(a+(d+1)+1))):=Ib h (by omega) (by omega);have la:0<=Ah (qa l s) (qa l (s+1)) (qa l (s+a)):=by
   by_cases e:a=1
   ·rw[e,D1];omega
   ·exact zX (Ib h (by omega) (by omega))
  generalize qa l (s+1)=v at*;generalize qa l (s+(a+(d+1)+1))=C at*;generalize qa l (s+(a+d+1))=B at*;generalize qa l (s+a)=A at*;generalize qa l s=o at*;have key:Ah o v B*Ah o A C=Ah o v A*Ah o B C+Ah o v C*Ah o A B:=by unfold Ah;grind
  have k1:0<=Ah o v A*Ah o B C:=mM la (by omega);have k2:=CX lc ih;exact Jn lb (by omega)
theorem dE(N:Nat)(p:Pt):F2 N p.1 p.2=some (decide (On p)):=by
 unfold F2;congr 1;by_cases h:On p
 ·rw[dC h];unfold On at h;simp only[lP,eR];omega
 ·rw[dJ h];unfold On at h;rw[w6];simp only[ne_eq,lP,eR];omega
theorem Nx(N:Nat){l:List Pt}{i:Nat}(hl:l.length<=1000)(h:i<l.length):Ci N l i=some (pa l ((i+1)%l.length)):=by unfold Ci;rw[Aa (by unfold Ab;omega),Aa (by omega),Mo,DI (uM _ (by omega)),bS]
open Classical in
theorem dF{N:Nat}{l:List Pt}(hl:l.length<=50)(ho:∀p∈l,BH p){i:Nat}(hi:i<l.length)(n:Nat)(hn:l.length<n):Cb N l i n 0=some (if∀k,k<l.length->k≠i->k≠(i+1)%l.length->0<Ah (pa l i) (pa l ((i+1)%l.length)) (pa l k)then .inl ()else .inr false):=by
 have hm:(i+1)%l.length<l.length:=uM _ (by omega);have step:∀n (k:Nat),k<l.length->Cb N l i (n+1) k=if(k≠i/\k≠(i+1)%l.length)/\Ah (pa l i) (pa l ((i+1)%l.length)) (pa l k)<=0 then some (.inr false)else Cb N l i n ((k+1:Nat):Int):=λn k hk=>by
  rw[Cb];have tu:=QX (N:=N) (ho _ (AN hi)) (ho _ (AN hm)) (ho _ (AN hk));have e2:l.getD (i:Int).toNat (0,0)=pa l i:=by rw[uS];rfl
  have e3:l.getD (k:Int).toNat (0,0)=pa l k:=by rw[uS];rfl
  rw[Ch hk,cT,Nx N (by omega) hi,e2,e3,mN,tu,Mo,mN];rw[Aa (λ_=>by unfold Ab;omega),Aa (λ_=>by omega),Aa (λ_=>⟨by omega,by omega⟩),Aa (λ_=>fD),Aa (λ_=>⟨by omega,by omega⟩),Aa (λ_=>fD),Aa (by unfold Ab;omega)];by_cases h:(k≠i/\k≠(i+1)%l.length)/\Ah (pa l i) (pa l ((i+1)%l.length)) (pa l k)<=0
  ·rw[eX h];rw[AG _ (by obtain⟨⟨h1,h2⟩,h3⟩:=h;simp only[lP,eR];exact⟨⟨by omega,by omega⟩,h3⟩)]
  ·rw[eW h];rw[Az _ (by rw[w6];intro hb;simp only[lP,eR]at hb;exact h ⟨⟨by omega,by omega⟩,hb.2⟩),ns]
 have key:=Hh (L:=Cb N l i) (len:=l.length) (λk=>if(k≠i/\k≠(i+1)%l.length)/\Ah (pa l i) (pa l ((i+1)%l.length)) (pa l k)<=0 then some false else none)
  (λn k hk hf=>by
   rw[step n k hk,eW];intro h;rw[eX h]at hf;cases hf) (λn k r hk hf=>by
   by_cases h:(k≠i/\k≠(i+1)%l.length)/\Ah (pa l i) (pa l ((i+1)%l.length)) (pa l k)<=0
   ·rw[step n k hk,eX h];rw[eX h]at hf;cases hf;rfl
   ·rw[eW h]at hf;cases hf) (λn=>by
   rw[Cb,CT,cF]) n (by omega)
 rcases key with⟨e,h⟩|⟨j,r,a2,a3,a4,e⟩
 ·rw[e,eX];intro k hk h1 h2;have:=h k hk;rcases Nz 0 (Ah (pa l i) (pa l ((i+1)%l.length)) (pa l k))with h3|h3
  ·exact h3
  ·rw[eX ⟨⟨h1,h2⟩,h3⟩]at this;cases this
 ·rw[e];split at a3
  ·rename_i h;cases a3
   rw[eW];intro hA;have:=hA j a2 h.1.1 h.1.2;omega
  ·cases a3
open Classical in
theorem D3{N:Nat}(hN:100<=N)(l:List Pt):Bo N l=some (vB l):=by
 unfold Bo;by_cases hl:l.length<3\/8<l.length
 ·have e2:vB l=false:=Ia.2 λh=>by have:=h.l3;have:=h.l8;omega
  rw[AG _ (by simp;omega),e2]
 rw[Az _ (by simp;omega)];have key:=Hh (L:=C4 N l) (len:=l.length) (λi=>if On (pa l i)then none else some false) (λn k hk hf=>by
   rw[C4];have hon:On (pa l k):=by
    by_cases h:On (pa l k)
    ·exact h
    ·simp[h]at hf
   rw[Ch hk,cT,DI hk,bS];simp only;rw[dE,bS,dC hon,Az _ (by rfl),Aa (by unfold Ab;omega),ns]) (λn k r hk hf=>by
   rw[C4];have hon:¬On (pa l k):=λh=>by simp[h]at hf
   rw[eW hon]at hf;rw[Ch hk,cT,DI hk,bS];simp only;rw[dE,bS,dJ hon,AG _ (by rfl),<-yJ hf]) (λn=>by
   rw[C4,CT,cF]) N (by omega)
 rcases key with⟨e,h⟩|⟨j,r,a2,a3,a4,e⟩
 ·rw[e,bS];simp only;have hon:∀p∈l,On p:=λp hp=>by
   obtain⟨i,hi,rfl⟩:=H0 hp;have:=h i hi;by_cases ho:On (pa l i)
   ·exact ho
   ·simp[ho]at this
  have hs:∀p∈l,BH p:=λp hp=>(hon p hp).sml
  have step:∀n (i:Nat),i<l.length->CC N l (n+1) i=if∀k,k<l.length->k≠i->k≠(i+1)%l.length->0<Ah (pa l i) (pa l ((i+1)%l.length)) (pa l k)then CC N l n ((i+1:Nat):Int)else some (.inr false):=λn i hi=>by
   rw[CC,Ch hi,cT,dF (by omega) hs hi N (by omega)];split
   ·rw[bS];simp only;rw[Aa (by unfold Ab;omega),ns]
   ·rw[bS]
  have key:=Hh (L:=CC N l) (len:=l.length) (λi=>if∀k,k<l.length->k≠i->k≠(i+1)%l.length->0<Ah (pa l i) (pa l ((i+1)%l.length)) (pa l k)then none else some false)
   (λn k hk hf=>by
    rw[step n k hk];split
    ·rfl
    ·rename_i h;simp[eW h]at hf) (λn k r hk hf=>by
    rw[step n k hk];split
    ·rename_i h;rw[eX h]at hf;cases hf
    ·rename_i h;rw[eW h]at hf;cases hf;rfl) (λn=>by
    rw[CC,CT,cF]) N (by omega)
  rcases key with⟨e,h⟩|⟨j,r,a2,a3,a4,e⟩
  ·rw[e,bS];simp only;congr 1;symm;refine I3.2 ⟨by omega,by omega,hon,λi k hi hk n1 n2=>?_⟩;have:=h i hi;split at this
   ·rename_i h;exact h k hk n1 n2
   ·cases this
  ·rw[e,bS];simp only;split at a3
   ·cases a3
   ·rename_i h;cases a3
    congr 1;symm;exact Ia.2 λhv=>h λk hk n1 n2=>hv.cv j k a2 hk n1 n2
 ·rw[e,bS];simp only;by_cases hon:On (pa l j)
  ·simp[hon]at a3
  ·simp only[hon,if_false,yE]at a3;subst a3;congr 1;symm;exact Ia.2 λhv=>hon (hv.on _ (AN a2))
def QB(n i k:Nat):Nat:=(k+n-i)%n
theorem zK{n i k:Nat}(h:0<n):QB n i k<n:=uM _ h
theorem zL{n i k:Nat}(hi:i<n)(hk:k<n):(i+QB n i k)%n=k:=by
 unfold QB;by_cases h:i<=k
 ·have e:(k+n-i)%n=k-i:=by rw[Nat.mod_eq_sub_mod (by omega),tT (by omega)];omega
  rw[e,show i+(k-i)=k by omega,tT hk]
 ·have e:(k+n-i)%n=k+n-i:=tT (by omega);rw[e,show i+(k+n-i)=k+n by omega,Nat.add_mod_right,tT hk]
theorem VQ{n d:Int}(h:Ab n)(hd:1<d)(hd2:d<=1000):Ab (n.tdiv d):=by
 unfold Ab at*;rcases Int.le_total 0 n with h0|h0
 ·have h1:=Int.tdiv_nonneg h0 (show 0<=d by omega);have h2:n.tdiv d<=n:=Int.tdiv_le_self d h0;omega
 ·have e:n.tdiv d= -((-n).tdiv d):=by rw[Int.neg_tdiv,Int.neg_neg]
  have h1:=Int.tdiv_nonneg (show 0<=-n by omega) (show 0<=d by omega);have h2:(-n).tdiv d<=-n:=Int.tdiv_le_self d (by omega);omega
def IT(l:List Pt)(i:Nat)(b:List Pt):Prop:=∀p∈b,α l i p<=0
open Classical in
def JT(l b:List Pt):Option Nat:=(List.range l.length).find? λi=>decide (IT l i b)
def apart(a b:List Pt):Prop:=(∃i,i<a.length/\IT a i b)\/∃i,i<b.length/\IT b i a
theorem apart.symm{a b:List Pt}(h:apart a b):apart b a:=Or.symm h
theorem MY{l b:List Pt}{i:Nat}(h:JT l b=some i):i<l.length/\IT l i b:=by unfold JT at h;have h1:=List.find?_some h;have h2:=List.mem_of_find?_eq_some h;exact⟨by simpa using h2,by simpa using h1⟩
theorem TQ{l b:List Pt}(h:JT l b=none):∀i,i<l.length->¬IT l i b:=by unfold JT at h;rw[List.find?_eq_none]at h;intro i hi hs;exact h i (by simpa using hi) (by simpa using hs)
open Classical in
theorem tP{N:Nat}{b:List Pt}(hb:b.length<=1000)(hN:1000<N)(hs:∀p∈b,BH p){u w:Pt}(hu:BH u)(hw:BH w):BM N b u.1 u.2 w.1 w.2=some (decide (∃p∈b,0<Ah u w p)):=by
 unfold BM CJ;have step:∀n (k:Nat),k<b.length->AI N b u.1 u.2 w.1 w.2 (n+1) k=if 0<Ah u w (pa b k)then some (.inr (k:Int))else AI N b u.1 u.2 w.1 w.2 n ((k+1:Nat):Int):=λn k hk=>by
  rw[AI,Ch hk,cT,DI hk,bS];simp only;unfold IS;rw[Nv hu hw (hs _ (AN hk)),bS,bS,Aa (by unfold Ab;omega),ns];by_cases h:0<Ah u w (pa b k)
  ·rw[dC h,cT,eX h]
  ·rw[dJ h,cF,eW h]
 have key:=Hh (L:=AI N b u.1 u.2 w.1 w.2) (len:=b.length) (λk=>if 0<Ah u w (pa b k)then some (k:Int)else none)
  (λn k hk hf=>by
   rw[step n k hk,eW];intro h;rw[eX h]at hf;cases hf) (λn k r hk hf=>by
   by_cases h:0<Ah u w (pa b k)
   ·rw[step n k hk,eX h];rw[eX h]at hf;rw[<-yJ hf]
   ·rw[eW h]at hf;cases hf) (λn=>by
   rw[AI,CT,cF]) N (by omega)
 rcases key with⟨e,h⟩|⟨j,r,a2,a3,a4,e⟩
 ·rw[e,bS];simp only;rw[bS];congr 1;rw[dJ (by decide)];symm;rw[eS];rintro⟨p,hp,hn⟩;obtain⟨i,hi,rfl⟩:=H0 hp;have:=h i hi;rw[eX hn]at this;cases this
 ·rw[e,bS];simp only;rw[bS];split at a3
  ·rename_i h;rw[<-yJ a3,dC (by omega)];congr 1;symm;rw[eR];exact⟨_,AN a2,h⟩
  ·cases a3
open Classical in
theorem Sg{N:Nat}(hN:1000<N){l b:List Pt}(hl:l.length<=1000)(hb:b.length<=1000)(hsl:∀p∈l,BH p)(hsb:∀p∈b,BH p):∀(k j:Nat),j+k=l.length->EK N b ((List.range' j k).map λi=>(pa l i,pa l ((i+1)%l.length))) (j:Int)=some (match(List.range' j k).find? λi=>decide (IT l i b)with|some i=>.inr (i:Int)|none=>.inl ())
 |0,j,h=>by simp[EK]
 |k+1,j,h=>by
  have hm:(j+1)%l.length<l.length:=uM _ (by omega);rw[L8,eZ,List.find?_cons];rw[show(pa l j,pa l ((j+1)%l.length))=(((pa l j).1,(pa l j).2),((pa l ((j+1)%l.length)).1,(pa l ((j+1)%l.length)).2))from rfl,EK,tP hb hN hsb (hsl _ (AN (by omega))) (hsl _ (AN hm)),bS];by_cases hs:IT l j b
  ·have e:¬∃p∈b,0<Ah (pa l j) (pa l ((j+1)%l.length)) p:=by rintro⟨p,hp,hq⟩;have:=hs p hp;unfold α at this;omega
   rw[dJ e,AG _ (by rfl),dC hs]
  ·have e:∃p∈b,0<Ah (pa l j) (pa l ((j+1)%l.length)) p:=by
    by_cases h:∃p∈b,0<Ah (pa l j) (pa l ((j+1)%l.length)) p
    ·exact h
    ·exact absurd (λp hp=>by
      rcases Nz 0 (α l j p)with h1|h1
      ·exact absurd ⟨p,hp,h1⟩ h
      ·exact h1) hs
   rw[dC e,Az _ (by rfl),dJ hs,Aa (by unfold Ab;omega),<-ns];exact Sg hN hl hb hsl hsb k (j+1) (by omega)
theorem VR{N:Nat}(hN:1000<N){l b:List Pt}(hl:l.length<=1000)(hb:b.length<=1000)(hsl:∀p∈l,BH p)(hsb:∀p∈b,BH p):Hn N l b=some (match JT l b with|some i=>(i:Int)|none=> -1):=by unfold Hn;have:=Sg hN hl hb hsl hsb l.length 0 (by omega);rw[<-CY,mK]at this;rw[Aa (by omega),show Bu l=(List.range l.length).map λi=>(pa l i,pa l ((i+1)%l.length))from rfl,this,bS];unfold JT;cases(List.range l.length).find? λi=>@decide (IT l i b) (Classical.propDecidable _)<;>rfl
def HG(a b:List Pt):Int×Int×Bool:=match JT a b with|some i=>(0,(i:Int),true)|none=>match JT b a with|some i=>(1,(i:Int),true)|none=>(0,0,false)
theorem Xh(a b:List Pt):(∃i,i<a.length/\IT a i b/\HG a b=(0,(i:Int),true))\/(∃i,i<b.length/\IT b i a/\HG a b=(1,(i:Int),true))\/(¬apart a b/\HG a b=(0,0,false)):=by
 unfold HG;cases h:JT a b with
 |some i=>exact .inl ⟨i,(MY h).1,(MY h).2,rfl⟩
 |none=>
  cases h2:JT b a with
  |some i=>exact .inr (.inl ⟨i,(MY h2).1,(MY h2).2,rfl⟩)
  |none=>
   refine .inr (.inr ⟨?_,rfl⟩);rintro(⟨i,hi,hs⟩|⟨i,hi,hs⟩)
   ·exact TQ h i hi hs
   ·exact TQ h2 i hi hs
theorem LY{a b:List Pt}:(HG a b).2.2=true↔apart a b:=by
 rcases Xh a b with⟨i,h1,h2,h3⟩|⟨i,h1,h2,h3⟩|⟨h1,h3⟩<;>rw[h3]
 ·simp only[true_iff];exact .inl ⟨i,h1,h2⟩
 ·simp only[true_iff];exact .inr ⟨i,h1,h2⟩
 ·simp[h1]
theorem AbO{N:Nat}(hN:1001<=N){a b:List Pt}(ha:VP a)(hb:VP b):G9 N a b=some (HG a b):=by
 unfold G9;have a8:=ha.l8;have b8:=hb.l8;rw[Jq (by omega) ha,Jq (by omega) hb,bS,Aa (λ_=>fD),mN,Az _ (by rfl),VR (by omega) (by omega) (by omega) ha.sml hb.sml,bS,VR (by omega) (by omega) (by omega) hb.sml ha.sml];unfold HG;cases JT a b with
 |some i=>simp only;rw[AG _ (dC (by omega))]
 |none=>
  simp only;rw[Az _ (by decide),bS];cases JT b a with
  |some i=>simp only;rw[AG _ (dC (by omega))]
  |none=>simp only;rw[Az _ (by decide)]
theorem LQ{N:Nat}(hN:1001<=N){a b:List Pt}(ha:VP a)(hb:VP b):Dq N a b=some (!(HG a b).2.2):=by unfold Dq;rw[AbO hN ha hb,show HG a b=((HG a b).1,(HG a b).2.1,(HG a b).2.2)from rfl,bS,Jq (by omega) ha,Jq (by omega) hb];simp only;rw[bS,Aa (λ_=>fD)];rfl
theorem ZG{a:List Pt}(h:VP a):¬apart a a:=by
 have l3:=h.l3;have key:∀i,i<a.length->¬IT a i a:=λi hi hs=>by
  obtain⟨k,hk,n1,n2⟩:∃k,k<a.length/\k≠i/\k≠(i+1)%a.length:=by
   by_cases h0:0≠i/\0≠(i+1)%a.length
   ·exact⟨0,by omega,h0.1,h0.2⟩
   by_cases h1:1≠i/\1≠(i+1)%a.length
   ·exact⟨1,by omega,h1.1,h1.2⟩
   exact⟨2,by omega,by omega,by omega⟩
  have e1:=h.cv i k hi hk n1 n2;have e2:=hs _ (AN hk);unfold α at e2;omega
 rintro(⟨i,hi,hs⟩|⟨i,hi,hs⟩)
 ·exact key i hi hs
 ·exact key i hi hs
theorem dG{g p a b:Pt}(ha:D0 g p a=0)(hb:D0 g p b=0)(hg:g≠(0,0)):Ah p a b=0:=by
 have e1:g.1*Ah p a b=D0 g p a*(b.2-p.2)-D0 g p b*(a.2-p.2):=by unfold D0 Ah;grind
 have e2:g.2*Ah p a b=D0 g p b*(a.1-p.1)-D0 g p a*(b.1-p.1):=by unfold D0 Ah;grind
 rw[ha,hb]at e1 e2;simp only[Int.zero_mul,Int.sub_self,Nw]at e1 e2;rcases e1 with e1|e1
 ·rcases e2 with e2|e2
  ·exact absurd (Rl e1 e2) hg
  ·exact e2
 ·exact e1
theorem Qa{n:Nat}{v:Nat->Pt}(hn:0<n)(per:∀t,v (t+n)=v t){p g:Pt}(h:∀t,0<Ah (v t) (v (t+1)) p)(hg:g≠(0,0))(hh:∀t,0<=D0 g p (v t)):False:=by
 have h':∀t,0<Ah p (v t) (v (t+1)):=λt=>by rw[<-G4];exact h t
 obtain⟨m,hm⟩:∃m,0<D0 g p (v m):=by
  by_cases h0:0<D0 g p (v 0)
  ·exact⟨0,h0⟩
  by_cases h1:0<D0 g p (v 1)
  ·exact⟨1,h1⟩
  have z0:=hh 0;have z1:=hh 1;have:=dG (show D0 g p (v 0)=0 by omega) (show D0 g p (v 1)=0 by omega) hg;have:0<Ah p (v 0) (v 1):=h' 0;omega
 have key:∀t,0<Ah p (v m) (v (m+(t+1))):=by
  intro t;induction t with
  |zero=>exact h' m
  |succ t ih=>
   have pl:=ZD g p (v m) (v (m+(t+1))) (v (m+(t+1+1)));have hb:=hh (m+(t+1));have hc:=hh (m+(t+1+1));have hbc:=h' (m+(t+1));rw[show m+(t+1)+1=m+(t+1+1) by omega]at hbc;have k1:=CX hm hbc;have k2:=mM hc (zX ih);have hb':0<D0 g p (v (m+(t+1))):=by
    rcases Int.lt_or_eq_of_le hb with q|q
    ·exact q
    ·rw[<-q,Int.zero_mul]at pl;omega
   exact Jn hb' (by omega)
 have:=key (n-1);rw[show m+(n-1+1)=m+n by omega,per,D1]at this;omega
theorem S5{l:List Pt}(hl:0<l.length)(t:Nat)(p:Pt):Ah (qa l t) (qa l (t+1)) p=α l (t%l.length) p:=by unfold α qa;rw[Tn]
theorem Ny(a b p q:Pt):D0 (b.2-a.2,a.1-b.1) p q=Ah a b p-Ah a b q:=by unfold D0 Ah;grind
