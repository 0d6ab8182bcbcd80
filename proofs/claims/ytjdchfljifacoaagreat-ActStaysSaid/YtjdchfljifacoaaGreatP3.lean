import Derived.Test.YtjdchfljifacoaaGreatD6
set_option linter.all false
set_option maxRecDepth 100000
set_option maxHeartbeats 8000000
noncomputable section
namespace Go.Proofs.YtjdchfljifacoaaGreat.Am
theorem AU{E:Type}(b:Bool)(h:b=true)(x y:E):(bif b then x else y)=x:=by subst h;rfl
theorem A1{E:Type}(b:Bool)(h:b=false)(x y:E):(bif b then x else y)=y:=by subst h;rfl
theorem bS'{E J:Type}(o:Option E)(a:E)(h:o=some a)(f:E->Option J):o.bind f=f a:=by subst h;rfl
theorem cT{E:Type}(x y:E):(bif true then x else y)=x:=AU _ rfl x y
theorem cF{E:Type}(x y:E):(bif false then x else y)=y:=A1 _ rfl x y
theorem bS{E J:Type}(a:E)(f:E->Option J):(some a).bind f=f a:=bS' _ a rfl f
theorem SL{J:Type}{L:Nat->Int->Option (Sum Unit J)}{len:Nat}(f:Nat->Option J)(h1:∀n (k:Nat),k<len->f k=none->L (n+1) k=L n ((k+1:Nat):Int))(h2:∀n (k:Nat) r,k<len->f k=some r->L (n+1) k=some (.inr r))(h3:∀n,L (n+1) len=some (.inl ())):∀(n k:Nat),k<=len->len<n+k->(L n k=some (.inl ())/\∀j,k<=j->j<len->f j=none)\/∃j r,k<=j/\j<len/\f j=some r/\(∀i,k<=i->i<j->f i=none)/\L n k=some (.inr r)
 |0,k,hk,hn=>by omega
 |n+1,k,hk,hn=>by
  by_cases he:k=len
  ·subst he;exact .inl ⟨h3 n,λj h1 h2=>by omega⟩
  cases hf:f k with
  |some r=>exact .inr ⟨k,r,jW _,by omega,hf,λi _ _=>by omega,h2 n k r (by omega) hf⟩
  |none=>
   rw[h1 n k (by omega) hf];rcases SL f h1 h2 h3 n (k+1) (by omega) (by omega)with⟨e,h⟩|⟨j,r,a1,a2,a3,a4,a5⟩
   ·refine .inl ⟨e,λj hj hl=>?_⟩;by_cases hjk:j=k
    ·rw[hjk];exact hf
    ·exact h j (by omega) hl
   ·refine .inr ⟨j,r,by omega,a2,a3,λi h1 h2=>?_,a5⟩;by_cases hik:i=k
    ·rw[hik];exact hf
    ·exact a4 i (by omega) h2
theorem GK{J:Type}{L:Nat->Int->Option (Sum Unit J)}{len:Nat}(f:Nat->Option J)(h1:∀n (k:Nat),k<len->f k=none->L (n+1) k=L n ((k+1:Nat):Int))(h2:∀n (k:Nat) r,k<len->f k=some r->L (n+1) k=some (.inr r))(h3:∀n,L (n+1) len=some (.inl ()))(n:Nat)(hn:len<n):(L n 0=some (.inl ())/\∀j,j<len->f j=none)\/∃j r,j<len/\f j=some r/\(∀i,i<j->f i=none)/\L n 0=some (.inr r):=by
 have:=SL f h1 h2 h3 n 0 (by omega) (by omega);rw[oL]at this;rcases this with⟨e,h⟩|⟨j,r,a1,a2,a3,a4,e⟩
 ·exact .inl ⟨e,λj hj=>h j (by omega) hj⟩
 ·exact .inr ⟨j,r,a2,a3,λi hi=>a4 i (by omega) hi,e⟩
theorem ns(k:Nat):((k+1:Nat):Int)=(k:Int)+1:=by omega
theorem Nw(i n:Nat):((i:Int)+1).tmod (n:Int)=(((i+1)%n:Nat):Int):=by rw[Int.tmod_eq_emod_of_nonneg (by omega)];rfl
theorem F1{l:List Pt}{i:Nat}(h:i<l.length):A7 l (i:Int)=some ((pa l i).1,(pa l i).2):=by rw[Ou (0,0) (by omega) (by omega),t9];rfl
theorem BR{E:Type}{p q:Prop}[Decidable p][Decidable q]{k:Option E}(h:p->q):gd (p->q) k=k:=Ae h
theorem YC{N:Nat}{a b c:Pt}(ha:CD a)(hb:CD b)(hc:CD c):Hr N a.1 a.2 b.1 b.2 c.1 c.2=some (Ao a b c):=by unfold CD at*;have h1:=Ob (x:=b.1-a.1) (y:=c.2-a.2) (by omega) (by omega);have h2:=Ob (x:=b.2-a.2) (y:=c.1-a.1) (by omega) (by omega);unfold Hr Ao;rw[Ae (by unfold Af;omega),Ae (by unfold Af;omega),Ae (by unfold Af;omega),Ae (by unfold Af;omega),Ae (by unfold Af;omega),Ae (by unfold Af;omega),Ae (by unfold Af;omega)]
theorem jU{N:Nat}{a b c:Pt}(ha:CD a)(hb:CD b)(hc:CD c):Fw N a.1 a.2 b.1 b.2 c.1 c.2=some (Ao a b c):=by unfold CD at*;have h1:=Ob (x:=b.1-a.1) (y:=c.2-a.2) (by omega) (by omega);have h2:=Ob (x:=b.2-a.2) (y:=c.1-a.1) (by omega) (by omega);unfold Fw Ao;rw[Ae (by unfold Af;omega),Ae (by unfold Af;omega),Ae (by unfold Af;omega),Ae (by unfold Af;omega),Ae (by unfold Af;omega),Ae (by unfold Af;omega),Ae (by unfold Af;omega)]
def On(p:Pt):Prop:=(0<=p.1/\p.1<=40)/\(0<=p.2/\p.2<=40)
instance(p:Pt):Decidable (On p):=inferInstanceAs (Decidable ((_/\_)/\(_/\_)))
theorem On.sml{p:Pt}(h:On p):CD p:=by unfold On at h;unfold CD;omega
structure VP(l:List Pt):Prop where
 l3:3<=l.length
 l8:l.length<=8
 on:∀p∈l,On p
 cv:Conv l
open Classical in
def vB(l:List Pt):Bool:=decide (VP l)
theorem Li{l:List Pt}:vB l=true↔VP l:=by unfold vB;simp
theorem KK{l:List Pt}:vB l=false↔¬VP l:=by unfold vB;simp
theorem Wz(N:Nat)(p:Pt):IO N p.1 p.2=some (!decide (On p)):=by
 unfold IO;congr 1;by_cases h:On p
 ·rw[aB h];unfold On at h;simp only[H7,y5,cY];omega
 ·rw[bJ h];unfold On at h;simp only[Gc,tU,bK];omega
open Classical in
theorem WA{N:Nat}{l:List Pt}(hN:100<=N)(hl:l.length<=50):Bm N l=some (decide (∃p∈l,¬On p)):=by
 unfold Bm CI;have key:=GK (L:=A3 N l) (len:=l.length) (λi=>if On (pa l i)then none else some (i:Int)) (λn k hk hf=>by
   rw[A3];have e1:decide ((k:Int)<(l.length:Int))=true:=by simp;omega
   have hon:On (pa l k):=by
    by_cases h:On (pa l k)
    ·exact h
    ·simp[h]at hf
   rw[e1,cT,F1 hk];simp only[bS];rw[Wz];simp only[bS,hon,decide_true,H7,cF];rw[Ae (by unfold Af;omega),ns]) (λn k r hk hf=>by
   rw[A3];have e1:decide ((k:Int)<(l.length:Int))=true:=by simp;omega
   have hon:¬On (pa l k):=λh=>by simp[h]at hf
   rw[eG hon]at hf;rw[e1,cT,F1 hk];simp only[bS];rw[Wz];simp only[bS,hon,decide_false,Gc,cT];rw[<-yJ hf]) (λn=>by
   rw[A3];have e1:decide ((l.length:Int)<(l.length:Int))=false:=by simp
   rw[e1,cF]) N (by omega)
 rcases key with⟨e,h⟩|⟨j,r,a2,a3,a4,e⟩
 ·rw[e];simp only[bS];congr 1;symm;simp only[show decide ((0:Int)<=-1)=false from rfl,cY];rintro⟨p,hp,hn⟩;obtain⟨i,hi,rfl⟩:=Jf hp;have:=h i hi;simp[hn]at this
 ·rw[e];simp only[bS];by_cases hon:On (pa l j)
  ·simp[hon]at a3
  ·simp only[hon,if_false,yE]at a3;subst a3;congr 1;rw[show decide ((0:Int)<=(j:Int))=true from by simp];symm;simp only[bK];exact⟨_,Bo a2,hon⟩
open Classical in
theorem jV{N:Nat}{l:List Pt}(hl:l.length<=50)(ho:∀p∈l,CD p){i:Nat}(hi:i<l.length)(n:Nat)(hn:l.length<n):Dv N l i (pa l i).1 (pa l i).2 n 0=some (if∀k,k<l.length->k≠i->k≠(i+1)%l.length->0<Ao (pa l i) (pa l ((i+1)%l.length)) (pa l k)then .inl ()else .inr false):=by
 have hm:(i+1)%l.length<l.length:=t6 _ (by omega);have step:∀n (k:Nat),k<l.length->Dv N l i (pa l i).1 (pa l i).2 (n+1) k=if(k≠i/\k≠(i+1)%l.length)/\Ao (pa l i) (pa l ((i+1)%l.length)) (pa l k)<=0 then some (.inr false)else Dv N l i (pa l i).1 (pa l i).2 n ((k+1:Nat):Int):=λn k hk=>by
  rw[Dv];have e1:decide ((k:Int)<(l.length:Int))=true:=by simp;omega
  have tu:=YC (N:=N) (ho _ (Bo hi)) (ho _ (Bo hm)) (ho _ (Bo hk));have e2:(l.getD (((i+1)%l.length:Nat):Int).toNat (0,0))=pa l ((i+1)%l.length):=by rw[t9];rfl
  rw[e1,cT,F1 hk];simp only[bS,Nw,e2,tu,mU,qO];rw[Ae (λ_=>⟨by omega,by omega⟩),Ae (λ_=>yT),Ae (by unfold Af;omega)];by_cases h:(k≠i/\k≠(i+1)%l.length)/\Ao (pa l i) (pa l ((i+1)%l.length)) (pa l k)<=0
  ·rw[fU h];have e3:(((decide ((k:Int)≠(i:Int)))&&(decide ((k:Int)≠(((i+1)%l.length:Nat):Int))))&&(decide (Ao (pa l i) (pa l ((i+1)%l.length)) (pa l k)<=0)))=true:=by obtain⟨⟨h1,h2⟩,h3⟩:=h;simp only[oK,bK];exact⟨⟨by omega,by omega⟩,h3⟩
   rw[e3,cT]
  ·rw[eG h];have e3:(((decide ((k:Int)≠(i:Int)))&&(decide ((k:Int)≠(((i+1)%l.length:Nat):Int))))&&(decide (Ao (pa l i) (pa l ((i+1)%l.length)) (pa l k)<=0)))=false:=by rw[u0];intro hb;simp only[oK,bK]at hb;exact h ⟨⟨by omega,by omega⟩,hb.2⟩
   rw[e3,cF,ns]
 have key:=GK (L:=Dv N l i (pa l i).1 (pa l i).2) (len:=l.length) (λk=>if(k≠i/\k≠(i+1)%l.length)/\Ao (pa l i) (pa l ((i+1)%l.length)) (pa l k)<=0 then some false else none)
  (λn k hk hf=>by
   rw[step n k hk,eG];intro h;rw[fU h]at hf;cases hf) (λn k r hk hf=>by
   by_cases h:(k≠i/\k≠(i+1)%l.length)/\Ao (pa l i) (pa l ((i+1)%l.length)) (pa l k)<=0
   ·rw[step n k hk,fU h];rw[fU h]at hf;cases hf;rfl
   ·rw[eG h]at hf;cases hf) (λn=>by
   rw[Dv];have e1:decide ((l.length:Int)<(l.length:Int))=false:=by simp
   rw[e1,cF]) n (by omega)
 rcases key with⟨e,h⟩|⟨j,r,a2,a3,a4,e⟩
 ·rw[e,fU];intro k hk h1 h2;have:=h k hk;rcases DV 0 (Ao (pa l i) (pa l ((i+1)%l.length)) (pa l k))with h3|h3
  ·exact h3
  ·rw[fU ⟨⟨h1,h2⟩,h3⟩]at this;cases this
 ·rw[e];split at a3
  ·rename_i h;cases a3
   rw[eG];intro hA;have:=hA j a2 h.1.1 h.1.2;omega
  ·cases a3
open Classical in
theorem IJ{N:Nat}(hN:100<=N)(l:List Pt):Cy N l=some (vB l):=by
 unfold Cy;by_cases hl:l.length<3\/8<l.length
 ·have e1:((decide ((l.length:Int)<3))||(decide (8<(l.length:Int))))=true:=by simp;omega
  have e2:vB l=false:=KK.2 λh=>by have:=h.l3;have:=h.l8;omega
  simp only[e1,H7,yF,Bool.true_or,cT,e2];rw[Ae (λh=>by simp at h)]
 have e1:((decide ((l.length:Int)<3))||(decide (8<(l.length:Int))))=false:=by simp;omega
 rw[Ae (λ_=>by rw[WA hN (by omega)];rfl),WA hN (by omega)];simp only[e1,Bool.false_or,qO];by_cases ho:∃p∈l,¬On p
 ·rw[show decide (∃p∈l,¬On p)=true from by simpa using ho,cT];have e2:vB l=false:=KK.2 λh=>by obtain⟨p,hp,hn⟩:=ho;exact hn (h.on p hp)
  rw[e2]
 rw[show decide (∃p∈l,¬On p)=false from by simpa using ho,cF];have hon:∀p∈l,On p:=λp hp=>by
  by_cases h:On p
  ·exact h
  ·exact absurd ⟨p,hp,h⟩ ho
 have hs:∀p∈l,CD p:=λp hp=>(hon p hp).sml
 have step:∀n (i:Nat),i<l.length->D7 N l (n+1) i=if∀k,k<l.length->k≠i->k≠(i+1)%l.length->0<Ao (pa l i) (pa l ((i+1)%l.length)) (pa l k)then D7 N l n ((i+1:Nat):Int)else some (.inr false):=λn i hi=>by
  rw[D7];have e1:decide ((i:Int)<(l.length:Int))=true:=by simp;omega
  rw[e1,cT,F1 hi];simp only[bS];rw[Ae (by unfold Af;omega),Ae (by omega),jV (by omega) hs hi N (by omega)];split
  ·simp only[bS];rw[Ae (by unfold Af;omega),ns]
  ·simp only[bS]
 have key:=GK (L:=D7 N l) (len:=l.length) (λi=>if∀k,k<l.length->k≠i->k≠(i+1)%l.length->0<Ao (pa l i) (pa l ((i+1)%l.length)) (pa l k)then none else some false)
  (λn k hk hf=>by
   rw[step n k hk];split
   ·rfl
   ·rename_i h;simp[eG h]at hf) (λn k r hk hf=>by
   rw[step n k hk];split
   ·rename_i h;rw[fU h]at hf;cases hf
   ·rename_i h;rw[eG h]at hf;cases hf;rfl) (λn=>by
   rw[D7];have e1:decide ((l.length:Int)<(l.length:Int))=false:=by simp
   rw[e1,cF]) N (by omega)
 rcases key with⟨e,h⟩|⟨j,r,a2,a3,a4,e⟩
 ·rw[e];simp only[bS];congr 1;symm;refine Li.2 ⟨by omega,by omega,hon,λi k hi hk n1 n2=>?_⟩;have:=h i hi;split at this
  ·rename_i h;exact h k hk n1 n2
  ·cases this
 ·rw[e];simp only[bS];split at a3
  ·cases a3
  ·rename_i h;cases a3
   congr 1;symm;exact KK.2 λhv=>h λk hk n1 n2=>hv.cv j k a2 hk n1 n2
theorem KT{N:Nat}(hN:100<=N){l:List Pt}(h:VP l):Cy N l=some true:=by rw[IJ hN,Li.2 h]
def pk(c n:Int):Int:=if c<0 then(-(c+1)).tmod n else c.tmod n
theorem DI{c n:Int}(hn:0<n):0<=pk c n/\pk c n<n:=by
 unfold pk;split
 ·exact⟨Int.tmod_nonneg _ (by omega),Int.tmod_lt_of_pos _ hn⟩
 ·exact⟨Int.tmod_nonneg _ (by omega),Int.tmod_lt_of_pos _ hn⟩
theorem YD{l:List Pt}{i:Nat}(h:i<l.length):l.drop i=pa l i::l.drop (i+1):=by rw[De h];exact pA h
theorem Dq{k n:Nat}(h:k<n):decide ((k:Int)<(n:Int))=true:=by simp;omega
theorem F2(n:Nat):decide ((n:Int)<(n:Int))=false:=by simp
theorem L4{n k i j:Nat}(hi:i<n)(hj:j<n)(h:(k+i)%n=(k+j)%n):i=j:=by
 have h1:((k%n+i)%n)=((k%n+j)%n):=by simpa[Nat.add_mod]using h
 have hk:k%n<n:=t6 _ (by omega);generalize k%n=m at*;by_cases a:m+i<n<;>by_cases b:m+j<n
 ·rw[tL a,tL b]at h1;omega
 ·rw[tL a,Nat.mod_eq_sub_mod (by omega),tL (by omega)]at h1;omega
 ·rw[tL b,Nat.mod_eq_sub_mod (by omega),tL (by omega)]at h1;omega
 ·rw[Nat.mod_eq_sub_mod (by omega),tL (by omega),Nat.mod_eq_sub_mod (by omega:n<=m+j),tL (by omega)]at h1;omega
def α(l:List Pt)(i:Nat)(p:Pt):Int:=Ao (pa l i) (pa l ((i+1)%l.length)) p
def inn(l:List Pt)(p:Pt):Prop:=∀i,i<l.length->0<α l i p
def clo(l:List Pt)(p:Pt):Prop:=∀i,i<l.length->0<=α l i p
theorem inn.clo{l:List Pt}{p:Pt}(h:inn l p):clo l p:=λi hi=>w6 (h i hi)
open Classical in
def sd(l:List Pt)(p:Pt):Int:=if inn l p then 1 else if clo l p then 0 else-1
theorem SM(N:Nat)(x y:Int):F3 N x y=some (if x<y then-1 else if y<x then 1 else 0):=by
 unfold F3 HY;rw[bJ (by simp),bS,bJ (by simp),bS,cF,cF];by_cases h:x<y
 ·rw[aB h,cT,fU h]
 ·rw[bJ h,cF,eG h];by_cases h:y<x
  ·rw[aB h,cT,fU h]
  ·rw[bJ h,cF,eG h]
theorem VP.sml{l:List Pt}(h:VP l):∀p∈l,CD p:=λp hp=>(h.on p hp).sml
theorem jX{f:Pt->Pt}{l:List Pt}{i:Nat}(hi:i<l.length)(v:Pt):((l.take i).map f++l.drop i).set i v=(l.take i).map f++v::l.drop (i+1):=by
 have e:((l.take i).map f).length=i:=by simp;omega
 rw[YD hi,List.set_append_right _ _ (by omega),e,Nat.sub_self,List.set_cons_zero]
theorem dR{f:Pt->Pt}{l:List Pt}{i:Nat}(hi:i<l.length)(u v:Pt):((l.take i).map f++u::l.drop (i+1)).set i v=(l.take i).map f++v::l.drop (i+1):=by
 have e:((l.take i).map f).length=i:=by simp;omega
 rw[List.set_append_right _ _ (by omega),e,Nat.sub_self,List.set_cons_zero]
theorem WC{f:Pt->Pt}{l R:List Pt}{i:Nat}(hi:i<l.length)(u:Pt):A7 ((l.take i).map f++u::R) (i:Int)=some u:=by
 have e:((l.take i).map f).length=i:=by simp;omega
 rw[M4,y7 (by omega),e,Nat.sub_self];rfl
theorem jY{f:Pt->Pt}{l:List Pt}{i:Nat}(hi:i<l.length):(l.take i).map f++f (pa l i)::l.drop (i+1)=(l.take (i+1)).map f++l.drop (i+1):=by rw[List.take_succ_eq_append_getElem hi,vE,List.map_singleton,<-De hi,sG];rfl
theorem VP.ne{l:List Pt}(h:VP l){i:Nat}(hi:i<l.length):pa l i≠pa l ((i+1)%l.length):=λe=>by
 have l3:=h.l3;obtain⟨k,hk,n1,n2⟩:∃k,k<l.length/\k≠i/\k≠(i+1)%l.length:=by
  by_cases h0:0≠i/\0≠(i+1)%l.length
  ·exact⟨0,by omega,h0.1,h0.2⟩
  by_cases h1:1≠i/\1≠(i+1)%l.length
  ·exact⟨1,by omega,h1.1,h1.2⟩
  exact⟨2,by omega,by omega,by omega⟩
 have:=h.cv i k hi hk n1 n2;rw[<-e,cZ]at this;omega
theorem H6{f:Pt->Pt}{l:List Pt}{i:Nat}(h:i<l.length):pa (l.map f) i=f (pa l i):=by rw[De (by simpa using h),List.getElem_map,De h]
def EdS(es:List (Pt×Pt)):Prop:=∀e∈es,CD e.1/\CD e.2
theorem EdS.tl{e:Pt×Pt}{es:List (Pt×Pt)}(h:EdS (e::es)):EdS es:=λx hx=>h x (by simp[hx])
section
open Go
attribute [local irreducible] Ax BO BB Bj BC Bk AY BD BK Cq
def ED(N:Nat)(af:Int)(l16:List (Int×Int)):Nat->Int->(List (Int×Int))->Option ((List (Int×Int)))|0,_,_=>none|n+1,ak,l28=>bif decide (ak≠af)then(gd (Af (ak+1))<|gd ((l16.length:Int)≠0)<|(A7 l16 ((ak+1).tmod (l16.length:Int))).bind λ(x29,T1)=>gd ((l28.length+1)*16<=140737488355328)<|ED N af l16 n ((ak+1).tmod (l16.length:Int)) (l28++[(x29,T1)]))else(some l28)
def Fx(N:Nat)(l16:List (Int×Int))(am:Int)(af:Int):Option (List (Int×Int)):=(A7 l16 am).bind λ(x19,x20)=>(ED N af l16 N am [(x19,x20)]).bind λbi=>some bi
@[go_sem] def AdI(N:Nat):Spec:=p0<|pS Aq λl16=>pI λam=>pI λaf=>pE<|pF (Fx N l16 am af) [] λr=>BP r
theorem xT(N:Nat):AG Tryz.prog 129 (AdI N):=by
 refine Ar x129.ok<|AF λl16=>Aa λam=>Aa λaf=>Ad<|As λr h=>wx x129 (Aj) λ_ hS F=>?_
 dsimp only[x129,Ah,Aq];unfold Fx at h;obtain⟨⟨x19,x20⟩,be,h⟩:=un h;obtain⟨ck,F⟩:=Cb Cz be F;obtain⟨br,bf,h⟩:=un h;refine go hS F ?_;refine Bz br (λz:(List (Int×Int))×Nat=>⟨[(7,.own (104,2) z.1.length)],[(.a (104,2),LK z.1)],z.2⟩) (λz=>(z.1:(List (Int×Int)))) (.x 0) ?_ ?_
 ·refine Bp (λn (y:Int×(List (Int×Int))×Nat)=>ED N af l16 n y.1 y.2.1) (λy=>⟨[(0,BP l16),(1,.i y.1),(2,.i af),(7,.own (104,2) y.2.1.length)],[(.a (104,2),LK y.2.1)],y.2.2⟩) (am,[(x19,x20)],2) bf (Ch F) ?_;rintro n ⟨ak,l28,bn⟩ aa;simp only[ED]at aa;refine An hS F aa (λ_ aa=>?_) (λ_ aa=>?_)
  ·obtain⟨bu,db,⟨x29,T1⟩,bb,aa⟩:=un aa;obtain⟨cj,F⟩:=Cb Cz bb F;obtain⟨da,aa⟩:=un aa;exact Cd hS F (n,(ak+1).tmod (l16.length:Int),l28++[(x29,T1)],bn+1+1+1) aa
  ·exact B4 hS F (l28,bn+1) aa
 ·rintro⟨bi,dg⟩ rfl;exact Ai hS F h
def C1(N:Nat)(l38:List (Int×Int)):Nat->Int->Option (Sum Unit Bool)|0,_=>none|n+1,aj=>bif decide (aj<(l38.length:Int))then((A7 l38 aj).bind λ(x47,x48)=>(Gg N x47 x48).bind λbh=>bif !bh then(some (.inr false))else(gd (Af (aj+1))<|C1 N l38 n (aj+1)))else(some (.inl ()))
def Ck(N:Nat)(l38:List (Int×Int))(i67:Int):Nat->Int->Option (Sum Unit Bool)|0,_=>none|n+1,k70=>bif decide (k70<(l38.length:Int))then(gd ((decide (k70≠i67))=true->(Af (i67+1)))<|gd ((decide (k70≠i67))=true->((l38.length:Int)≠0))<|gd (((decide (k70≠i67))&&(decide (k70≠(i67+1).tmod (l38.length:Int))))=true->(0<=i67/\i67<(l38.length:Int)))<|gd (((decide (k70≠i67))&&(decide (k70≠(i67+1).tmod (l38.length:Int))))=true->((CU N l38 i67).isSome=true))<|gd (((decide (k70≠i67))&&(decide (k70≠(i67+1).tmod (l38.length:Int))))=true->(0<=k70/\k70<(l38.length:Int)))<|gd (((decide (k70≠i67))&&(decide (k70≠(i67+1).tmod (l38.length:Int))))=true->((Fw N ((l38.getD i67.toNat (0,0)).1) ((l38.getD i67.toNat (0,0)).2) (((CU N l38 i67).getD (0,0)).1) (((CU N l38 i67).getD (0,0)).2) ((l38.getD k70.toNat (0,0)).1) ((l38.getD k70.toNat (0,0)).2)).isSome=true))<|bif ((decide (k70≠i67))&&(decide (k70≠(i67+1).tmod (l38.length:Int))))&&(decide ((Fw N ((l38.getD i67.toNat (0,0)).1) ((l38.getD i67.toNat (0,0)).2) (((CU N l38 i67).getD (0,0)).1) (((CU N l38 i67).getD (0,0)).2) ((l38.getD k70.toNat (0,0)).1) ((l38.getD k70.toNat (0,0)).2)).getD 0<=0))then(some (.inr false))else(gd (Af (k70+1))<|Ck N l38 i67 n (k70+1)))else(some (.inl ()))
def CA(N:Nat)(l38:List (Int×Int)):Nat->Int->Option (Sum Unit Bool)|0,_=>none|n+1,i67=>bif decide (i67<(l38.length:Int))then((Ck N l38 i67 N 0).bind λaq=>match aq with|.inl ()=>(gd (Af (i67+1))<|CA N l38 n (i67+1))|.inr bp=>(some (.inr bp)))else(some (.inl ()))
def Cj(N:Nat)(l38:List (Int×Int)):Option Bool:=bif (decide ((l38.length:Int)<3))||(decide (8<(l38.length:Int)))then(some false)else((C1 N l38 N 0).bind λau=>match au with|.inl ()=>((CA N l38 N 0).bind λan=>match an with|.inl ()=>(some true)|.inr bo=>(some bo))|.inr bq=>(some bq))
@[go_sem] def AdJ(N:Nat):Spec:=p0<|pS Aq λl38=>pE<|pF (Cj N l38) false λr=>.b r
theorem SB(N:Nat):AG Tryz.prog 114 (AdJ N):=by
 refine Ar x114.ok<|AF λl38=>Ad<|As λr h=>wx x114 (Ab (xR N)<|Ab (cC N)<|Ab (xQ N)<|Aj) λ_ hS F=>?_
 dsimp only[x114,Ah,Aq];unfold Cj at h;refine An hS F h (λ_ h=>?_) (λ_ h=>?_)
 ·exact Ai hS F h
 ·obtain⟨au,bf,h⟩:=un h;refine go hS F ?_;refine Bz au (λz:Nat=>⟨[(0,BP l38)],[],z⟩) (λz=>(.inl ():Sum Unit Bool)) (.x 0) ?_ ?_
  ·refine Bp (λn (y:Int×Nat)=>C1 N l38 n y.1) (λy=>⟨[(0,BP l38),(3,.i y.1)],[],y.2⟩) (0,3) bf (Ch F) ?_;rintro n ⟨aj,bm⟩ aa;simp only[C1]at aa;refine An hS F aa (λ_ aa=>?_) (λ_ aa=>?_)
   ·obtain⟨⟨x47,x48⟩,ba,aa⟩:=un aa;obtain⟨ci,F⟩:=Cb Cz ba F;obtain⟨bh,az,aa⟩:=un aa;replace F:=fc az F;refine An hS F aa (λ_ aa=>?_) (λ_ aa=>?_)
    ·obtain rfl:=yJ aa;exact Ai hS F h
    ·obtain⟨bu,aa⟩:=un aa;exact Cd hS F (n,aj+1,bm+1+1+1) aa
   ·exact B4 hS F (bm+1) aa
  ·rintro cr rfl;obtain⟨an,co,h⟩:=un h;refine go hS F ?_;refine Bz an (λz:Nat=>⟨[],[],z⟩) (λz=>(.inl ():Sum Unit Bool)) (.x 2) ?_ ?_
   ·refine Bp (λn (y:Int×Nat)=>CA N l38 n y.1) (λy=>⟨[(0,BP l38),(4,.i y.1)],[],y.2⟩) (0,cr+1) co (Ch F) ?_;rintro n ⟨i67,bl⟩ ae;simp only[CA]at ae;refine An hS F ae (λ_ ae=>?_) (λ_ ae=>?_)
    ·obtain⟨aq,cn,ae⟩:=un ae;refine go hS F ?_;refine Bz aq (λz:Nat=>⟨[(0,BP l38),(4,.i i67)],[],z⟩) (λz=>(.inl ():Sum Unit Bool)) (.x 4) ?_ ?_
     ·refine Bp (λn (y:Int×Nat)=>Ck N l38 i67 n y.1) (λy=>⟨[(0,BP l38),(4,.i i67),(5,.i y.1)],[],y.2⟩) (0,bl+1+1) cn (Ch F) ?_;rintro n ⟨k70,bj⟩ ab;simp only[Ck]at ab;refine An hS F ab (λ_ ab=>?_) (λ_ ab=>?_)
      ·obtain⟨cy,cu,ce,b9,b7,bz,ab⟩:=un ab;refine An hS F ab (λ_ ab=>?_) (λ_ ab=>?_)
       ·obtain rfl:=yJ ab;obtain rfl:=yJ ae;exact Ai hS F h
       ·obtain⟨bw,ab⟩:=un ab;exact Cd hS F (n,k70+1,bj+1+1+1) ab
      ·exact B4 hS F (bj+1) ab
     ·rintro cq rfl;obtain⟨bv,ae⟩:=un ae;exact Cd hS F (n,i67+1,cq+1) ae
    ·exact B4 hS F (bl+1) ae
   ·rintro de rfl;exact Ai hS F h
def EX(N:Nat)(l81:List (Int×Int))(ai:Int)(ah:Int):Option ((List (Int×Int))×(List (Int×Int))×Int):=(Cj N l81).bind λbg=>bif ((((!bg)||(decide (ai<0)))||(decide ((l81.length:Int)<=ai)))||(decide (ah<0)))||(decide ((l81.length:Int)<=ah))then(some ([],[],70))else((Fx N l81 ai ah).bind λr86=>(Fx N l81 ah ai).bind λr88=>bif (decide ((r86.length:Int)<3))||(decide ((r88.length:Int)<3))then(some ([],[],70))else(some (r86,r88,0)))
@[go_sem] def AdK(N:Nat):Spec:=p0<|pS Aq λl81=>pI λai=>pI λah=>pE<|pF (EX N l81 ai ah) ([],[],0) λr=>.tup [BP r.1,BP r.2.1,.i r.2.2]
theorem xU(N:Nat):AG Tryz.prog 107 (AdK N):=by
 refine Ar x107.ok<|AF λl81=>Aa λai=>Aa λah=>Ad<|As λr h=>wx x107 (Ab (SB N)<|Ab (xT N)<|Aj) λ_ hS F=>?_
 dsimp only[x107,Ah,Aq];unfold EX at h;obtain⟨bg,ay,h⟩:=un h;replace F:=fc ay F;refine An hS F h (λ_ h=>?_) (λ_ h=>?_)
 ·exact Ai hS F h
 ·obtain⟨r86,aw,r88,av,h⟩:=un h;replace F:=fc av (fc aw F);refine An hS F h (λ_ h=>?_) (λ_ h=>?_)
  ·exact Ai hS F h
  ·exact Ai hS F h
end
def qa(l:List Pt)(t:Nat):Pt:=pa l (t%l.length)
theorem GL{l:List Pt}{t:Nat}(h:t<l.length):qa l t=pa l t:=by unfold qa;rw[tL h]
theorem Gh(l:List Pt)(t:Nat):qa l (t+l.length)=qa l t:=by unfold qa;rw[Nat.add_mod_right]
theorem Lj{l:List Pt}(h:0<l.length)(t:Nat):qa l t∈l:=Bo (t6 _ h)
theorem SN{n s a b:Nat}(ha:a<n)(hb:b<n)(h:a≠b):(s+a)%n≠(s+b)%n:=λe=>h (L4 ha hb e)
theorem GB{l:List Pt}(h:Conv l){s a:Nat}(h2:2<=a)(ha:a<l.length):0<Ao (qa l s) (qa l (s+1)) (qa l (s+a)):=by
 have hn:0<l.length:=by omega
 have e:=h (s%l.length) ((s+a)%l.length) (t6 _ hn) (t6 _ hn) (λe=>SN (s:=s) (by omega:a<l.length) (by omega:0<l.length) (by omega) (by simpa using e)) (λe=>SN (s:=s) (by omega:a<l.length) (by omega:1<l.length) (by omega) (by rw[e,HG]));rw[HG]at e;exact e
theorem Kg{l:List Pt}(h:Conv l)(s a:Nat)(h1:1<=a):∀d,a+d+1<l.length->0<Ao (qa l s) (qa l (s+a)) (qa l (s+(a+d+1)))
 |0,hd=>by have e:=GB h (s:=s+a) (a:=l.length-a) (by omega) (by omega);rw[show s+a+(l.length-a)=s+l.length by omega,Gh,Hd,Hd]at e;have e2:=Hd (qa l s) (qa l (s+a)) (qa l (s+a+1));rw[show s+(a+0+1)=s+a+1 by omega];have e3:=Hd (qa l (s+a)) (qa l (s+a+1)) (qa l s);omega
 |d+1,hd=>by
  have ih:=Kg h s a h1 d (by omega);have ed:=Kg h s (a+d+1) (by omega) 0 (by omega);rw[show s+(a+d+1+0+1)=s+(a+(d+1)+1) by omega]at ed;have lb:0<Ao (qa l s) (qa l (s+1)) (qa l (s+(a+d+1))):=GB h (by omega) (by omega);have lc:0<Ao (qa l s) (qa l (s+1)) (qa l (s+(a+(d+1)+1))):=GB h (by omega) (by omega);have la:0<=Ao (qa l s) (qa l (s+1)) (qa l (s+a)):=by
   by_cases e:a=1
   ·rw[e,E4];omega
   ·exact w6 (GB h (by omega) (by omega))
  generalize qa l (s+1)=v at*;generalize qa l (s+(a+(d+1)+1))=C at*;generalize qa l (s+(a+d+1))=B at*;generalize qa l (s+a)=A at*;generalize qa l s=o at*;have key:Ao o v B*Ao o A C=Ao o v A*Ao o B C+Ao o v C*Ao o A B:=by unfold Ao;grind
  have k1:0<=Ao o v A*Ao o B C:=qI la (by omega);have k2:=yS lc ih;exact IH lb (by omega)
def Dc(l:List Pt)(i m:Nat):List Pt:=(List.range (m+1)).map λt=>qa l (i+t)
theorem By(l:List Pt)(i m:Nat):(Dc l i m).length=m+1:=by simp[Dc]
theorem Gi{l:List Pt}{i m t:Nat}(h:t<=m):pa (Dc l i m) t=qa l (i+t):=by rw[De (by rw[By];omega)];simp[Dc]
theorem dS(N:Nat)(p:Pt):Gg N p.1 p.2=some (decide (On p)):=by
 unfold Gg;congr 1;by_cases h:On p
 ·rw[aB h];unfold On at h;simp only[oK,bK];omega
 ·rw[bJ h];unfold On at h;rw[u0];simp only[ne_eq,oK,bK];omega
theorem Tp(N:Nat){l:List Pt}{i:Nat}(hl:l.length<=1000)(h:i<l.length):CU N l i=some (pa l ((i+1)%l.length)):=by unfold CU;rw[Ae (by unfold Af;omega),Ae (by omega),Nw,F1 (t6 _ (by omega)),bS]
open Classical in
theorem dU{N:Nat}{l:List Pt}(hl:l.length<=50)(ho:∀p∈l,CD p){i:Nat}(hi:i<l.length)(n:Nat)(hn:l.length<n):Ck N l i n 0=some (if∀k,k<l.length->k≠i->k≠(i+1)%l.length->0<Ao (pa l i) (pa l ((i+1)%l.length)) (pa l k)then .inl ()else .inr false):=by
 have hm:(i+1)%l.length<l.length:=t6 _ (by omega);have step:∀n (k:Nat),k<l.length->Ck N l i (n+1) k=if(k≠i/\k≠(i+1)%l.length)/\Ao (pa l i) (pa l ((i+1)%l.length)) (pa l k)<=0 then some (.inr false)else Ck N l i n ((k+1:Nat):Int):=λn k hk=>by
  rw[Ck];have tu:=jU (N:=N) (ho _ (Bo hi)) (ho _ (Bo hm)) (ho _ (Bo hk));have e2:l.getD (i:Int).toNat (0,0)=pa l i:=by rw[t9];rfl
  have e3:l.getD (k:Int).toNat (0,0)=pa l k:=by rw[t9];rfl
  rw[Dq hk,cT,Tp N (by omega) hi,e2,e3,qO,tu,Nw,qO];rw[Ae (λ_=>by unfold Af;omega),Ae (λ_=>by omega),Ae (λ_=>⟨by omega,by omega⟩),Ae (λ_=>mU),Ae (λ_=>⟨by omega,by omega⟩),Ae (λ_=>mU),Ae (by unfold Af;omega)];by_cases h:(k≠i/\k≠(i+1)%l.length)/\Ao (pa l i) (pa l ((i+1)%l.length)) (pa l k)<=0
  ·rw[fU h];rw[AU _ (by obtain⟨⟨h1,h2⟩,h3⟩:=h;simp only[oK,bK];exact⟨⟨by omega,by omega⟩,h3⟩)]
  ·rw[eG h];rw[A1 _ (by rw[u0];intro hb;simp only[oK,bK]at hb;exact h ⟨⟨by omega,by omega⟩,hb.2⟩),ns]
 have key:=GK (L:=Ck N l i) (len:=l.length) (λk=>if(k≠i/\k≠(i+1)%l.length)/\Ao (pa l i) (pa l ((i+1)%l.length)) (pa l k)<=0 then some false else none)
  (λn k hk hf=>by
   rw[step n k hk,eG];intro h;rw[fU h]at hf;cases hf) (λn k r hk hf=>by
   by_cases h:(k≠i/\k≠(i+1)%l.length)/\Ao (pa l i) (pa l ((i+1)%l.length)) (pa l k)<=0
   ·rw[step n k hk,fU h];rw[fU h]at hf;cases hf;rfl
   ·rw[eG h]at hf;cases hf) (λn=>by
   rw[Ck,F2,cF]) n (by omega)
 rcases key with⟨e,h⟩|⟨j,r,a2,a3,a4,e⟩
 ·rw[e,fU];intro k hk h1 h2;have:=h k hk;rcases DV 0 (Ao (pa l i) (pa l ((i+1)%l.length)) (pa l k))with h3|h3
  ·exact h3
  ·rw[fU ⟨⟨h1,h2⟩,h3⟩]at this;cases this
 ·rw[e];split at a3
  ·rename_i h;cases a3
   rw[eG];intro hA;have:=hA j a2 h.1.1 h.1.2;omega
  ·cases a3
open Classical in
theorem F7{N:Nat}(hN:100<=N)(l:List Pt):Cj N l=some (vB l):=by
 unfold Cj;by_cases hl:l.length<3\/8<l.length
 ·have e2:vB l=false:=KK.2 λh=>by have:=h.l3;have:=h.l8;omega
  rw[AU _ (by simp;omega),e2]
 rw[A1 _ (by simp;omega)];have key:=GK (L:=C1 N l) (len:=l.length) (λi=>if On (pa l i)then none else some false) (λn k hk hf=>by
   rw[C1];have hon:On (pa l k):=by
    by_cases h:On (pa l k)
    ·exact h
    ·simp[h]at hf
   rw[Dq hk,cT,F1 hk,bS];simp only;rw[dS,bS,aB hon,A1 _ (by rfl),Ae (by unfold Af;omega),ns]) (λn k r hk hf=>by
   rw[C1];have hon:¬On (pa l k):=λh=>by simp[h]at hf
   rw[eG hon]at hf;rw[Dq hk,cT,F1 hk,bS];simp only;rw[dS,bS,bJ hon,AU _ (by rfl),<-yJ hf]) (λn=>by
   rw[C1,F2,cF]) N (by omega)
 rcases key with⟨e,h⟩|⟨j,r,a2,a3,a4,e⟩
 ·rw[e,bS];simp only;have hon:∀p∈l,On p:=λp hp=>by
   obtain⟨i,hi,rfl⟩:=Jf hp;have:=h i hi;by_cases ho:On (pa l i)
   ·exact ho
   ·simp[ho]at this
  have hs:∀p∈l,CD p:=λp hp=>(hon p hp).sml
  have step:∀n (i:Nat),i<l.length->CA N l (n+1) i=if∀k,k<l.length->k≠i->k≠(i+1)%l.length->0<Ao (pa l i) (pa l ((i+1)%l.length)) (pa l k)then CA N l n ((i+1:Nat):Int)else some (.inr false):=λn i hi=>by
   rw[CA,Dq hi,cT,dU (by omega) hs hi N (by omega)];split
   ·rw[bS];simp only;rw[Ae (by unfold Af;omega),ns]
   ·rw[bS]
  have key:=GK (L:=CA N l) (len:=l.length) (λi=>if∀k,k<l.length->k≠i->k≠(i+1)%l.length->0<Ao (pa l i) (pa l ((i+1)%l.length)) (pa l k)then none else some false)
   (λn k hk hf=>by
    rw[step n k hk];split
    ·rfl
    ·rename_i h;simp[eG h]at hf) (λn k r hk hf=>by
    rw[step n k hk];split
    ·rename_i h;rw[fU h]at hf;cases hf
    ·rename_i h;rw[eG h]at hf;cases hf;rfl) (λn=>by
    rw[CA,F2,cF]) N (by omega)
  rcases key with⟨e,h⟩|⟨j,r,a2,a3,a4,e⟩
  ·rw[e,bS];simp only;congr 1;symm;refine Li.2 ⟨by omega,by omega,hon,λi k hi hk n1 n2=>?_⟩;have:=h i hi;split at this
   ·rename_i h;exact h k hk n1 n2
   ·cases this
  ·rw[e,bS];simp only;split at a3
   ·cases a3
   ·rename_i h;cases a3
    congr 1;symm;exact KK.2 λhv=>h λk hk n1 n2=>hv.cv j k a2 hk n1 n2
 ·rw[e,bS];simp only;by_cases hon:On (pa l j)
  ·simp[hon]at a3
  ·simp only[hon,if_false,yE]at a3;subst a3;congr 1;symm;exact KK.2 λhv=>hon (hv.on _ (Bo a2))
def Eb(n i k:Nat):Nat:=(k+n-i)%n
theorem SO{n i k:Nat}(h:0<n):Eb n i k<n:=t6 _ h
theorem Nx{n i k:Nat}(hi:i<n)(hk:k<n):(i+Eb n i k)%n=k:=by
 unfold Eb;by_cases h:i<=k
 ·have e:(k+n-i)%n=k-i:=by rw[Nat.mod_eq_sub_mod (by omega),tL (by omega)];omega
  rw[e,show i+(k-i)=k by omega,tL hk]
 ·have e:(k+n-i)%n=k+n-i:=tL (by omega);rw[e,show i+(k+n-i)=k+n by omega,Nat.add_mod_right,tL hk]
theorem jZ(l:List Pt)(i m:Nat):Dc l i m++[qa l (i+m+1)]=Dc l i (m+1):=by unfold Dc;rw[List.range_succ (n:=m+1),vE];rfl
def Tq(l:List Pt)(i k:Nat):List Pt×List Pt×Int:=if Eb l.length i k<2\/Eb l.length k i<2 then([],[],70)else(Dc l i (Eb l.length i k),Dc l k (Eb l.length k i),0)
theorem WD{n d:Int}(h:Af n)(hd:1<d)(hd2:d<=1000):Af (n.tdiv d):=by
 unfold Af at*;rcases Int.le_total 0 n with h0|h0
 ·have h1:=Int.tdiv_nonneg h0 (show 0<=d by omega);have h2:n.tdiv d<=n:=Int.tdiv_le_self d h0;omega
 ·have e:n.tdiv d= -((-n).tdiv d):=by rw[Int.neg_tdiv,Int.neg_neg]
  have h1:=Int.tdiv_nonneg (show 0<=-n by omega) (show 0<=d by omega);have h2:(-n).tdiv d<=-n:=Int.tdiv_le_self d (by omega);omega
def Jg(l:List Pt)(i:Nat)(b:List Pt):Prop:=∀p∈b,α l i p<=0
open Classical in
def KL(l b:List Pt):Option Nat:=(List.range l.length).find? λi=>decide (Jg l i b)
def apart(a b:List Pt):Prop:=(∃i,i<a.length/\Jg a i b)\/∃i,i<b.length/\Jg b i a
theorem apart.symm{a b:List Pt}(h:apart a b):apart b a:=Or.symm h
theorem N0{l b:List Pt}{i:Nat}(h:KL l b=some i):i<l.length/\Jg l i b:=by unfold KL at h;have h1:=List.find?_some h;have h2:=List.mem_of_find?_eq_some h;exact⟨by simpa using h2,by simpa using h1⟩
theorem Uh{l b:List Pt}(h:KL l b=none):∀i,i<l.length->¬Jg l i b:=by unfold KL at h;rw[List.find?_eq_none]at h;intro i hi hs;exact h i (by simpa using hi) (by simpa using hs)
open Classical in
theorem tE{N:Nat}{b:List Pt}(hb:b.length<=1000)(hN:1000<N)(hs:∀p∈b,CD p){u w:Pt}(hu:CD u)(hw:CD w):B0 N b u.1 u.2 w.1 w.2=some (decide (∃p∈b,0<Ao u w p)):=by
 unfold B0 CJ;have step:∀n (k:Nat),k<b.length->AQ N b u.1 u.2 w.1 w.2 (n+1) k=if 0<Ao u w (pa b k)then some (.inr (k:Int))else AQ N b u.1 u.2 w.1 w.2 n ((k+1:Nat):Int):=λn k hk=>by
  rw[AQ,Dq hk,cT,F1 hk,bS];simp only;unfold Je;rw[YC hu hw (hs _ (Bo hk)),bS,bS,Ae (by unfold Af;omega),ns];by_cases h:0<Ao u w (pa b k)
  ·rw[aB h,cT,fU h]
  ·rw[bJ h,cF,eG h]
 have key:=GK (L:=AQ N b u.1 u.2 w.1 w.2) (len:=b.length) (λk=>if 0<Ao u w (pa b k)then some (k:Int)else none)
  (λn k hk hf=>by
   rw[step n k hk,eG];intro h;rw[fU h]at hf;cases hf) (λn k r hk hf=>by
   by_cases h:0<Ao u w (pa b k)
   ·rw[step n k hk,fU h];rw[fU h]at hf;rw[<-yJ hf]
   ·rw[eG h]at hf;cases hf) (λn=>by
   rw[AQ,F2,cF]) N (by omega)
 rcases key with⟨e,h⟩|⟨j,r,a2,a3,a4,e⟩
 ·rw[e,bS];simp only;rw[bS];congr 1;rw[bJ (by decide)];symm;rw[cY];rintro⟨p,hp,hn⟩;obtain⟨i,hi,rfl⟩:=Jf hp;have:=h i hi;rw[fU hn]at this;cases this
 ·rw[e,bS];simp only;rw[bS];split at a3
  ·rename_i h;rw[<-yJ a3,aB (by omega)];congr 1;symm;rw[bK];exact⟨_,Bo a2,h⟩
  ·cases a3
open Classical in
theorem SP{N:Nat}(hN:1000<N){l b:List Pt}(hl:l.length<=1000)(hb:b.length<=1000)(hsl:∀p∈l,CD p)(hsb:∀p∈b,CD p):∀(k j:Nat),j+k=l.length->EK N b ((List.range' j k).map λi=>(pa l i,pa l ((i+1)%l.length))) (j:Int)=some (match(List.range' j k).find? λi=>decide (Jg l i b)with|some i=>.inr (i:Int)|none=>.inl ())
 |0,j,h=>by simp[EK]
 |k+1,j,h=>by
  have hm:(j+1)%l.length<l.length:=t6 _ (by omega);rw[z8,iW,List.find?_cons];rw[show(pa l j,pa l ((j+1)%l.length))=(((pa l j).1,(pa l j).2),((pa l ((j+1)%l.length)).1,(pa l ((j+1)%l.length)).2))from rfl,EK,tE hb hN hsb (hsl _ (Bo (by omega))) (hsl _ (Bo hm)),bS];by_cases hs:Jg l j b
  ·have e:¬∃p∈b,0<Ao (pa l j) (pa l ((j+1)%l.length)) p:=by rintro⟨p,hp,hq⟩;have:=hs p hp;unfold α at this;omega
   rw[bJ e,AU _ (by rfl),aB hs]
  ·have e:∃p∈b,0<Ao (pa l j) (pa l ((j+1)%l.length)) p:=by
    by_cases h:∃p∈b,0<Ao (pa l j) (pa l ((j+1)%l.length)) p
    ·exact h
    ·exact absurd (λp hp=>by
      rcases DV 0 (α l j p)with h1|h1
      ·exact absurd ⟨p,hp,h1⟩ h
      ·exact h1) hs
   rw[aB e,A1 _ (by rfl),bJ hs,Ae (by unfold Af;omega),<-ns];exact SP hN hl hb hsl hsb k (j+1) (by omega)
theorem WE{N:Nat}(hN:1000<N){l b:List Pt}(hl:l.length<=1000)(hb:b.length<=1000)(hsl:∀p∈l,CD p)(hsb:∀p∈b,CD p):HH N l b=some (match KL l b with|some i=>(i:Int)|none=> -1):=by unfold HH;have:=SP hN hl hb hsl hsb l.length 0 (by omega);rw[<-y0,oL]at this;rw[Ae (by omega),show Co l=(List.range l.length).map λi=>(pa l i,pa l ((i+1)%l.length))from rfl,this,bS];unfold KL;cases(List.range l.length).find? λi=>@decide (Jg l i b) (Classical.propDecidable _)<;>rfl
def IK(a b:List Pt):Int×Int×Bool:=match KL a b with|some i=>(0,(i:Int),true)|none=>match KL b a with|some i=>(1,(i:Int),true)|none=>(0,0,false)
theorem XN(a b:List Pt):(∃i,i<a.length/\Jg a i b/\IK a b=(0,(i:Int),true))\/(∃i,i<b.length/\Jg b i a/\IK a b=(1,(i:Int),true))\/(¬apart a b/\IK a b=(0,0,false)):=by
 unfold IK;cases h:KL a b with
 |some i=>exact .inl ⟨i,(N0 h).1,(N0 h).2,rfl⟩
 |none=>
  cases h2:KL b a with
  |some i=>exact .inr (.inl ⟨i,(N0 h2).1,(N0 h2).2,rfl⟩)
  |none=>
   refine .inr (.inr ⟨?_,rfl⟩);rintro(⟨i,hi,hs⟩|⟨i,hi,hs⟩)
   ·exact Uh h i hi hs
   ·exact Uh h2 i hi hs
theorem QU{a b:List Pt}:(IK a b).2.2=true↔apart a b:=by
 rcases XN a b with⟨i,h1,h2,h3⟩|⟨i,h1,h2,h3⟩|⟨h1,h3⟩<;>rw[h3]
 ·simp only[true_iff];exact .inl ⟨i,h1,h2⟩
 ·simp only[true_iff];exact .inr ⟨i,h1,h2⟩
 ·simp[h1]
theorem Acv{N:Nat}(hN:1001<=N){a b:List Pt}(ha:VP a)(hb:VP b):Hs N a b=some (IK a b):=by
 unfold Hs;have a8:=ha.l8;have b8:=hb.l8;rw[KT (by omega) ha,KT (by omega) hb,bS,Ae (λ_=>mU),qO,A1 _ (by rfl),WE (by omega) (by omega) (by omega) ha.sml hb.sml,bS,WE (by omega) (by omega) (by omega) hb.sml ha.sml];unfold IK;cases KL a b with
 |some i=>simp only;rw[AU _ (aB (by omega))]
 |none=>
  simp only;rw[A1 _ (by decide),bS];cases KL b a with
  |some i=>simp only;rw[AU _ (aB (by omega))]
  |none=>simp only;rw[A1 _ (by decide)]
theorem SQ{N:Nat}(hN:1001<=N){a b:List Pt}(ha:VP a)(hb:VP b):EB N a b=some (!(IK a b).2.2):=by unfold EB;rw[Acv hN ha hb,show IK a b=((IK a b).1,(IK a b).2.1,(IK a b).2.2)from rfl,bS,KT (by omega) ha,KT (by omega) hb];simp only;rw[bS,Ae (λ_=>mU)];rfl
theorem ZK{a:List Pt}(h:VP a):¬apart a a:=by
 have l3:=h.l3;have key:∀i,i<a.length->¬Jg a i a:=λi hi hs=>by
  obtain⟨k,hk,n1,n2⟩:∃k,k<a.length/\k≠i/\k≠(i+1)%a.length:=by
   by_cases h0:0≠i/\0≠(i+1)%a.length
   ·exact⟨0,by omega,h0.1,h0.2⟩
   by_cases h1:1≠i/\1≠(i+1)%a.length
   ·exact⟨1,by omega,h1.1,h1.2⟩
   exact⟨2,by omega,by omega,by omega⟩
  have e1:=h.cv i k hi hk n1 n2;have e2:=hs _ (Bo hk);unfold α at e2;omega
 rintro(⟨i,hi,hs⟩|⟨i,hi,hs⟩)
 ·exact key i hi hs
 ·exact key i hi hs
theorem dV{g p a b:Pt}(ha:DP g p a=0)(hb:DP g p b=0)(hg:g≠(0,0)):Ao p a b=0:=by
 have e1:g.1*Ao p a b=DP g p a*(b.2-p.2)-DP g p b*(a.2-p.2):=by unfold DP Ao;grind
 have e2:g.2*Ao p a b=DP g p b*(a.1-p.1)-DP g p a*(b.1-p.1):=by unfold DP Ao;grind
 rw[ha,hb]at e1 e2;simp only[Int.zero_mul,Int.sub_self,D2]at e1 e2;rcases e1 with e1|e1
 ·rcases e2 with e2|e2
  ·exact absurd (Gb e1 e2) hg
  ·exact e2
 ·exact e1
theorem QV{n:Nat}{v:Nat->Pt}(hn:0<n)(per:∀t,v (t+n)=v t){p g:Pt}(h:∀t,0<Ao (v t) (v (t+1)) p)(hg:g≠(0,0))(hh:∀t,0<=DP g p (v t)):False:=by
 have h':∀t,0<Ao p (v t) (v (t+1)):=λt=>by rw[<-Hd];exact h t
 obtain⟨m,hm⟩:∃m,0<DP g p (v m):=by
  by_cases h0:0<DP g p (v 0)
  ·exact⟨0,h0⟩
  by_cases h1:0<DP g p (v 1)
  ·exact⟨1,h1⟩
  have z0:=hh 0;have z1:=hh 1;have:=dV (show DP g p (v 0)=0 by omega) (show DP g p (v 1)=0 by omega) hg;have:0<Ao p (v 0) (v 1):=h' 0;omega
 have key:∀t,0<Ao p (v m) (v (m+(t+1))):=by
  intro t;induction t with
  |zero=>exact h' m
  |succ t ih=>
   have pl:=ZE g p (v m) (v (m+(t+1))) (v (m+(t+1+1)));have hb:=hh (m+(t+1));have hc:=hh (m+(t+1+1));have hbc:=h' (m+(t+1));rw[show m+(t+1)+1=m+(t+1+1) by omega]at hbc;have k1:=yS hm hbc;have k2:=qI hc (w6 ih);have hb':0<DP g p (v (m+(t+1))):=by
    rcases Int.lt_or_eq_of_le hb with q|q
    ·exact q
    ·rw[<-q,Int.zero_mul]at pl;omega
   exact IH hb' (by omega)
 have:=key (n-1);rw[show m+(n-1+1)=m+n by omega,per,E4]at this;omega
theorem JB{l:List Pt}(hl:0<l.length)(t:Nat)(p:Pt):Ao (qa l t) (qa l (t+1)) p=α l (t%l.length) p:=by unfold α qa;rw[HG]
open Go
