import Derived.Test.YtjdchfljifacoaaGreatDoorD6
import Derived.Shelf.Small.Bits
set_option linter.all false
set_option maxRecDepth 100000
set_option maxHeartbeats 8000000
noncomputable section
namespace Go.Proofs.YtjdchfljifacoaaGreatDoor.Am
theorem Ca{E:Type}(b:Bool)(h:b=true)(x y:E):(bif b then x else y)=x:=by subst h;rfl
theorem BL{E:Type}(b:Bool)(h:b=false)(x y:E):(bif b then x else y)=y:=by subst h;rfl
theorem bS'{E J:Type}(o:Option E)(a:E)(h:o=some a)(f:E->Option J):o.bind f=f a:=by subst h;rfl
theorem cT{E:Type}(x y:E):(bif true then x else y)=x:=Ca _ rfl x y
theorem cF{E:Type}(x y:E):(bif false then x else y)=y:=BL _ rfl x y
theorem bS{E J:Type}(a:E)(f:E->Option J):(some a).bind f=f a:=bS' _ a rfl f
theorem Q3{J:Type}{L:Nat->Int->Option (Sum Unit J)}{len:Nat}(f:Nat->Option J)(h1:∀n (k:Nat),k<len->f k=none->L (n+1) k=L n ((k+1:Nat):Int))(h2:∀n (k:Nat) r,k<len->f k=some r->L (n+1) k=some (.inr r))(h3:∀n,L (n+1) len=some (.inl ())):∀(n k:Nat),k<=len->len<n+k->(L n k=some (.inl ())/\∀j,k<=j->j<len->f j=none)\/∃j r,k<=j/\j<len/\f j=some r/\(∀i,k<=i->i<j->f i=none)/\L n k=some (.inr r)
 |0,k,hk,hn=>by omega
 |n+1,k,hk,hn=>by
  by_cases he:k=len
  ·grind
  cases hf:f k with
  |some r=>grind
  |none=>
   rcases Q3 f h1 h2 h3 n (k+1) (by omega) (by omega)with⟨e,h⟩|⟨j,r,a1,a2,a3,a4,a5⟩
   all_goals grind
theorem HK{J:Type}{L:Nat->Int->Option (Sum Unit J)}{len:Nat}(f:Nat->Option J)(h1:∀n (k:Nat),k<len->f k=none->L (n+1) k=L n ((k+1:Nat):Int))(h2:∀n (k:Nat) r,k<len->f k=some r->L (n+1) k=some (.inr r))(h3:∀n,L (n+1) len=some (.inl ()))(n:Nat)(hn:len<n):(L n 0=some (.inl ())/\∀j,j<len->f j=none)\/∃j r,j<len/\f j=some r/\(∀i,i<j->f i=none)/\L n 0=some (.inr r):=by have:=Q3 f h1 h2 h3 n 0 (by omega) (by omega);grind
theorem ns(k:Nat):((k+1:Nat):Int)=(k:Int)+1:=by omega
theorem Qa(i n:Nat):((i:Int)+1).tmod (n:Int)=(((i+1)%n:Nat):Int):=by rfl
theorem GB{l:List Pt}{i:Nat}(h:i<l.length):Bz l (i:Int)=some ((pa l i).1,(pa l i).2):=by rw[MJ (0,0) (by omega) (by omega),A19];rfl
theorem BY{E:Type}{p q:Prop}[Decidable p][Decidable q]{k:Option E}(h:p->q):gd (p->q) k=k:=Ab h
theorem S7{a b c:Pt}(ha:CN a)(hb:CN b)(hc:CN c): -2000000<=Aw a b c/\Aw a b c<=2000000:=by unfold CN at*;have h1:=Oo (x:=b.1-a.1) (y:=c.2-a.2) (by omega) (by omega);have h2:=Oo (x:=b.2-a.2) (y:=c.1-a.1) (by omega) (by omega);unfold Aw;omega
theorem Lo{N:Nat}{a b c:Pt}(ha:CN a)(hb:CN b)(hc:CN c):DH N a.1 a.2 b.1 b.2 c.1 c.2=some (Aw a b c):=by unfold CN at*;have h1:=Oo (x:=b.1-a.1) (y:=c.2-a.2) (by omega) (by omega);have h2:=Oo (x:=b.2-a.2) (y:=c.1-a.1) (by omega) (by omega);unfold DH Aw;rw[Ab (by omega),Ab (by omega),Ab (by omega),Ab (by omega),Ab (by omega),Ab (by omega),Ab (by omega)]
theorem eF{N:Nat}{a b c:Pt}(ha:CN a)(hb:CN b)(hc:CN c):EH N a.1 a.2 b.1 b.2 c.1 c.2=some (Aw a b c):=by unfold CN at*;have h1:=Oo (x:=b.1-a.1) (y:=c.2-a.2) (by omega) (by omega);have h2:=Oo (x:=b.2-a.2) (y:=c.1-a.1) (by omega) (by omega);unfold EH Aw;rw[Ab (by omega),Ab (by omega),Ab (by omega),Ab (by omega),Ab (by omega),Ab (by omega),Ab (by omega)]
def On(p:Pt):Prop:=(0<=p.1/\p.1<=40)/\(0<=p.2/\p.2<=40)
instance(p:Pt):Decidable (On p):=inferInstanceAs (Decidable ((_/\_)/\(_/\_)))
theorem On.sml{p:Pt}(h:On p):CN p:=by unfold On at h;unfold CN;omega
structure VP(l:List Pt):Prop where
 l3:3<=l.length
 l8:l.length<=8
 on:∀p∈l,On p
 cv:Conv l
open Classical in
def vB(l:List Pt):Bool:=decide (VP l)
theorem Ox{l:List Pt}:vB l=true↔VP l:=by unfold vB;simp
theorem KN{l:List Pt}:vB l=false↔¬VP l:=by unfold vB;simp
theorem Uv(N:Nat)(p:Pt):Hm N p.1 p.2=some (!decide (On p)):=by
 unfold Hm;by_cases h:On p
 ·grind[On]
 ·rw[s6 h];unfold On at h;grind
open Classical in
theorem Uw{N:Nat}{l:List Pt}(hN:100<=N)(hl:l.length<=50):A7 N l=some (decide (∃p∈l,¬On p)):=by
 unfold A7 Cm;have key:=HK (L:=AN N l) (λi=>if On (pa l i)then none else some (i)) (λn k hk hf=>by
   rw[AN];have e1:decide ((k:Int)<(l.length))=true:=by simp;omega
   have hon:On (pa l k):=by grind
   rw[e1,cT,GB hk];simp only[bS];rw[Uv];simp only[bS,hon,decide_true,Bool.not_true,cF];rw[Ab (by omega),ns]) (λn k r hk hf=>by
   rw[AN];have e1:decide ((k:Int)<(l.length))=true:=by simp;omega
   have hon:¬On (pa l k):=by grind
   rw[t7 hon]at hf;rw[e1,cT,GB hk];simp;rw[Uv];simp only[bS,hon,decide_false,A47,cT];rw[<-yJ hf]) (λn=>by
   rw[AN];have e1:decide ((l.length:Int)<(l.length))=false:=by simp
   rw[e1,cF]) N (by omega)
 rcases key with⟨e,h⟩|⟨j,r,a2,a3,a4,e⟩
 ·rw[e];simp;congr 1;grind[NA]
 ·rw[e];simp only[bS];by_cases hon:On (pa l j)
  ·simp[hon]at a3
  ·simp only[hon,if_false,yE]at a3;subst a3;congr 1;rw[show decide ((0:Int)<=(j))=true from by simp];symm;simp only[s7];exact⟨_,B4 a2,hon⟩
open Classical in
theorem eG{N:Nat}{l:List Pt}(hl:l.length<=50)(ho:∀p∈l,CN p){i:Nat}(hi:i<l.length)(n:Nat)(hn:l.length<n):C4 N l i (pa l i).1 (pa l i).2 n 0=some (if∀k,k<l.length->k≠i->k≠(i+1)%l.length->0<Aw (pa l i) (pa l ((i+1)%l.length)) (pa l k)then .inl ()else .inr false):=by
 have hm:(i+1)%l.length<l.length:=A17 _ (by omega);have step:∀n (k:Nat),k<l.length->C4 N l i (pa l i).1 (pa l i).2 (n+1) k=if(k≠i/\k≠(i+1)%l.length)/\Aw (pa l i) (pa l ((i+1)%l.length)) (pa l k)<=0 then some (.inr false)else C4 N l i (pa l i).1 (pa l i).2 n ((k+1):Int):=λn k hk=>by
  rw[C4];have e1:decide ((k:Int)<(l.length))=true:=by simp;omega
  have tu:=Lo (N:=N) (ho _ (B4 hi)) (ho _ (B4 hm)) (ho _ (B4 hk));have e2:(l.getD (((i+1)%l.length):Int).toNat (0,0))=pa l ((i+1)%l.length):=by rfl
  rw[e1,cT,GB hk];simp only[bS,Qa,w8];rw[Ab (by omega),Ab (by grind),Ab (by omega)];grind
 have key:=HK (L:=C4 N l i (pa l i).1 (pa l i).2) (len:=l.length) (λk=>if(k≠i/\k≠(i+1)%l.length)/\Aw (pa l i) (pa l ((i+1)%l.length)) (pa l k)<=0 then some false else none)
  (by grind) (by grind) (λn=>by
   rw[C4];have e1:decide ((l.length:Int)<(l.length))=false:=by simp
   rw[e1,cF]) n (by omega)
 grind
open Classical in
theorem IQ{N:Nat}(hN:100<=N)(l:List Pt):Bt N l=some (vB l):=by
 unfold Bt;by_cases hl:l.length<3\/8<l.length
 ·have e1:((decide ((l.length:Int)<3))||(decide (8<(l.length:Int))))=true:=by simp;omega
  have e2:vB l=false:=KN.2 λh=>by have:=h.l3;have:=h.l8;omega
  simp only[e1,Bool.true_or,cT,e2];rw[Ab (by grind)]
 have e1:((decide ((l.length:Int)<3))||(decide (8<(l.length:Int))))=false:=by simp;omega
 rw[Ab (by grind[Uw]),Uw hN (by omega)];simp only[e1,Bool.false_or,A00];by_cases ho:∃p∈l,¬On p
 ·rw[show decide (∃p∈l,¬On p)=true from by simpa using ho,cT];have e2:=KN.2 λh=>by obtain⟨p,hp,hn⟩:=ho;exact hn (h.on p hp)
  rw[e2]
 rw[show decide (∃p∈l,¬On p)=false from by simpa using ho,cF];have hon:∀p∈l,On p:=by grind
 have hs:=λp hp=>(hon p hp).sml
 have step:∀n (i:Nat),i<l.length->DB N l (n+1) i=if∀k,k<l.length->k≠i->k≠(i+1)%l.length->0<Aw (pa l i) (pa l ((i+1)%l.length)) (pa l k)then DB N l n ((i+1:Nat))else some (.inr false):=λn i hi=>by
  rw[DB];have e1:decide ((i:Int)<(l.length))=true:=by simp;omega
  rw[e1,cT,GB hi];simp only[bS];rw[Ab (by omega),Ab (by omega),eG (by omega) hs hi N (by omega)];split
  ·simp only[bS];rw[Ab (by omega),ns]
  ·simp
 have key:=HK (L:=DB N l) (len:=l.length) (λi=>if∀k,k<l.length->k≠i->k≠(i+1)%l.length->0<Aw (pa l i) (pa l ((i+1)%l.length)) (pa l k)then none else some false)
  (by grind) (by grind) (λn=>by
   rw[DB];have e1:decide ((l.length:Int)<(l.length))=false:=by simp
   rw[e1,cF]) N (by omega)
 rcases key with⟨e,h⟩|⟨j,r,a2,a3,a4,e⟩
 ·rw[e];simp only[bS];congr 1;symm;refine Ox.2 ⟨by omega,by omega,hon,λi k hi hk n1 n2=>?_⟩;grind
 ·rw[e];simp;split at a3
  ·cases a3
  ·rename_i h;cases a3
   congr 1;symm;exact KN.2 λhv=>h λk hk n1 n2=>hv.cv j k a2 hk n1 n2
theorem G2{N:Nat}(hN:100<=N){l:List Pt}(h:VP l):Bt N l=some true:=by rw[IQ hN,Ox.2 h]
def pk(c n:Int):Int:=if c<0 then(-(c+1)).tmod n else c.tmod n
theorem GO{c n:Int}(hn:0<n):0<=pk c n/\pk c n<n:=by
 unfold pk;split
 ·exact⟨Int.tmod_nonneg _ (by omega),Int.tmod_lt_of_pos _ hn⟩
 simp_all[Int.tmod_nonneg,Int.tmod_lt_of_pos]
theorem WA{l:List Pt}{i:Nat}(h:i<l.length):l.drop i=pa l i::l.drop (i+1):=by rw[Fc h];simp_all
theorem Fe{k n:Nat}(h:k<n):decide ((k:Int)<(n:Int))=true:=by simp;omega
theorem K3(n:Nat):decide ((n:Int)<(n:Int))=false:=by simp
theorem ptE{p q:Pt}:(decide (p.1=q.1)&&decide (p.2=q.2))=decide (p=q):=by grind
theorem VD{n k i j:Nat}(hi:i<n)(hj:j<n)(h:(k+i)%n=(k+j)%n):i=j:=by
 have h1:((k%n+i)%n)=((k%n+j)%n):=by simpa[Nat.add_mod]using h
 have hk:k%n<n:=A17 _ (by omega);generalize k%n=m at*;by_cases a:m+i<n<;>by_cases b:m+j<n
 ·rw[A13 a,A13 b]at h1;omega
 ·rw[A13 a,Nat.mod_eq_sub_mod (by omega),A13 (by omega)]at h1;omega
 ·rw[A13 b,Nat.mod_eq_sub_mod (by omega),A13 (by omega)]at h1;omega
 ·rw[Nat.mod_eq_sub_mod (by omega),A13 (by omega),Nat.mod_eq_sub_mod (by omega),A13 (by omega)]at h1;omega
def α(l:List Pt)(i:Nat)(p:Pt):Int:=Aw (pa l i) (pa l ((i+1)%l.length)) p
def inn(l:List Pt)(p:Pt):Prop:=∀i,i<l.length->0<α l i p
def clo(l:List Pt)(p:Pt):Prop:=∀i,i<l.length->0<=α l i p
theorem inn.clo{l:List Pt}{p:Pt}(h:inn l p):clo l p:=λi hi=>A29 (h i hi)
open Classical in
def sd(l:List Pt)(p:Pt):Int:=if inn l p then 1 else if clo l p then 0 else-1
theorem Mf{l:List Pt}{e:Pt×Pt}:e∈BA l↔∃i,i<l.length/\e=(pa l i,pa l ((i+1)%l.length)):=by unfold BA;grind
theorem HZ{l:List Pt}(hs:∀p∈l,CN p):∀e∈BA l,CN e.1/\CN e.2:=by grind[Mf,B4,A17]
theorem Lf(N:Nat)(x y:Int):DM N x y=some (if x<y then-1 else if y<x then 1 else 0):=by unfold DM Gv;grind
theorem VP.sml{l:List Pt}(h:VP l):∀p∈l,CN p:=λp hp=>(h.on p hp).sml
theorem eH{f:Pt->Pt}{l:List Pt}{i:Nat}(hi:i<l.length)(v:Pt):((l.take i).map f++l.drop i).set i v=(l.take i).map f++v::l.drop (i+1):=by
 have e:((l.take i).map f).length=i:=by simp;omega
 rw[WA hi,List.set_append_right _ _ (by omega),e,Nat.sub_self,List.set_cons_zero]
theorem Zy{f:Pt->Pt}{l:List Pt}{i:Nat}(hi:i<l.length)(u v:Pt):((l.take i).map f++u::l.drop (i+1)).set i v=(l.take i).map f++v::l.drop (i+1):=by
 have e:((l.take i).map f).length=i:=by simp;omega
 rw[List.set_append_right _ _ (by omega),e,Nat.sub_self,List.set_cons_zero]
theorem Ux{f:Pt->Pt}{l R:List Pt}{i:Nat}(hi:i<l.length)(u:Pt):Bz ((l.take i).map f++u::R) (i:Int)=some u:=by
 have e:((l.take i).map f).length=i:=by simp;omega
 rw[Rz,List.getElem?_append_right (by omega),e,Nat.sub_self];rfl
theorem eI{f:Pt->Pt}{l:List Pt}{i:Nat}(hi:i<l.length):(l.take i).map f++f (pa l i)::l.drop (i+1)=(l.take (i+1)).map f++l.drop (i+1):=by rw[List.take_succ_eq_append_getElem hi,A24,List.map_singleton,<-Fc hi,A06];rfl
theorem VP.ne{l:List Pt}(h:VP l){i:Nat}(hi:i<l.length):pa l i≠pa l ((i+1)%l.length):=λe=>by
 have l3:=h.l3;obtain⟨k,hk,n1,n2⟩:∃k,k<l.length/\k≠i/\k≠(i+1)%l.length:=by
  by_cases h0:0≠i/\0≠(i+1)%l.length
  ·exact⟨0,by omega,h0.1,h0.2⟩
  by_cases h1:1≠i/\1≠(i+1)%l.length
  ·exact⟨1,by omega,h1.1,h1.2⟩
  exact⟨2,by omega,by omega,by omega⟩
 have:=h.cv i k hi hk n1 n2;rw[<-e,Zj]at this;omega
def EdS(es:List (Pt×Pt)):Prop:=∀e∈es,CN e.1/\CN e.2
theorem EdS.tl{e:Pt×Pt}{es:List (Pt×Pt)}(h:EdS (e::es)):EdS es:=λx hx=>h x (by simp[hx])
def Sz(o:Pt)(e:Pt×Pt):Int:=Aw o e.1 e.2
def UA(o:Pt)(e:Pt×Pt):Int:=Aw o e.1 e.2*(o.1+e.1.1+e.2.1)
def UB(o:Pt)(e:Pt×Pt):Int:=Aw o e.1 e.2*(o.2+e.1.2+e.2.2)
def E8(l:List Pt):Int:=((BA l).map (Sz (pa l 0))).sum
def IR(l:List Pt):Int:=((BA l).map (UA (pa l 0))).sum
def Oz(l:List Pt):Int:=((BA l).map (UB (pa l 0))).sum
theorem wK{x y:Int}(hx: -2000000<=x/\x<=2000000)(hy: -1300<=y/\y<=1300): -2600000000<=x*y/\x*y<=2600000000:=by have h1:0<=(2000000-x)*(1300+y):=z8 (by omega) (by omega);have h2:0<=(2000000+x)*(1300-y):=z8 (by omega) (by omega);have h3:0<=(2000000+x)*(1300+y):=z8 (by omega) (by omega);have h4:0<=(2000000-x)*(1300-y):=z8 (by omega) (by omega);constructor<;>grind
theorem jK{o:Pt}{e:Pt×Pt}(ho:CN o)(h:CN e.1/\CN e.2): -2000000<=Sz o e/\Sz o e<=2000000:=S7 ho h.1 h.2
theorem jL{o:Pt}{e:Pt×Pt}(ho:CN o)(h:CN e.1/\CN e.2): -2600000000<=UA o e/\UA o e<=2600000000:=by have:=S7 ho h.1 h.2;unfold CN at*;exact wK this (by omega)
theorem jM{o:Pt}{e:Pt×Pt}(ho:CN o)(h:CN e.1/\CN e.2): -2600000000<=UB o e/\UB o e<=2600000000:=by have:=S7 ho h.1 h.2;unfold CN at*;exact wK this (by omega)
theorem SA(N:Nat){l:List Pt}(hl:0<l.length)(hs:∀p∈l,CN p):∀(es:List (Pt×Pt))(k:Nat)(o:Int),EdS es->k+es.length<=1000->(-3000000*k<=o/\o<=3000000*k)->D9 N l es o=some (o+(es.map (Sz (pa l 0))).sum)
 |[],k,o,h,hk,hb=>by simp[D9]
 |e::es,k,o,h,hk,hb=>by have he:=h e (by simp);have ho:=hs _ (B4 hl);have b:=jK ho he;rw[show e=((e.1.1,e.1.2),(e.2.1,e.2.2))from rfl,D9,show Bz l 0=some ((pa l 0).1,(pa l 0).2)from GB (i:=0) hl,bS];simp only;simp only[A03]at hk;rw[Lo ho he.1 he.2,bS,Ab (by unfold Ai;unfold Sz at b;omega),SA N hl hs es (k+1) _ h.tl (by omega) (by unfold Sz at b;omega),w5,List.sum_cons,Int.add_assoc];rfl
theorem nS{N:Nat}(hN:100<=N){l:List Pt}(h:VP l):Hn N l=some (E8 l):=by unfold Hn;have l3:=h.l3;have l8:=h.l8;have:=SA N (l:=l) (by omega) h.sml (BA l) 0 0 (HZ h.sml) (by rw[Jv];omega) (by omega);rw[G2 hN h,bS,BL _ (by rfl),Ab (by omega),this,bS,Int.zero_add];rfl
theorem UC(N:Nat){l:List Pt}(hl:0<l.length)(hs:∀p∈l,CN p):∀(es:List (Pt×Pt))(k:Nat)(u v:Int),EdS es->k+es.length<=1000->(-3000000000*k<=u/\u<=3000000000*k)->(-3000000000*k<=v/\v<=3000000000*k)->Ds N l es u v=some (u+(es.map (UB (pa l 0))).sum,v+(es.map (UA (pa l 0))).sum)
 |[],k,u,v,h,hk,h1,h2=>by simp[Ds]
 |e::es,k,u,v,h,hk,h1,h2=>by have he:=h e (by simp);have ho:=hs _ (B4 hl);have b1:=jL ho he;have b2:=jM ho he;have tb:=S7 ho he.1 he.2;have ho':=ho;obtain⟨he1,he2⟩:=he;rw[show e=((e.1.1,e.1.2),(e.2.1,e.2.2))from rfl,Ds,show Bz l 0=some ((pa l 0).1,(pa l 0).2)from GB (i:=0) hl,bS];simp only;simp only[A03]at hk;rw[Lo ho he1 he2,bS];unfold CN at ho' he1 he2;have c1:Aw (pa l 0) e.1 e.2*(((pa l 0).1+e.1.1)+e.2.1)=UA (pa l 0) e:=rfl;have c2:Aw (pa l 0) e.1 e.2*(((pa l 0).2+e.1.2)+e.2.2)=UB (pa l 0) e:=rfl;rw[c1,c2,Ab (by unfold Ai;omega),Ab (by unfold Ai;omega),Ab (by unfold Ai;omega),Ab (by unfold Ai;omega),Ab (by unfold Ai;omega),Ab (by unfold Ai;omega),Ab (by unfold Ai;omega),Ab (by unfold Ai;omega),UC N hl hs es (k+1) _ _ h.tl (by omega) (by omega) (by omega)];rw[show((e.1.1,e.1.2),(e.2.1,e.2.2))=e from rfl,w5,List.sum_cons,w5,List.sum_cons,Int.add_assoc,Int.add_assoc]
theorem wL{N:Nat}(hN:100<=N){l:List Pt}(h:VP l):Gw N l=some (IR l,Oz l):=by unfold Gw;have l3:=h.l3;have l8:=h.l8;have:=UC N (l:=l) (by omega) h.sml (BA l) 0 0 0 (HZ h.sml) (by rw[Jv];omega) (by omega) (by omega);rw[G2 hN h,bS,BL _ (by rfl),Ab (by omega),this,bS,Int.zero_add,Int.zero_add];rfl
theorem S8{E:Type}(f:E->Int)(B:Int):∀(es:List E),(∀e∈es,-B<=f e/\f e<=B)->-B*es.length<=(es.map f).sum/\(es.map f).sum<=B*es.length
 |[],_=>by simp
 |e::es,h=>by
  have h1:=h e (by simp);have h2:=S8 f B es λx hx=>by grind
  simp;rw[Int.mul_add,Int.mul_add];omega
theorem OA{l:List Pt}(h:VP l): -16000000<=E8 l/\E8 l<=16000000:=by
 have l3:=h.l3;have l8:=h.l8;have:=S8 (Sz (pa l 0)) 2000000 (BA l) λe he=>by have:=jK (h.sml _ (B4 (i:=0) (by omega))) (HZ h.sml e he);omega
 rw[Jv]at this;unfold E8;omega
theorem XJ{l:List Pt}(h:VP l):(-20800000000<=IR l/\IR l<=20800000000)/\-20800000000<=Oz l/\Oz l<=20800000000:=by
 have l3:=h.l3;have l8:=h.l8;have h1:=S8 (UA (pa l 0)) 2600000000 (BA l) λe he=>by have:=jL (h.sml _ (B4 (i:=0) (by omega))) (HZ h.sml e he);omega
 have h2:=S8 (UB (pa l 0)) 2600000000 (BA l) λe he=>by have:=jM (h.sml _ (B4 (i:=0) (by omega))) (HZ h.sml e he);omega
 rw[Jv]at h1 h2;unfold IR Oz;omega
section
open Go
attribute [local irreducible] Aq BD Bv A8 Bq Ba AQ Bw By Ck
def CG(N:Nat)(l14:List (Int×Int)):Nat->Int->Option (Sum Unit Bool)|0,_=>none|n+1,af=>bif decide (af<(l14.length:Int))then((Bz l14 af).bind λ(T6,T7)=>(E9 N T6 T7).bind λan=>bif !an then(some (.inr false))else(gd (Ai (af+1))<|CG N l14 n (af+1)))else(some (.inl ()))
def B0(N:Nat)(l14:List (Int×Int))(i43:Int):Nat->Int->Option (Sum Unit Bool)|0,_=>none|n+1,k46=>bif decide (k46<(l14.length:Int))then(gd ((decide (k46≠i43))=true->(Ai (i43+1)))<|gd ((decide (k46≠i43))=true->((l14.length:Int)≠0))<|gd (((decide (k46≠i43))&&(decide (k46≠(i43+1).tmod (l14.length:Int))))=true->(0<=i43/\i43<(l14.length:Int)))<|gd (((decide (k46≠i43))&&(decide (k46≠(i43+1).tmod (l14.length:Int))))=true->((Cy N l14 i43).isSome=true))<|gd (((decide (k46≠i43))&&(decide (k46≠(i43+1).tmod (l14.length:Int))))=true->(0<=k46/\k46<(l14.length:Int)))<|gd (((decide (k46≠i43))&&(decide (k46≠(i43+1).tmod (l14.length:Int))))=true->((EH N ((l14.getD i43.toNat (0,0)).1) ((l14.getD i43.toNat (0,0)).2) (((Cy N l14 i43).getD (0,0)).1) (((Cy N l14 i43).getD (0,0)).2) ((l14.getD k46.toNat (0,0)).1) ((l14.getD k46.toNat (0,0)).2)).isSome=true))<|bif ((decide (k46≠i43))&&(decide (k46≠(i43+1).tmod (l14.length:Int))))&&(decide ((EH N ((l14.getD i43.toNat (0,0)).1) ((l14.getD i43.toNat (0,0)).2) (((Cy N l14 i43).getD (0,0)).1) (((Cy N l14 i43).getD (0,0)).2) ((l14.getD k46.toNat (0,0)).1) ((l14.getD k46.toNat (0,0)).2)).getD 0<=0))then(some (.inr false))else(gd (Ai (k46+1))<|B0 N l14 i43 n (k46+1)))else(some (.inl ()))
def Cg(N:Nat)(l14:List (Int×Int)):Nat->Int->Option (Sum Unit Bool)|0,_=>none|n+1,i43=>bif decide (i43<(l14.length:Int))then((B0 N l14 i43 N 0).bind λai=>match ai with|.inl ()=>(gd (Ai (i43+1))<|Cg N l14 n (i43+1))|.inr ay=>(some (.inr ay)))else(some (.inl ()))
def CJ(N:Nat)(l14:List (Int×Int)):Option Bool:=bif (decide ((l14.length:Int)<3))||(decide (8<(l14.length:Int)))then(some false)else((CG N l14 N 0).bind λaj=>match aj with|.inl ()=>((Cg N l14 N 0).bind λah=>match ah with|.inl ()=>(some true)|.inr aw=>(some aw))|.inr az=>(some az))
@[go_sem] def Xz(N:Nat):Spec:=p0<|(qS Aj<|qE<|qF false .b) (CJ N)
theorem Y5(N:Nat):Au Tryz.prog 162 (Xz N):=by
 refine fk (wX P5 (Aa (uM N)<|Aa (Y4 N)<|Aa (uL N)<|Ae)) ?_;intro l14 r h _ hS F;dsimp only[P5,Ad,Aj];unfold CJ at h;refine An hS F h (λ_ h=>?_) (λ_ h=>?_)
 ·exact Ah hS F h
 ·obtain⟨aj,bm,h⟩:=un h;refine go hS F ?_;refine BU aj (λz:Nat=>⟨[(0,BK l14)],[],z⟩) (λz=>(.inl ():Sum Unit Bool)) (.x 0) ?_ ?_
  ·refine BO (λn (y:Int×Nat)=>CG N l14 n y.1) (λy=>⟨[(0,BK l14),(3,.i y.1)],[],y.2⟩) (0,3) bm (CB F) ?_;rintro n ⟨af,av⟩ aa;simp only[CG]at aa;refine An hS F aa (λ_ aa=>?_) (λ_ aa=>?_)
   ·obtain⟨⟨T6,T7⟩,am,aa⟩:=un aa;obtain⟨bi,F⟩:=CH Ce am F;obtain⟨an,ak,aa⟩:=un aa;replace F:=fc ak F;refine An hS F aa (λ_ aa=>?_) (λ_ aa=>?_)
    ·obtain rfl:=yJ aa;exact Ah hS F h
    ·obtain⟨br,aa⟩:=un aa;exact CS hS F (n,af+1,av+1+1+1) aa
   ·exact Cu hS F (av+1) aa
  ·rintro bo rfl;obtain⟨ah,bl,h⟩:=un h;refine go hS F ?_;refine BU ah (λz:Nat=>⟨[],[],z⟩) (λz=>(.inl ():Sum Unit Bool)) (.x 2) ?_ ?_
   ·refine BO (λn (y:Int×Nat)=>Cg N l14 n y.1) (λy=>⟨[(0,BK l14),(4,.i y.1)],[],y.2⟩) (0,bo+1) bl (CB F) ?_;rintro n ⟨i43,au⟩ ae;simp only[Cg]at ae;refine An hS F ae (λ_ ae=>?_) (λ_ ae=>?_)
    ·obtain⟨ai,bj,ae⟩:=un ae;refine go hS F ?_;refine BU ai (λz:Nat=>⟨[(0,BK l14),(4,.i i43)],[],z⟩) (λz=>(.inl ():Sum Unit Bool)) (.x 4) ?_ ?_
     ·refine BO (λn (y:Int×Nat)=>B0 N l14 i43 n y.1) (λy=>⟨[(0,BK l14),(4,.i i43),(5,.i y.1)],[],y.2⟩) (0,au+1+1) bj (CB F) ?_;rintro n ⟨k46,aq⟩ ab;simp only[B0]at ab;refine An hS F ab (λ_ ab=>?_) (λ_ ab=>?_)
      ·obtain⟨bq,bp,bh,bg,bf,be,ab⟩:=un ab;refine An hS F ab (λ_ ab=>?_) (λ_ ab=>?_)
       ·obtain rfl:=yJ ab;obtain rfl:=yJ ae;exact Ah hS F h
       ·obtain⟨bb,ab⟩:=un ab;exact CS hS F (n,k46+1,aq+1+1+1) ab
      ·exact Cu hS F (aq+1) ab
     ·rintro bn rfl;obtain⟨ba,ae⟩:=un ae;exact CS hS F (n,i43+1,bn+1) ae
    ·exact Cu hS F (au+1) ae
   ·rintro bu rfl;exact Ah hS F h
end
def qa(l:List Pt)(t:Nat):Pt:=pa l (t%l.length)
theorem Il{l:List Pt}{t:Nat}(h:t<l.length):qa l t=pa l t:=by unfold qa;rw[A13 h]
theorem H0(l:List Pt)(t:Nat):qa l (t+l.length)=qa l t:=by unfold qa;rw[Nat.add_mod_right]
theorem ML(l:List Pt)(t:Nat):qa l (t%l.length)=qa l t:=by unfold qa;rw[Nat.mod_mod]
theorem Uy{l:List Pt}(h:0<l.length)(t:Nat):qa l t∈l:=B4 (A17 _ h)
theorem Zz{n s a b:Nat}(ha:a<n)(hb:b<n)(h:a≠b):(s+a)%n≠(s+b)%n:=λe=>h (VD ha hb e)
theorem Iw{l:List Pt}(h:Conv l){s a:Nat}(h2:2<=a)(ha:a<l.length):0<Aw (qa l s) (qa l (s+1)) (qa l (s+a)):=by
 have hn:0<l.length:=by omega
 have e:=h (s%l.length) ((s+a)%l.length) (A17 _ hn) (A17 _ hn) (λe=>Zz (by omega:a<l.length) (by omega) (by omega) (by simpa using e)) (λe=>Zz (by omega:a<l.length) (by omega:1<l.length) (by omega) (by rw[e,A51]));rw[A51]at e;exact e
theorem LM{l:List Pt}(h:Conv l)(s a:Nat)(h1:1<=a):∀d,a+d+1<l.length->0<Aw (qa l s) (qa l (s+a)) (qa l (s+(a+d+1)))
 |0,hd=>by have e:=Iw h (s:=s+a) (a:=l.length-a) (by omega) (by omega);rw[show s+a+(l.length-a)=s+l.length by omega,H0,JU,JU]at e;have e2:=JU (qa l s) (qa l (s+a)) (qa l (s+a+1));rw[show s+(a+0+1)=s+a+1 by omega];have e3:=JU (qa l (s+a)) (qa l (s+a+1)) (qa l s);omega
 |d+1,hd=>by
  have ih:=LM h s a h1 d (by omega);have ed:=LM h s (a+d+1) (by omega) 0 (by omega);have lb:0<Aw (qa l s) (qa l (s+1)) (qa l (s+(a+d+1))):=Iw h (by omega) (by omega);have lc:0<Aw (qa l s) (qa l (s+1)) (qa l (s+(a+(d+1)+1))):=Iw h (by omega) (by omega);have la:0<=Aw (qa l s) (qa l (s+1)) (qa l (s+a)):=by
   by_cases e:a=1
   ·rw[e,HY];omega
   ·exact A29 (Iw h (by omega) (by omega))
  generalize qa l (s+1)=v at*;generalize qa l (s+(a+(d+1)+1))=C at*;generalize qa l (s+(a+d+1))=B at*;generalize qa l (s+a)=A at*;generalize qa l s=o at*;have key:Aw o v B*Aw o A C=Aw o v A*Aw o B C+Aw o v C*Aw o A B:=by unfold Aw;grind
  have k1:0<=Aw o v A*Aw o B C:=z8 la (by omega);have k2:=A35 lc ih;exact Lc lb (by omega)
def CQ(l:List Pt)(i m:Nat):List Pt:=(List.range (m+1)).map λt=>qa l (i+t)
theorem Cr(l:List Pt)(i m:Nat):(CQ l i m).length=m+1:=by simp[CQ]
theorem Ff{l:List Pt}{i m t:Nat}(h:t<=m):pa (CQ l i m) t=qa l (i+t):=by rw[Fc (by rw[Cr];omega)];simp[CQ]
theorem RH{l:List Pt}(hl:0<l.length){i m:Nat}{p:Pt}(h:p∈CQ l i m):p∈l:=by grind[CQ,Uy]
theorem ZA{l:List Pt}(h:VP l){i m:Nat}(h2:2<=m)(hm:m<l.length):VP (CQ l i m):=by
 refine⟨by rw[Cr];omega,by rw[Cr];have:=h.l8;omega,λp hp=>h.on p (RH (by omega) hp),?_⟩;intro t k ht hk n1 n2;rw[Cr]at ht hk n2⊢;by_cases e:t=m
 ·subst e;rw[Nat.mod_self]at n2⊢;rw[Ff (w6 _),Ff (A16 _),Ff (by omega)];have:=LM h.cv i k (by omega) (t-k-1) (by omega);rw[show k+(t-k-1)+1=t by omega]at this;rw[A43,JU,JU];exact this
 ·rw[A13 (by omega)]at n2⊢;rw[Ff (by omega),Ff (by omega),Ff (by omega)];by_cases hkt:t<k
  ·have:=Iw h.cv (s:=i+t) (a:=k-t) (by omega) (by omega);rw[show i+t+(k-t)=i+k by omega]at this;exact this
  ·have:=Iw h.cv (s:=i+t) (a:=l.length+k-t) (by omega) (by omega);rw[show i+t+(l.length+k-t)=i+k+l.length by omega,H0]at this;exact this
theorem ZB(N:Nat)(p:Pt):E9 N p.1 p.2=some (decide (On p)):=by
 unfold E9;by_cases h:On p
 ·simp_all[On]
 ·rw[s6 h]
  simp_all[On]
theorem RI(N:Nat){l:List Pt}{i:Nat}(hl:l.length<=1000)(h:i<l.length):Cy N l i=some (pa l ((i+1)%l.length)):=by unfold Cy;rw[Ab (by omega),Ab (by omega),Qa,GB (A17 _ (by omega)),bS]
open Classical in
theorem ZC{N:Nat}{l:List Pt}(hl:l.length<=50)(ho:∀p∈l,CN p){i:Nat}(hi:i<l.length)(n:Nat)(hn:l.length<n):B0 N l i n 0=some (if∀k,k<l.length->k≠i->k≠(i+1)%l.length->0<Aw (pa l i) (pa l ((i+1)%l.length)) (pa l k)then .inl ()else .inr false):=by
 have hm:(i+1)%l.length<l.length:=A17 _ (by omega);have step:∀n (k:Nat),k<l.length->B0 N l i (n+1) k=if(k≠i/\k≠(i+1)%l.length)/\Aw (pa l i) (pa l ((i+1)%l.length)) (pa l k)<=0 then some (.inr false)else B0 N l i n ((k+1):Int):=λn k hk=>by
  rw[B0];have tu:=eF (N:=N) (ho _ (B4 hi)) (ho _ (B4 hm)) (ho _ (B4 hk));have e2:l.getD (i:Int).toNat (0,0)=pa l i:=by rfl
  have e3:l.getD (k:Int).toNat (0,0)=pa l k:=by rfl
  rw[Fe hk,cT,RI N (by omega) hi,e2,e3,A00,tu,Qa,A00];rw[Ab (by omega),Ab (λ_=>by omega),Ab (by omega),Ab (by grind),Ab (by omega),Ab (by grind),Ab (by omega)];grind
 have key:=HK (L:=B0 N l i) (len:=l.length) (λk=>if(k≠i/\k≠(i+1)%l.length)/\Aw (pa l i) (pa l ((i+1)%l.length)) (pa l k)<=0 then some false else none)
  (by grind) (by grind) (by simp_all[B0]) n (by omega)
 grind
open Classical in
theorem IZ{N:Nat}(hN:100<=N)(l:List Pt):CJ N l=some (vB l):=by
 unfold CJ;by_cases hl:l.length<3\/8<l.length
 ·have e2:vB l=false:=KN.2 λh=>by have:=h.l3;have:=h.l8;omega
  rw[Ca _ (by simp;omega),e2]
 rw[BL _ (by simp;omega)];have key:=HK (L:=CG N l) (len:=l.length) (λi=>if On (pa l i)then none else some false) (λn k hk hf=>by
   rw[CG];have hon:On (pa l k):=by
    by_cases h:On (pa l k)
    ·exact h
    ·simp[h]at hf
   rw[Fe hk,cT,GB hk,bS];simp only;rw[ZB,bS,q9 hon,BL _ (by rfl),Ab (by unfold Ai;omega),ns]) (λn k r hk hf=>by
   rw[CG];have hon:¬On (pa l k):=λh=>by simp[h]at hf
   rw[t7 hon]at hf;rw[Fe hk,cT,GB hk,bS];simp only;rw[ZB,bS,s6 hon,Ca _ (by rfl),<-yJ hf]) (λn=>by
   rw[CG,K3,cF]) N (by omega)
 rcases key with⟨e,h⟩|⟨j,r,a2,a3,a4,e⟩
 ·rw[e,bS];simp only;have hon:∀p∈l,On p:=λp hp=>by
   obtain⟨i,hi,rfl⟩:=NA hp;have:=h i hi;by_cases ho:On (pa l i)
   ·exact ho
   ·simp[ho]at this
  have hs:∀p∈l,CN p:=λp hp=>(hon p hp).sml
  have step:∀n (i:Nat),i<l.length->Cg N l (n+1) i=if∀k,k<l.length->k≠i->k≠(i+1)%l.length->0<Aw (pa l i) (pa l ((i+1)%l.length)) (pa l k)then Cg N l n ((i+1:Nat):Int)else some (.inr false):=λn i hi=>by
   rw[Cg,Fe hi,cT,ZC (by omega) hs hi N (by omega)];split
   ·rw[bS];simp only;rw[Ab (by unfold Ai;omega),ns]
   ·rw[bS]
  have key:=HK (L:=Cg N l) (len:=l.length) (λi=>if∀k,k<l.length->k≠i->k≠(i+1)%l.length->0<Aw (pa l i) (pa l ((i+1)%l.length)) (pa l k)then none else some false)
   (λn k hk hf=>by
    rw[step n k hk];split
    ·rfl
    ·rename_i h;simp[t7 h]at hf) (λn k r hk hf=>by
    rw[step n k hk];split
    ·rename_i h;rw[t8 h]at hf;cases hf
    ·rename_i h;rw[t7 h]at hf;cases hf;rfl) (λn=>by
    rw[Cg,K3,cF]) N (by omega)
  rcases key with⟨e,h⟩|⟨j,r,a2,a3,a4,e⟩
  ·rw[e,bS];simp only;congr 1;symm;refine Ox.2 ⟨by omega,by omega,hon,λi k hi hk n1 n2=>?_⟩;have:=h i hi;split at this
   ·rename_i h;exact h k hk n1 n2
   ·cases this
  ·rw[e,bS];simp only;split at a3
   ·cases a3
   ·rename_i h;cases a3
    congr 1;symm;exact KN.2 λhv=>h λk hk n1 n2=>hv.cv j k a2 hk n1 n2
 ·rw[e,bS];simp only;by_cases hon:On (pa l j)
  ·simp[hon]at a3
  ·simp only[hon,if_false,yE]at a3;subst a3;congr 1;symm;exact KN.2 λhv=>hon (hv.on _ (B4 a2))
def CA(n i k:Nat):Nat:=(k+n-i)%n
theorem wH{n i k:Nat}(h:0<n):CA n i k<n:=A17 _ h
theorem Oy{n i k:Nat}(hi:i<n)(hk:k<n):(i+CA n i k)%n=k:=by
 unfold CA;by_cases h:i<=k
 ·have e:(k+n-i)%n=k-i:=by rw[Nat.mod_eq_sub_mod (by omega),A13 (by omega)];omega
  rw[e,show i+(k-i)=k by omega,A13 hk]
 ·have e:(k+n-i)%n=k+n-i:=A13 (by omega);rw[e,show i+(k+n-i)=k+n by omega,Nat.add_mod_right,A13 hk]
def RK(l:List Pt)(i k:Nat):List Pt×List Pt×Int:=if CA l.length i k<2\/CA l.length k i<2 then([],[],70)else(CQ l i (CA l.length i k),CQ l k (CA l.length k i),0)
theorem eJ{n d:Int}(h:Ai n)(hd:1<d)(hd2:d<=1000):Ai (n.tdiv d):=by
 rcases Int.le_total 0 n with h0|h0
 ·have h1:=Int.tdiv_nonneg h0 (show 0<=d by omega);have h2:=Int.tdiv_le_self d h0;omega
 ·have e:n.tdiv d= -((-n).tdiv d):=by rw[Int.neg_tdiv,Int.neg_neg]
  have h1:=Int.tdiv_nonneg (show 0<=-n by omega) (show 0<=d by omega);have h2:(-n).tdiv d<=-n:=Int.tdiv_le_self d (by omega);omega
def NQ(l:List Pt)(i:Nat)(b:List Pt):Prop:=∀p∈b,α l i p<=0
open Classical in
def Mv(l b:List Pt):Option Nat:=(List.range l.length).find? λi=>decide (NQ l i b)
def apart(a b:List Pt):Prop:=(∃i,i<a.length/\NQ a i b)\/∃i,i<b.length/\NQ b i a
theorem apart.symm{a b:List Pt}(h:apart a b):apart b a:=Or.symm h
theorem Mg{l b:List Pt}{i:Nat}(h:Mv l b=some i):i<l.length/\NQ l i b:=by grind[Mv]
theorem ZD{l b:List Pt}(h:Mv l b=none):∀i,i<l.length->¬NQ l i b:=by grind[Mv]
open Classical in
theorem nR{N:Nat}{b:List Pt}(hb:b.length<=1000)(hN:1000<N)(hs:∀p∈b,CN p){u w:Pt}(hu:CN u)(hw:CN w):BF N b u.1 u.2 w.1 w.2=some (decide (∃p∈b,0<Aw u w p)):=by
 unfold BF Cn;have step:∀n (k:Nat),k<b.length->AB N b u.1 u.2 w.1 w.2 (n+1) k=if 0<Aw u w (pa b k)then some (.inr (k:Int))else AB N b u.1 u.2 w.1 w.2 n ((k+1:Nat):Int):=λn k hk=>by rw[AB,Fe hk,cT,GB hk,bS];simp only;unfold HJ;rw[Lo hu hw (hs _ (B4 hk)),bS,bS,Ab (by unfold Ai;omega),ns];grind
 have key:=HK (L:=AB N b u.1 u.2 w.1 w.2) (len:=b.length) (λk=>if 0<Aw u w (pa b k)then some (k:Int)else none)
  (by grind) (by grind) (by simp_all[AB]) N (by omega)
 rcases key with⟨e,h⟩|⟨j,r,a2,a3,a4,e⟩
 ·rw[e,bS];simp only;rw[bS];congr 1;rw[s6 (by decide)];symm;rw[s8];rintro⟨p,hp,hn⟩;obtain⟨i,hi,rfl⟩:=NA hp;have:=h i hi;rw[t8 hn]at this;cases this
 ·rw[e,bS];rw[bS];split at a3
  ·rename_i h;rw[<-yJ a3,q9 (by omega)];congr 1;symm;rw[s7];exact⟨_,B4 a2,h⟩
  ·cases a3
open Classical in
theorem Q4{N:Nat}(hN:1000<N){l b:List Pt}(hl:l.length<=1000)(hb:b.length<=1000)(hsl:∀p∈l,CN p)(hsb:∀p∈b,CN p):∀(k j:Nat),j+k=l.length->Ea N b ((List.range' j k).map λi=>(pa l i,pa l ((i+1)%l.length))) (j:Int)=some (match(List.range' j k).find? λi=>decide (NQ l i b)with|some i=>.inr (i:Int)|none=>.inl ())
 |0,j,h=>by simp[Ea]
 |k+1,j,h=>by
  have hm:(j+1)%l.length<l.length:=A17 _ (by omega);rw[A38,w5,List.find?_cons];rw[show(pa l j,pa l ((j+1)%l.length))=(((pa l j).1,(pa l j).2),((pa l ((j+1)%l.length)).1,(pa l ((j+1)%l.length)).2))from rfl,Ea,nR hb hN hsb (hsl _ (B4 (by omega))) (hsl _ (B4 hm)),bS];by_cases hs:NQ l j b
  ·have e:¬∃p∈b,0<Aw (pa l j) (pa l ((j+1)%l.length)) p:=by rintro⟨p,hp,hq⟩;have:=hs p hp;unfold α at this;omega
   rw[s6 e,Ca _ (by rfl),q9 hs]
  ·have e:∃p∈b,0<Aw (pa l j) (pa l ((j+1)%l.length)) p:=by
    by_cases h:∃p∈b,0<Aw (pa l j) (pa l ((j+1)%l.length)) p
    ·exact h
    ·exact absurd (λp hp=>by grind[α]) hs
   rw[q9 e,BL _ (by rfl),s6 hs,Ab (by omega),<-ns];exact Q4 hN hl hb hsl hsb k (j+1) (by omega)
theorem Uz{N:Nat}(hN:1000<N){l b:List Pt}(hl:l.length<=1000)(hb:b.length<=1000)(hsl:∀p∈l,CN p)(hsb:∀p∈b,CN p):Gf N l b=some (match Mv l b with|some i=>(i:Int)|none=> -1):=by unfold Gf;have:=Q4 hN hl hb hsl hsb l.length 0 (by omega);rw[<-A36,y9]at this;rw[Ab (by omega),show BA l=(List.range l.length).map λi=>(pa l i,pa l ((i+1)%l.length))from rfl,this,bS];unfold Mv;cases(List.range l.length).find? λi=>@decide (NQ l i b) (Classical.propDecidable _)<;>rfl
def Hg(a b:List Pt):Int×Int×Bool:=match Mv a b with|some i=>(0,(i:Int),true)|none=>match Mv b a with|some i=>(1,(i:Int),true)|none=>(0,0,false)
theorem VE(a b:List Pt):(∃i,i<a.length/\NQ a i b/\Hg a b=(0,(i:Int),true))\/(∃i,i<b.length/\NQ b i a/\Hg a b=(1,(i:Int),true))\/(¬apart a b/\Hg a b=(0,0,false)):=by
 unfold Hg;cases h:Mv a b with
 |some i=>exact .inl ⟨i,(Mg h).1,(Mg h).2,rfl⟩
 |none=>
  cases h2:Mv b a with
  |some i=>exact .inr (.inl ⟨i,(Mg h2).1,(Mg h2).2,rfl⟩)
  |none=>refine .inr (.inr ⟨?_,rfl⟩);rintro(⟨i,hi,hs⟩|⟨i,hi,hs⟩);all_goals grind[ZD]
theorem MM{a b:List Pt}:(Hg a b).2.2=true↔apart a b:=by
 rcases VE a b with⟨i,h1,h2,h3⟩|⟨i,h1,h2,h3⟩|⟨h1,h3⟩<;>rw[h3]
 ·simp;exact .inl ⟨i,h1,h2⟩
 ·simp;exact .inr ⟨i,h1,h2⟩
 ·simp[h1]
theorem AaY{N:Nat}(hN:1001<=N){a b:List Pt}(ha:VP a)(hb:VP b):F7 N a b=some (Hg a b):=by unfold F7;have a8:=ha.l8;have b8:=hb.l8;rw[G2 (by omega) ha,G2 (by omega) hb,bS,Ab (by grind),A00,BL _ (by rfl),Uz (by omega) (by omega) (by omega) ha.sml hb.sml,bS,Uz (by omega) (by omega) (by omega) hb.sml ha.sml];unfold Hg;grind
theorem Lg{N:Nat}(hN:1001<=N){a b:List Pt}(ha:VP a)(hb:VP b):CX N a b=some (!(Hg a b).2.2):=by unfold CX;rw[AaY hN ha hb,show Hg a b=((Hg a b).1,(Hg a b).2.1,(Hg a b).2.2)from rfl,bS,G2 (by omega) ha,G2 (by omega) hb];grind[Ab]
theorem XI{a:List Pt}(h:VP a):¬apart a a:=by
 have l3:=h.l3;have key:∀i,i<a.length->¬NQ a i a:=λi hi hs=>by
  obtain⟨k,hk,n1,n2⟩:∃k,k<a.length/\k≠i/\k≠(i+1)%a.length:=by
   by_cases h0:0≠i/\0≠(i+1)%a.length
   ·exact⟨0,by omega,h0.1,h0.2⟩
   by_cases h1:1≠i/\1≠(i+1)%a.length
   ·exact⟨1,by omega,h1.1,h1.2⟩
   exact⟨2,by omega,by omega,by omega⟩
  have e1:=h.cv i k hi hk n1 n2;have e2:=hs _ (B4 hk);unfold α at e2;omega
 rintro(⟨i,hi,hs⟩|⟨i,hi,hs⟩);all_goals grind
theorem wI{g p a b:Pt}(ha:ES g p a=0)(hb:ES g p b=0)(hg:g≠(0,0)):Aw p a b=0:=by
 have e1:g.1*Aw p a b=ES g p a*(b.2-p.2)-ES g p b*(a.2-p.2):=by unfold ES Aw;grind
 have e2:g.2*Aw p a b=ES g p b*(a.1-p.1)-ES g p a*(b.1-p.1):=by unfold ES Aw;grind
 rw[ha,hb]at e1 e2;simp only[Int.zero_mul,Int.sub_self,A40]at e1 e2;grind
theorem RL{n:Nat}{v:Nat->Pt}(hn:0<n)(per:∀t,v (t+n)=v t){p g:Pt}(h:∀t,0<Aw (v t) (v (t+1)) p)(hg:g≠(0,0))(hh:∀t,0<=ES g p (v t)):False:=by
 have h':∀t,0<Aw p (v t) (v (t+1)):=λt=>by rw[<-JU];exact h t
 obtain⟨m,hm⟩:∃m,0<ES g p (v m):=by
  by_cases h0:0<ES g p (v 0)
  ·exact⟨0,h0⟩
  by_cases h1:0<ES g p (v 1);all_goals grind[wI]
 have key:∀t,0<Aw p (v m) (v (m+(t+1))):=by
  intro t;induction t with
  |zero=>exact h' m
  |succ t ih=>
   have pl:=jG g p (v m) (v (m+(t+1))) (v (m+(t+1+1)));have hb:=hh (m+(t+1));have hc:=hh (m+(t+1+1));have hbc:=h' (m+(t+1));rw[show m+(t+1)+1=m+(t+1+1) by omega]at hbc;have k1:=A35 hm hbc;have k2:=z8 hc (A29 ih);have hb':0<ES g p (v (m+(t+1))):=by grind
   exact Lc hb' (by omega)
 have:=key (n-1);rw[show m+(n-1+1)=m+n by omega,per,HY]at this;omega
theorem wJ{l:List Pt}(hl:0<l.length)(t:Nat)(p:Pt):Aw (qa l t) (qa l (t+1)) p=α l (t%l.length) p:=by unfold α qa;rw[A51]
open Go
def Rk:Shelf.Ren where
 f:=λ|125=>146|128=>173|129=>174|n=>n
 t:=λ|46=>130|3=>3|51=>217|53=>158|4=>4|5=>5|9=>9|n=>n
 g:=id
theorem oL:Lays.n125 Tryz.prog Rk:={mixed:=Eq.refl true,f125:=Eq.trans Tryz.func146 (congrArg some (Eq.refl (Body.n125 Rk))),f128:=Eq.trans Tryz.func173 (congrArg some (Eq.refl (Body.n128 Rk))),f129:=Eq.trans Tryz.func174 (congrArg some (Eq.refl (Body.n129 Rk))),t3:=Tryz.underlying3,a3:=Tryz.isAgg3,z3:=Tryz.sizeOf3,v3:=Tryz.zeroValue3,t4:=Tryz.underlying4,a4:=Tryz.isAgg4,z4:=Tryz.sizeOf4,v4:=Tryz.zeroValue4,t5:=Tryz.underlying5,a5:=Tryz.isAgg5,z5:=Tryz.sizeOf5,v5:=Tryz.zeroValue5,t9:=Tryz.underlying9,a9:=Tryz.isAgg9,z9:=Tryz.sizeOf9,v9:=Tryz.zeroValue9,t46:=Tryz.underlying130,a46:=Tryz.isAgg130,z46:=Tryz.sizeOf130,v46:=Tryz.zeroValue130,t51:=Tryz.underlying217,a51:=Tryz.isAgg217,z51:=Tryz.sizeOf217,v51:=Tryz.zeroValue217,t53:=Tryz.underlying158,a53:=Tryz.isAgg158,z53:=Tryz.sizeOf158,v53:=Tryz.zeroValue158}
def XT:Spec|[.v (.int .u64 n)]=>some (0<=n/\n<=1000000,.i (Lib.bitLen n.toNat))|_=>none
theorem fB:Au Tryz.prog 146 XT:=⟨⟨Tryz.f146,Tryz.func146,by kernel_rfl,by kernel_rfl⟩,by
 intro args vc r h hv;unfold XT at h;split at h
 ·cases h
  intro U vs hG hM hp hr;simp only[RepL,Rep]at hr;obtain⟨y,ys,rfl,rfl,rfl⟩:=hr;refine(Any.bits_Len oL _ U.w hv.1 (by omega)).mono ?_;rintro e w' ⟨rfl,rfl⟩;exact⟨_,rfl,λb o h=>h,SameO.refl _,rfl,rfl⟩
 ·simp at h⟩
