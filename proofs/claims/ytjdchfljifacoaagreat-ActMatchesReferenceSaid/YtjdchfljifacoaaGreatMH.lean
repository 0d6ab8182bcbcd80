import Derived.Test.YtjdchfljifacoaaGreatD2
set_option linter.all false
set_option maxRecDepth 100000
set_option maxHeartbeats 8000000
noncomputable section
namespace Go.Proofs.YtjdchfljifacoaaGreat.Am
def qa(l:List Pt)(t:Nat):Pt:=pa l (t%l.length)
theorem GL{l:List Pt}{t:Nat}(h:t<l.length):qa l t=pa l t:=by unfold qa;rw[sI h]
theorem Gh(l:List Pt)(t:Nat):qa l (t+l.length)=qa l t:=by unfold qa;rw[Nat.add_mod_right]
theorem Lj{l:List Pt}(h:0<l.length)(t:Nat):qa l t∈l:=Bo (tH _ h)
theorem SN{n s a b:Nat}(ha:a<n)(hb:b<n)(h:a≠b):(s+a)%n≠(s+b)%n:=λe=>h (L4 ha hb e)
theorem GB{l:List Pt}(h:Conv l){s a:Nat}(h2:2<=a)(ha:a<l.length):0<Ao (qa l s) (qa l (s+1)) (qa l (s+a)):=by
 have hn:0<l.length:=by omega
 have e:=h (s%l.length) ((s+a)%l.length) (tH _ hn) (tH _ hn) (λe=>SN (by omega:a<l.length) (by omega) (by omega) (by simpa using e)) (λe=>SN (by omega:a<l.length) (by omega:1<l.length) (by omega) (by rw[e,JV]));rw[JV]at e;exact e
theorem Kg{l:List Pt}(h:Conv l)(s a:Nat)(h1:1<=a):∀d,a+d+1<l.length->0<Ao (qa l s) (qa l (s+a)) (qa l (s+(a+d+1)))
 |0,hd=>by have e:=GB h (s:=s+a) (a:=l.length-a) (by omega) (by omega);rw[show s+a+(l.length-a)=s+l.length by omega,Gh,Hd,Hd]at e;have e2:=Hd (qa l s) (qa l (s+a)) (qa l (s+a+1));rw[show s+(a+0+1)=s+a+1 by omega];have e3:=Hd (qa l (s+a)) (qa l (s+a+1)) (qa l s);omega
 |d+1,hd=>by
  have ih:=Kg h s a h1 d (by omega);have ed:=Kg h s (a+d+1) (by omega) 0 (by omega);have lb:0<Ao (qa l s) (qa l (s+1)) (qa l (s+(a+d+1))):=GB h (by omega) (by omega);have lc:0<Ao (qa l s) (qa l (s+1)) (qa l (s+(a+(d+1)+1))):=GB h (by omega) (by omega);have la:0<=Ao (qa l s) (qa l (s+1)) (qa l (s+a)):=by
   by_cases e:a=1
   ·rw[e,E4];omega
   ·exact w8 (GB h (by omega) (by omega))
  generalize qa l (s+1)=v at*;generalize qa l (s+(a+(d+1)+1))=C at*;generalize qa l (s+(a+d+1))=B at*;generalize qa l (s+a)=A at*;generalize qa l s=o at*;have key:Ao o v B*Ao o A C=Ao o v A*Ao o B C+Ao o v C*Ao o A B:=by unfold Ao;grind
  have k1:0<=Ao o v A*Ao o B C:=oJ la (by omega);have k2:=y0 lc ih;exact IH lb (by omega)
def Dc(l:List Pt)(i m:Nat):List Pt:=(List.range (m+1)).map λt=>qa l (i+t)
theorem By(l:List Pt)(i m:Nat):(Dc l i m).length=m+1:=by simp[Dc]
theorem Gi{l:List Pt}{i m t:Nat}(h:t<=m):pa (Dc l i m) t=qa l (i+t):=by rw[De (by rw[By];omega)];simp[Dc]
theorem dS(N:Nat)(p:Pt):Gg N p.1 p.2=some (decide (On p)):=by
 unfold Gg;by_cases h:On p
 ·simp_all[On]
 ·rw[bJ h]
  simp_all[On]
theorem Tp(N:Nat){l:List Pt}{i:Nat}(hl:l.length<=1000)(h:i<l.length):CU N l i=some (pa l ((i+1)%l.length)):=by unfold CU;rw[Ae (by omega),Ae (by omega),Nw,F1 (tH _ (by omega)),bS]
open Classical in
theorem dU{N:Nat}{l:List Pt}(hl:l.length<=50)(ho:∀p∈l,CD p){i:Nat}(hi:i<l.length)(n:Nat)(hn:l.length<n):Ck N l i n 0=some (if∀k,k<l.length->k≠i->k≠(i+1)%l.length->0<Ao (pa l i) (pa l ((i+1)%l.length)) (pa l k)then .inl ()else .inr false):=by
 have hm:(i+1)%l.length<l.length:=tH _ (by omega);have step:∀n (k:Nat),k<l.length->Ck N l i (n+1) k=if(k≠i/\k≠(i+1)%l.length)/\Ao (pa l i) (pa l ((i+1)%l.length)) (pa l k)<=0 then some (.inr false)else Ck N l i n ((k+1):Int):=λn k hk=>by
  rw[Ck];have tu:=jU (N:=N) (ho _ (Bo hi)) (ho _ (Bo hm)) (ho _ (Bo hk));have e2:l.getD (i:Int).toNat (0,0)=pa l i:=by rfl
  have e3:l.getD (k:Int).toNat (0,0)=pa l k:=by rfl
  rw[Dq hk,cT,Tp N (by omega) hi,e2,e3,oK,tu,Nw,oK];rw[Ae (by omega),Ae (λ_=>by omega),Ae (by omega),Ae (by grind),Ae (by omega),Ae (by grind),Ae (by omega)];grind
 have key:=GK (L:=Ck N l i) (len:=l.length) (λk=>if(k≠i/\k≠(i+1)%l.length)/\Ao (pa l i) (pa l ((i+1)%l.length)) (pa l k)<=0 then some false else none)
  (by grind) (by grind) (by simp_all[Ck]) n (by omega)
 grind
open Classical in
theorem F7{N:Nat}(hN:100<=N)(l:List Pt):Cj N l=some (vB l):=by
 unfold Cj;by_cases hl:l.length<3\/8<l.length
 ·have e2:vB l=false:=KK.2 λh=>by have:=h.l3;have:=h.l8;omega
  rw[AU _ (by simp;omega),e2]
 rw[A1 _ (by simp;omega)];have key:=GK (L:=C1 N l) (len:=l.length) (λi=>if On (pa l i)then none else some false) (λn k hk hf=>by
   rw[C1];have hon:On (pa l k):=by
    by_cases h:On (pa l k)
    ·exact h
    ·simp[h]at hf
   rw[Dq hk,cT,F1 hk,bS];simp only;rw[dS,bS,aB hon,A1 _ (by rfl),Ae (by unfold Af;omega),ns]) (λn k r hk hf=>by
   rw[C1];have hon:¬On (pa l k):=λh=>by simp[h]at hf
   rw[dQ hon]at hf;rw[Dq hk,cT,F1 hk,bS];simp only;rw[dS,bS,bJ hon,AU _ (by rfl),<-yJ hf]) (λn=>by
   rw[C1,F2,cF]) N (by omega)
 rcases key with⟨e,h⟩|⟨j,r,a2,a3,a4,e⟩
 ·rw[e,bS];simp only;have hon:∀p∈l,On p:=λp hp=>by
   obtain⟨i,hi,rfl⟩:=Jf hp;have:=h i hi;by_cases ho:On (pa l i)
   ·exact ho
   ·simp[ho]at this
  have hs:∀p∈l,CD p:=λp hp=>(hon p hp).sml
  have step:∀n (i:Nat),i<l.length->CA N l (n+1) i=if∀k,k<l.length->k≠i->k≠(i+1)%l.length->0<Ao (pa l i) (pa l ((i+1)%l.length)) (pa l k)then CA N l n ((i+1:Nat):Int)else some (.inr false):=λn i hi=>by
   rw[CA,Dq hi,cT,dU (by omega) hs hi N (by omega)];split
   ·rw[bS];simp only;rw[Ae (by unfold Af;omega),ns]
   ·rw[bS]
  have key:=GK (L:=CA N l) (len:=l.length) (λi=>if∀k,k<l.length->k≠i->k≠(i+1)%l.length->0<Ao (pa l i) (pa l ((i+1)%l.length)) (pa l k)then none else some false)
   (λn k hk hf=>by
    rw[step n k hk];split
    ·rfl
    ·rename_i h;simp[dQ h]at hf) (λn k r hk hf=>by
    rw[step n k hk];split
    ·rename_i h;rw[dW h]at hf;cases hf
    ·rename_i h;rw[dQ h]at hf;cases hf;rfl) (λn=>by
    rw[CA,F2,cF]) N (by omega)
  rcases key with⟨e,h⟩|⟨j,r,a2,a3,a4,e⟩
  ·rw[e,bS];simp only;congr 1;symm;refine Li.2 ⟨by omega,by omega,hon,λi k hi hk n1 n2=>?_⟩;have:=h i hi;split at this
   ·rename_i h;exact h k hk n1 n2
   ·cases this
  ·rw[e,bS];simp only;split at a3
   ·cases a3
   ·rename_i h;cases a3
    congr 1;symm;exact KK.2 λhv=>h λk hk n1 n2=>hv.cv j k a2 hk n1 n2
 ·rw[e,bS];simp only;by_cases hon:On (pa l j)
  ·simp[hon]at a3
  ·simp only[hon,if_false,yE]at a3;subst a3;congr 1;symm;exact KK.2 λhv=>hon (hv.on _ (Bo a2))
def Eb(n i k:Nat):Nat:=(k+n-i)%n
theorem SO{n i k:Nat}(h:0<n):Eb n i k<n:=tH _ h
theorem Nx{n i k:Nat}(hi:i<n)(hk:k<n):(i+Eb n i k)%n=k:=by
 unfold Eb;by_cases h:i<=k
 ·have e:(k+n-i)%n=k-i:=by rw[Nat.mod_eq_sub_mod (by omega),sI (by omega)];omega
  rw[e,show i+(k-i)=k by omega,sI hk]
 ·have e:(k+n-i)%n=k+n-i:=sI (by omega);rw[e,show i+(k+n-i)=k+n by omega,Nat.add_mod_right,sI hk]
theorem jZ(l:List Pt)(i m:Nat):Dc l i m++[qa l (i+m+1)]=Dc l i (m+1):=by grind[Dc,List.range_succ]
def Tq(l:List Pt)(i k:Nat):List Pt×List Pt×Int:=if Eb l.length i k<2\/Eb l.length k i<2 then([],[],70)else(Dc l i (Eb l.length i k),Dc l k (Eb l.length k i),0)
theorem WD{n d:Int}(h:Af n)(hd:1<d)(hd2:d<=1000):Af (n.tdiv d):=by
 rcases Int.le_total 0 n with h0|h0
 ·have h1:=Int.tdiv_nonneg h0 (show 0<=d by omega);have h2:=Int.tdiv_le_self d h0;omega
 ·have e:n.tdiv d= -((-n).tdiv d):=by rw[Int.neg_tdiv,Int.neg_neg]
  have h1:=Int.tdiv_nonneg (show 0<=-n by omega) (show 0<=d by omega);have h2:(-n).tdiv d<=-n:=Int.tdiv_le_self d (by omega);omega
def Jg(l:List Pt)(i:Nat)(b:List Pt):Prop:=∀p∈b,α l i p<=0
open Classical in
def KL(l b:List Pt):Option Nat:=(List.range l.length).find? λi=>decide (Jg l i b)
def apart(a b:List Pt):Prop:=(∃i,i<a.length/\Jg a i b)\/∃i,i<b.length/\Jg b i a
theorem apart.symm{a b:List Pt}(h:apart a b):apart b a:=Or.symm h
theorem N0{l b:List Pt}{i:Nat}(h:KL l b=some i):i<l.length/\Jg l i b:=by grind[KL]
theorem Uh{l b:List Pt}(h:KL l b=none):∀i,i<l.length->¬Jg l i b:=by grind[KL]
open Classical in
theorem tE{N:Nat}{b:List Pt}(hb:b.length<=1000)(hN:1000<N)(hs:∀p∈b,CD p){u w:Pt}(hu:CD u)(hw:CD w):B0 N b u.1 u.2 w.1 w.2=some (decide (∃p∈b,0<Ao u w p)):=by
 unfold B0 CJ;have step:∀n (k:Nat),k<b.length->AQ N b u.1 u.2 w.1 w.2 (n+1) k=if 0<Ao u w (pa b k)then some (.inr (k:Int))else AQ N b u.1 u.2 w.1 w.2 n ((k+1:Nat):Int):=λn k hk=>by rw[AQ,Dq hk,cT,F1 hk,bS];simp only;unfold Je;rw[YC hu hw (hs _ (Bo hk)),bS,bS,Ae (by unfold Af;omega),ns];grind
 have key:=GK (L:=AQ N b u.1 u.2 w.1 w.2) (len:=b.length) (λk=>if 0<Ao u w (pa b k)then some (k:Int)else none)
  (by grind) (by grind) (by simp_all[AQ]) N (by omega)
 rcases key with⟨e,h⟩|⟨j,r,a2,a3,a4,e⟩
 ·rw[e,bS];simp only;rw[bS];congr 1;rw[bJ (by decide)];symm;rw[cY];rintro⟨p,hp,hn⟩;obtain⟨i,hi,rfl⟩:=Jf hp;have:=h i hi;rw[dW hn]at this;cases this
 ·rw[e,bS];rw[bS];split at a3
  ·rename_i h;rw[<-yJ a3,aB (by omega)];congr 1;symm;rw[bK];exact⟨_,Bo a2,h⟩
  ·cases a3
open Classical in
theorem SP{N:Nat}(hN:1000<N){l b:List Pt}(hl:l.length<=1000)(hb:b.length<=1000)(hsl:∀p∈l,CD p)(hsb:∀p∈b,CD p):∀(k j:Nat),j+k=l.length->EK N b ((List.range' j k).map λi=>(pa l i,pa l ((i+1)%l.length))) (j:Int)=some (match(List.range' j k).find? λi=>decide (Jg l i b)with|some i=>.inr (i:Int)|none=>.inl ())
 |0,j,h=>by simp[EK]
 |k+1,j,h=>by
  have hm:(j+1)%l.length<l.length:=tH _ (by omega);rw[z9,eG,List.find?_cons];rw[show(pa l j,pa l ((j+1)%l.length))=(((pa l j).1,(pa l j).2),((pa l ((j+1)%l.length)).1,(pa l ((j+1)%l.length)).2))from rfl,EK,tE hb hN hsb (hsl _ (Bo (by omega))) (hsl _ (Bo hm)),bS];by_cases hs:Jg l j b
  ·have e:¬∃p∈b,0<Ao (pa l j) (pa l ((j+1)%l.length)) p:=by rintro⟨p,hp,hq⟩;have:=hs p hp;unfold α at this;omega
   rw[bJ e,AU _ (by rfl),aB hs]
  ·have e:∃p∈b,0<Ao (pa l j) (pa l ((j+1)%l.length)) p:=by
    by_cases h:∃p∈b,0<Ao (pa l j) (pa l ((j+1)%l.length)) p
    ·exact h
    ·exact absurd (λp hp=>by grind[α]) hs
   rw[aB e,A1 _ (by rfl),bJ hs,Ae (by omega),<-ns];exact SP hN hl hb hsl hsb k (j+1) (by omega)
theorem WE{N:Nat}(hN:1000<N){l b:List Pt}(hl:l.length<=1000)(hb:b.length<=1000)(hsl:∀p∈l,CD p)(hsb:∀p∈b,CD p):HH N l b=some (match KL l b with|some i=>(i:Int)|none=> -1):=by unfold HH;have:=SP hN hl hb hsl hsb l.length 0 (by omega);rw[<-y7,nL]at this;rw[Ae (by omega),show Co l=(List.range l.length).map λi=>(pa l i,pa l ((i+1)%l.length))from rfl,this,bS];unfold KL;cases(List.range l.length).find? λi=>@decide (Jg l i b) (Classical.propDecidable _)<;>rfl
def IK(a b:List Pt):Int×Int×Bool:=match KL a b with|some i=>(0,(i:Int),true)|none=>match KL b a with|some i=>(1,(i:Int),true)|none=>(0,0,false)
theorem XN(a b:List Pt):(∃i,i<a.length/\Jg a i b/\IK a b=(0,(i:Int),true))\/(∃i,i<b.length/\Jg b i a/\IK a b=(1,(i:Int),true))\/(¬apart a b/\IK a b=(0,0,false)):=by
 unfold IK;cases h:KL a b with
 |some i=>exact .inl ⟨i,(N0 h).1,(N0 h).2,rfl⟩
 |none=>
  cases h2:KL b a with
  |some i=>exact .inr (.inl ⟨i,(N0 h2).1,(N0 h2).2,rfl⟩)
  |none=>refine .inr (.inr ⟨?_,rfl⟩);rintro(⟨i,hi,hs⟩|⟨i,hi,hs⟩);all_goals grind[Uh]
theorem QU{a b:List Pt}:(IK a b).2.2=true↔apart a b:=by
 rcases XN a b with⟨i,h1,h2,h3⟩|⟨i,h1,h2,h3⟩|⟨h1,h3⟩<;>rw[h3]
 ·simp;exact .inl ⟨i,h1,h2⟩
 ·simp;exact .inr ⟨i,h1,h2⟩
 ·simp[h1]
theorem Acv{N:Nat}(hN:1001<=N){a b:List Pt}(ha:VP a)(hb:VP b):Hs N a b=some (IK a b):=by unfold Hs;have a8:=ha.l8;have b8:=hb.l8;rw[KT (by omega) ha,KT (by omega) hb,bS,Ae (by grind),oK,A1 _ (by rfl),WE (by omega) (by omega) (by omega) ha.sml hb.sml,bS,WE (by omega) (by omega) (by omega) hb.sml ha.sml];unfold IK;grind
theorem SQ{N:Nat}(hN:1001<=N){a b:List Pt}(ha:VP a)(hb:VP b):EB N a b=some (!(IK a b).2.2):=by unfold EB;rw[Acv hN ha hb,show IK a b=((IK a b).1,(IK a b).2.1,(IK a b).2.2)from rfl,bS,KT (by omega) ha,KT (by omega) hb];grind[Ae]
theorem ZK{a:List Pt}(h:VP a):¬apart a a:=by
 have l3:=h.l3;have key:∀i,i<a.length->¬Jg a i a:=λi hi hs=>by
  obtain⟨k,hk,n1,n2⟩:∃k,k<a.length/\k≠i/\k≠(i+1)%a.length:=by
   by_cases h0:0≠i/\0≠(i+1)%a.length
   ·exact⟨0,by omega,h0.1,h0.2⟩
   by_cases h1:1≠i/\1≠(i+1)%a.length
   ·exact⟨1,by omega,h1.1,h1.2⟩
   exact⟨2,by omega,by omega,by omega⟩
  have e1:=h.cv i k hi hk n1 n2;have e2:=hs _ (Bo hk);unfold α at e2;omega
 rintro(⟨i,hi,hs⟩|⟨i,hi,hs⟩);all_goals grind
theorem dV{g p a b:Pt}(ha:DP g p a=0)(hb:DP g p b=0)(hg:g≠(0,0)):Ao p a b=0:=by
 have e1:g.1*Ao p a b=DP g p a*(b.2-p.2)-DP g p b*(a.2-p.2):=by unfold DP Ao;grind
 have e2:g.2*Ao p a b=DP g p b*(a.1-p.1)-DP g p a*(b.1-p.1):=by unfold DP Ao;grind
 rw[ha,hb]at e1 e2;simp only[Int.zero_mul,Int.sub_self,DV]at e1 e2;grind
theorem QV{n:Nat}{v:Nat->Pt}(hn:0<n)(per:∀t,v (t+n)=v t){p g:Pt}(h:∀t,0<Ao (v t) (v (t+1)) p)(hg:g≠(0,0))(hh:∀t,0<=DP g p (v t)):False:=by
 have h':∀t,0<Ao p (v t) (v (t+1)):=λt=>by rw[<-Hd];exact h t
 obtain⟨m,hm⟩:∃m,0<DP g p (v m):=by
  by_cases h0:0<DP g p (v 0)
  ·exact⟨0,h0⟩
  by_cases h1:0<DP g p (v 1);all_goals grind[dV]
 have key:∀t,0<Ao p (v m) (v (m+(t+1))):=by
  intro t;induction t with
  |zero=>exact h' m
  |succ t ih=>
   have pl:=ZE g p (v m) (v (m+(t+1))) (v (m+(t+1+1)));have hb:=hh (m+(t+1));have hc:=hh (m+(t+1+1));have hbc:=h' (m+(t+1));rw[show m+(t+1)+1=m+(t+1+1) by omega]at hbc;have k1:=y0 hm hbc;have k2:=oJ hc (w8 ih);have hb':0<DP g p (v (m+(t+1))):=by grind
   exact IH hb' (by omega)
 have:=key (n-1);rw[show m+(n-1+1)=m+n by omega,per,E4]at this;omega
theorem JB{l:List Pt}(hl:0<l.length)(t:Nat)(p:Pt):Ao (qa l t) (qa l (t+1)) p=α l (t%l.length) p:=by unfold α qa;rw[JV]
section
open Go
attribute [local irreducible] Ax BO BB Bj BC Bk AY BD BK Cq
def Gw(N:Nat)(c322:Int)(ae:Int):Option Int:=bif decide (c322<0)then(gd (Af (c322+1))<|gd (Af (-(c322+1)))<|gd (ae≠0)<|some ((-(c322+1)).tmod ae))else(gd (ae≠0)<|some (c322.tmod ae))
@[go_sem] def s94(N:Nat):Spec:=p0<|(Aoi<|Aoi<|Aof<|Aog 0 .i) (Gw N)
theorem Ab0(N:Nat):AG Tryz.prog 94 (s94 N):=by
 refine fk (Aoq x94 (Aj)) ?_;intro c322 ae r h _ hS F;dsimp only[x94,Ah];unfold Gw at h;refine An hS F h (λ_ h=>?_) (λ_ h=>?_)
 ·obtain⟨br,bq,bm,h⟩:=un h;exact Ai hS F h
 ·obtain⟨bp,h⟩:=un h;exact Ai hS F h
def CN(N:Nat)(a327:List (Int×Int))(b333:List (Int×Int)):Nat->Int->Option (Sum Unit Bool)|0,_=>none|n+1,ab=>bif decide (ab<(a327.length:Int))then((A7 a327 ab).bind λ(be,bb)=>(A7 b333 ab).bind λ(ba,az)=>bif !(decide (be=ba)&&decide (bb=az))then(some (.inr false))else(gd (Af (ab+1))<|CN N a327 b333 n (ab+1)))else(some (.inl ()))
def C2(N:Nat)(ay:Int)(av:Int)(au:Int)(a327:List (Int×Int))(aq:Int)(an:Int)(am:Int)(ak:Int)(aj:Int)(b333:List (Int×Int))(ai:Int)(ah:Int):Option Bool:=bif (((((decide (ay≠am))||(decide (av≠ak)))||(decide (au≠aj)))||(decide (aq≠ai)))||(decide (an≠ah)))||(decide ((a327.length:Int)≠(b333.length:Int)))then(some false)else((CN N a327 b333 N 0).bind λaf=>match af with|.inl ()=>(some true)|.inr bi=>(some bi))
@[go_sem] def s40(N:Nat):Spec:=p0<|(Aoh<|Aoi<|Aoi<|Aoi<|Aon Aq<|Aoi<|Aoi<|Aof<|Aoh<|Aoi<|Aoi<|Aoi<|Aon Aq<|Aoi<|Aoi<|Aof<|Aof<|Aog false .b) (C2 N)
theorem Zw(N:Nat):AG Tryz.prog 40 (s40 N):=by
 refine fk (Aoq x40 (Aj)) ?_;intro ay av au a327 aq an am ak aj b333 ai ah r h _ hS F;dsimp only[x40,Ah,Aq];unfold C2 at h;refine An hS F h (λ_ h=>?_) (λ_ h=>?_)
 ·exact Ai hS F h
 ·obtain⟨af,bn,h⟩:=un h;refine go hS F ?_;refine Bz af (λz:Nat=>⟨[],[],z⟩) (λz=>(.inl ():Sum Unit Bool)) (.x 0) ?_ ?_
  ·refine Bp (λn (y:Int×Nat)=>CN N a327 b333 n y.1) (λy=>⟨[(2,.box (0,1) 0),(3,.box (1,1) 0),(5,.i y.1)],[(.c (1,1) 0,.i am),(.c (1,1) 1,.i ak),(.c (1,1) 2,.i aj),(.c (1,1) 3,BP b333),(.c (1,1) 4,.i ai),(.c (1,1) 5,.i ah),(.c (0,1) 0,.i ay),(.c (0,1) 1,.i av),(.c (0,1) 2,.i au),(.c (0,1) 3,BP a327),(.c (0,1) 4,.i aq),(.c (0,1) 5,.i an)],y.2⟩) (0,3) bn (Ch F) ?_;rintro n ⟨ab,bh⟩ aa;simp only[CN]at aa;refine An hS F aa (λ_ aa=>?_) (λ_ aa=>?_)
   ·obtain⟨⟨be,bb⟩,bg,aa⟩:=un aa;obtain⟨bl,F⟩:=Cb Cz bg F;obtain⟨⟨ba,az⟩,bf,aa⟩:=un aa;obtain⟨bj,F⟩:=Cb Cz bf F;refine An hS F aa (λ_ aa=>?_) (λ_ aa=>?_)
    ·obtain rfl:=yJ aa;exact Ai hS F h
    ·obtain⟨bm,aa⟩:=un aa;exact Cd hS F (n,ab+1,bh+1+1+1) aa
   ·exact B4 hS F (bh+1) aa
  ·rintro bo rfl;exact Ai hS F h
end
structure UP(a b c:Int)(l:List Pt)(p q:Int):Prop where
 a:0<=a/\a<=99
 b:1<=b/\b<=8
 c:0<=c/\c<=7
 d:0<=p/\p<q/\q<=8
 l:VP l
theorem RR(N:Nat)(n lo hi:Int):Ef N n lo hi=some (decide (lo<=n)&&decide (n<=hi)):=rfl
def Ji(a b c p q:Int):Bool:=(((((decide (0<=a)&&decide (a<=99))&&(decide (1<=b)&&decide (b<=8)))&&(decide (0<=c)&&decide (c<=7)))&&decide (0<=p))&&decide (p<q))&&decide (q<=8)
theorem K0{N:Nat}(hN:100<=N)(a b c:Int)(l:List Pt)(p q:Int):B6 N a b c l p q=some (Ji a b c p q&&vB l):=by unfold B6 Ji;rw[RR,RR,RR,IJ hN,bS,BR (λ_=>jS),BR (λ_=>jS),BR (λ_=>jS)];rfl
theorem Is{a b c:Int}{l:List Pt}{p q:Int}:(Ji a b c p q&&vB l)=true↔UP a b c l p q:=by
 unfold Ji;simp only[nK,bK,Li];constructor
 ·rintro⟨⟨⟨⟨⟨⟨h1,h2⟩,h3⟩,h4⟩,h5⟩,h6⟩,h7⟩;exact⟨h1,h2,h3,⟨h4,h5,h6⟩,h7⟩
 ·rintro⟨h1,h2,h3,⟨h4,h5,h6⟩,h7⟩;exact⟨⟨⟨⟨⟨⟨h1,h2⟩,h3⟩,h4⟩,h5⟩,h6⟩,h7⟩
theorem mT{N:Nat}(hN:100<=N){a b c:Int}{l:List Pt}{p q:Int}(h:UP a b c l p q):B6 N a b c l p q=some true:=by rw[K0 hN,Is.2 h]
theorem AeL{N:Nat}{c n:Int}(hc:Af c)(hn:0<n):Gw N c n=some (pk c n):=by
 unfold Gw pk;unfold Af at hc;by_cases h:c<0
 ·rw[aB h,cT,dW h,Ae (by unfold Af;omega),Ae (by unfold Af;omega),Ae (by omega)]
 ·rw[bJ h,cF,dQ h,Ae (by omega)]
def prs:List Int->List Pt|x::y::r=>(x,y)::prs r|_=>[]
def fl:List Pt->List Int|[]=>[]|p::l=>p.1::p.2::fl l
theorem AhR:∀l:List Pt,prs (fl l)=l
 |[]=>rfl
 |p::l=>by simp only[fl,prs,AhR l]
theorem AhS:∀l:List Pt,(fl l).length=2*l.length
 |[]=>rfl
 |p::l=>by simp only[fl,pV,AhS l];omega
theorem AhT:∀(k:Nat)(xs:List Int),xs.length=2*k->fl (prs xs)=xs/\(prs xs).length=k
 |0,[],_=>⟨rfl,rfl⟩
 |0,_::_,h=>by simp at h
 |k+1,[],h=>by simp at h
 |k+1,[_],h=>by simp at h;omega
 |k+1,x::y::r,h=>by
  obtain⟨h1,h2⟩:=AhT k r (by simp at h;omega)
  simp_all[prs,fl]
theorem AhI:∀l:List Pt,Qq l=E0 (fl l)
 |[]=>rfl
 |p::l=>by have:=AhI l;simp only[Qq,E0,fl,eG,List.flatten_cons,tV,List.flatten_nil,qO,qZ]at this⊢;rw[this]
open Classical in
def Ahs(s:List UInt8):Option (Int×Int×Int×List Pt×Int×Int):=(rdN 6 s).bind λhr=>match hr.1 with|[a,b,c,f,g,n]=>if 3<=n/\n<=8 then(rdN (2*n.toNat) hr.2).bind λxr=>if xr.2=[]/\UP a b c (prs xr.1) f g then some (a,b,c,prs xr.1,f,g)else none else none|_=>none
theorem Ahr{N:Nat}(hN:10<=N){s:List UInt8}{p:Nat}(hs:s.length<=1000000000)(hp:p<=s.length):dN N s p=some ((xP (s.drop p)).map λnm=>(nm.1,((p+nm.2:Nat):Int))):=by grind[dN,AhH]
theorem Agx{s:List UInt8}{p:Nat}{n:Int}{m:Nat}(hp:p<=s.length)(h:xP (s.drop p)=some (n,m)):p+m<=s.length:=by have:=(Ahp h).2.2.1;rw[sG]at this;omega
theorem Ah9{N:Nat}(hN:10<=N){s:List UInt8}(hs:s.length<=1000000000):∀(k p:Nat)(l:List Pt),p<=s.length->dP N s k p l=some ((rdN (2*k) (s.drop p)).map λxr=>(l++prs xr.1,((s.length-xr.2.length:Nat):Int)))
 |0,p,l,hp=>by simp only[dP,Nat.mul_zero,rdN,tG,prs,qO,sG];rw[show s.length-(s.length-p)=p by omega]
 |k+1,p,l,hp=>by
  simp only[dP];rw[Ahr hN hs hp,show 2*(k+1)=2*k+1+1 by omega];simp only[rdN];cases h1:xP (s.drop p)with
  |none=>rfl
  |some nm=>
   obtain⟨n,m⟩:=nm;have hp1:=Agx hp h1;simp only[tG,pb,pK,w7];rw[Ahr hN hs hp1];cases h2:xP (s.drop (p+m))with
   |none=>rfl
   |some nm2=>obtain⟨n2,m2⟩:=nm2;have hp2:=Agx hp1 h2;simp only[tG,pb,pK,w7];rw[Ah9 hN hs k (p+m+m2) _ hp2];cases rdN (2*k) (s.drop (p+m+m2))<;>grind[prs]
theorem Aie{N:Nat}(hN:100<=N){s:List UInt8}(hs:s.length<=1000000000):lB N s=some (Ahs s):=by
 unfold lB Ahs;have h10:10<=N:=by omega
 have e0:=Ahr h10 hs (tD s.length);rw[nL,tJ]at e0;rw[e0,show(6:Nat)=0+1+1+1+1+1+1 from rfl];simp only[rdN];cases h1:xP s with
 |none=>rfl
 |some nm1=>
 obtain⟨a,m1⟩:=nm1;have p1:=Agx (tD s.length) (by rw[tJ];exact h1);simp only[tG,pb,pK,w7];rw[rB]at p1⊢;rw[Ahr h10 hs p1];cases h2:xP (s.drop m1)with
 |none=>rfl
 |some nm2=>
 obtain⟨b,m2⟩:=nm2;have p2:=Agx p1 h2;simp only[tG,pb,pK,w7];rw[Ahr h10 hs p2];cases h3:xP (s.drop (m1+m2))with
 |none=>rfl
 |some nm3=>
 obtain⟨c,m3⟩:=nm3;have p3:=Agx p2 h3;simp only[tG,pb,pK,w7];rw[Ahr h10 hs p3];cases h4:xP (s.drop (m1+m2+m3))with
 |none=>rfl
 |some nm4=>
 obtain⟨f,m4⟩:=nm4;have p4:=Agx p3 h4;simp only[tG,pb,pK,w7];rw[Ahr h10 hs p4];cases h5:xP (s.drop (m1+m2+m3+m4))with
 |none=>rfl
 |some nm5=>
 obtain⟨g,m5⟩:=nm5;have p5:=Agx p4 h5;simp only[tG,pb,pK,w7];rw[Ahr h10 hs p5];cases h6:xP (s.drop (m1+m2+m3+m4+m5))with
 |none=>rfl
 |some nm6=>
 obtain⟨n,m6⟩:=nm6;have p6:=Agx p5 h6;simp only[tG,pb,pK,w7];by_cases hn:3<=n/\n<=8
 ·rw[dW hn,AU _ (by simp[hn]),Ah9 h10 hs _ _ _ p6];cases h7:rdN (2*n.toNat) (s.drop (m1+m2+m3+m4+m5+m6))with
  |none=>rfl
  |some xr=>
   obtain⟨xs,r⟩:=xr;obtain⟨b1,_,_⟩:=Ahx _ _ _ _ h7;have hl:r.length<=s.length:=by have:=congrArg List.length b1;rw[sG,jT]at this;omega
   simp only[tG,pb,pK,pA];by_cases hr:r=[]
   ·subst hr;rw[A1 _ (by simp),K0 hN,pK];by_cases hu:UP a b c (prs xs) f g
    ·rw[dW ⟨rfl,hu⟩,(Is.2 hu)];rfl
    ·rw[dQ λh=>hu h.2,show(Ji a b c f g&&vB (prs xs))=false by rw[tU];exact λh=>hu (Is.1 h)];rfl
   ·have:0<r.length:=List.length_pos_iff.2 hr;rw[AU _ (by simp;omega),dQ λh=>hr h.1]
 ·rw[dQ hn,A1 _ (by rw[z8];simp;omega)]
theorem Aia{a b c:Int}{l:List Pt}{p q:Int}(h:UP a b c l p q):(∀n∈[a,b,c,p,q,(l.length:Int)],Akh n)/\∀n∈fl l,Akh n:=by
 obtain⟨h1,h2,h3,h4,h5⟩:=h;have l8:=h5.l8;constructor
 ·intro n hn;simp only[kC,List.not_mem_nil,or_false]at hn;unfold Akh;rcases hn with rfl|rfl|rfl|rfl|rfl|rfl<;>omega
 ·have key:∀l':List Pt,(∀p∈l',On p)->∀n∈fl l',Akh n:=by
   intro l';induction l' with
   |nil=>intro _ n hn;cases hn
   |cons p l' ih=>
    intro h n hn;have hp:=h p (by simp);unfold On at hp;simp only[fl,kC]at hn;unfold Akh;rcases hn with rfl|rfl|hn
    ·omega
    ·omega
    ·exact ih (λp hp=>h p (by simp[hp])) n hn
  exact key l h5.on
theorem AhX{a b c:Int}{l:List Pt}{p q:Int}(h:UP a b c l p q)(w:List UInt8):rdN 6 (kW a b c l p q++w)=some ([a,b,c,p,q,(l.length:Int)],E0 (fl l)++w):=by have:=AhD [a,b,c,p,q,(l.length:Int)] (E0 (fl l)++w) (Aia h).1;unfold kW pN;rw[AhI,qZ];exact this
theorem Aif{a b c:Int}{l:List Pt}{p q:Int}(h:UP a b c l p q)(w:List UInt8):rdN (2*(l.length:Int).toNat) (E0 (fl l)++w)=some (fl l,w):=by have:=AhD (fl l) w (Aia h).2;rw[AhS]at this;exact this
theorem AhY{a b c:Int}{l:List Pt}{p q:Int}(h:UP a b c l p q):Ahs (kW a b c l p q)=some (a,b,c,l,p,q):=by have e:=AhX h [];have e2:=Aif h [];have l3:=h.l.l3;have l8:=h.l.l8;rw[qO]at e;unfold Ahs;rw[e,pK];simp only;rw[dW (by omega),e2,pK];simp only;rw[AhR,dW ⟨rfl,h⟩]
theorem AhU{s:List UInt8}{a b c:Int}{l:List Pt}{p q:Int}(h:Ahs s=some (a,b,c,l,p,q)):UP a b c l p q/\s=kW a b c l p q:=by
 unfold Ahs at h;obtain⟨⟨hs,r⟩,h1,h⟩:=yB.1 h;simp only at h;split at h
 ·rename_i a' b' c' f' g' n;split at h
  ·rename_i hn;obtain⟨⟨xs,r'⟩,h2,h⟩:=yB.1 h;simp only at h;split at h
   ·rename_i hu;obtain⟨rfl,hu⟩:=hu;simp only[yE,KW]at h;obtain⟨rfl,rfl,rfl,rfl,rfl,rfl⟩:=h;obtain⟨b1,b2,_⟩:=Ahx _ _ _ _ h1;obtain⟨c1,c2,_⟩:=Ahx _ _ _ _ h2;obtain⟨d1,d2⟩:=AhT _ _ c2;refine⟨hu,?_⟩;unfold kW pN;rw[AhI,d1,d2,b1,c1,qO,show((n.toNat:Nat):Int)=n by omega]
   ·cases h
  ·cases h
 ·cases h
def Tr(x y:Int):Int:=if x<y then-1 else if y<x then 1 else 0
def Ff(p q:Pt):Int:=if Tr p.1 q.1≠0 then Tr p.1 q.1 else Tr p.2 q.2
def lo(p q:Pt):Pt:=if Ff q p<0 then q else p
def hi(p q:Pt):Pt:=if Ff q p<0 then p else q
theorem Tu{l:List Pt}(h:VP l)(s t:Nat):0<=Ao (qa l s) (qa l (s+1)) (qa l t):=by
 have l3:=h.l3;have hn:0<l.length:=by omega
 have hs:=SO (n:=l.length) (i:=s%l.length) (k:=t%l.length) hn;have ha:=Nx (tH s hn) (tH t hn);rw[JV]at ha;have e:qa l t=qa l (s+Eb l.length (s%l.length) (t%l.length)):=by show pa l (t%l.length)=pa l ((s+Eb l.length (s%l.length) (t%l.length))%l.length);rw[ha]
 rw[e];generalize Eb l.length (s%l.length) (t%l.length)=a at*;by_cases h0:a=0
 ·subst h0;show 0<=Ao (qa l s) (qa l (s+1)) (qa l s);rw[EM];omega
 by_cases h1:a=1
 ·subst h1;rw[E4];omega
 exact w8 (GB h.cv (by omega) hs)
def dd(P Q x:Pt):Int:=(Q.1-P.1)*(x.1-P.1)+(Q.2-P.2)*(x.2-P.2)
def Cn(p q:Pt):Prop:=p.1<q.1\/(p.1=q.1/\p.2<=q.2)
def Rk(P Q x:Pt):Prop:=(Cn P x/\Cn x Q)\/(Cn Q x/\Cn x P)
theorem OB{P Q:Pt}(h:P≠Q):0<dd P Q Q:=by have:=LL h;grind[dd,dst]
theorem Ll(P Q u w x:Pt)(hu:Ao P Q u=0)(hw:Ao P Q w=0):Ao u w x*dd P Q Q=Ao P Q x*(dd P Q w-dd P Q u):=by
 have:Ao u w x*dd P Q Q-Ao P Q x*(dd P Q w-dd P Q u)=Ao P Q w*(dd P Q u-dd P Q x)+Ao P Q u*(dd P Q x-dd P Q w):=by unfold Ao dd;grind
 rw[hu,hw]at this;omega
theorem Oe{l:List Pt}(h:VP l){j:Nat}(hj:j<l.length){x:Pt}(hx:x∈l):0<=α l j x:=by
 obtain⟨t,ht,rfl⟩:=Jf hx;have:=Tu h j t
 rwa [GL ht,JB (by omega),sI hj]at this
theorem LP{l:List Pt}(h:VP l){j:Nat}(hj:j<l.length):∃x∈l,0<α l j x:=by
 have l3:=h.l3;obtain⟨k,hk,n1,n2⟩:∃k,k<l.length/\k≠j/\k≠(j+1)%l.length:=by
  by_cases h0:0≠j/\0≠(j+1)%l.length
  ·exact⟨0,by omega,h0.1,h0.2⟩
  by_cases h1:1≠j/\1≠(j+1)%l.length
  ·exact⟨1,by omega,h1.1,h1.2⟩
  exact⟨2,by omega,by omega,by omega⟩
 exact⟨_,Bo hk,h.cv j k hj hk n1 n2⟩
section
variable{a b:List Pt}
structure SeamOK(a b:List Pt)(s:Pt×Pt):Prop where
 ne:s.1≠s.2
 on:∀p,(clo a p/\¬inn a p)/\(clo b p/\¬inn b p)↔Ao s.1 s.2 p=0/\Rk s.1 s.2 p
 left:∀x∈a,0<=Ao s.1 s.2 x
end
