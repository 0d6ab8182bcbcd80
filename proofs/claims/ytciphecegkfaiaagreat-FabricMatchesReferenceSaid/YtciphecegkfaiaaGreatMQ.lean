import Derived.Test.YtciphecegkfaiaaGreatM7
set_option linter.unusedSimpArgs false
set_option linter.unusedVariables false
namespace Go.Proofs.YtciphecegkfaiaaGreat.Am
def Ni(x y:Int):Int:=if x<y then-1 else if y<x then 1 else 0
def EN(p q:Pt):Int:=if Ni p.1 q.1≠0 then Ni p.1 q.1 else Ni p.2 q.2
theorem KK{N:Nat}(hN:100<=N)(p q:Pt):DL N p.1 p.2 q.1 q.2=some (EN p q):=by
 unfold DL;rw[LP,bS,LP,bS];unfold Kt;obtain⟨n,rfl⟩:∃n,N=n+1+1+1:=⟨N-3,by omega⟩
 have c1:(if p.1<q.1 then-1 else if q.1<p.1 then 1 else 0:Int)=Ni p.1 q.1:=rfl;have c2:(if p.2<q.2 then-1 else if q.2<p.2 then 1 else 0:Int)=Ni p.2 q.2:=rfl;rw[c1,c2];unfold EN;generalize Ni p.1 q.1=a;generalize Ni p.2 q.2=b;rw[FD,AG _ (by rfl),show AA [a,b] 0=some a from rfl,bS];by_cases h:a=0
 ·subst h;rw[Az _ (by decide),Aa (by decide),eW (by simp),FD,AG _ (by rfl),show AA [(0:Int),b] (0+1)=some b from rfl,bS];by_cases h2:b=0
  ·subst h2;rw[Az _ (by decide),Aa (by decide),FD,Az _ (by decide),bS];simp only;rw[bS]
  ·rw[AG _ (dC h2),bS];simp only;rw[bS]
 ·rw[AG _ (dC h),eX h,bS];simp only;rw[bS]
theorem Lm{p q:Pt}:EN p q<0↔p.1<q.1\/(p.1=q.1/\p.2<q.2):=by
 unfold EN Ni
 repeat' split
 all_goals omega
theorem Lo{p q:Pt}:0<EN p q↔q.1<p.1\/(q.1=p.1/\q.2<p.2):=by
 unfold EN Ni
 repeat' split
 all_goals omega
def HU(u v:Pt):Pt:=if 0<EN v u then v else u
def HV(u v:Pt):Pt:=if EN v u<0 then v else u
theorem zO{N:Nat}(hN:100<=N)(u v:Pt)(n:Nat):AO N [(u.1,u.2),(v.1,v.2)] (n+1+1) 1 u.1 u.2=some ((HU u v).1,(HU u v).2):=by
 rw[AO,AG _ (by rfl),show AA [(u.1,u.2),(v.1,v.2)] 1=some (v.1,v.2)from rfl,bS];simp only;rw[KK hN,bS];unfold HU;by_cases h:0<EN v u
 ·rw[AG _ (dC h),Aa (by decide),eX h,AO,Az _ (by rfl)]
 ·rw[Az _ (dJ h),Aa (by decide),eW h,AO,Az _ (by rfl)]
theorem Sh{N:Nat}(hN:100<=N)(u v:Pt):Ba N [(u.1,u.2),(v.1,v.2)]=some ((HU u v).1,(HU u v).2):=by
 unfold Ba;have h:=λn=>zO hN u v n
 obtain⟨n,e⟩:∃n,N=n+1+1:=⟨N-2,by omega⟩
 have h':=h n;rw[<-e]at h';rw[Aa (by rfl),show AA [(u.1,u.2),(v.1,v.2)] 0=some (u.1,u.2)from rfl,bS];simp only;rw[h',bS]
theorem zP{N:Nat}(hN:100<=N)(u v:Pt)(n:Nat):AP N [(u.1,u.2),(v.1,v.2)] (n+1+1) 1 u.1 u.2=some ((HV u v).1,(HV u v).2):=by
 rw[AP,AG _ (by rfl),show AA [(u.1,u.2),(v.1,v.2)] 1=some (v.1,v.2)from rfl,bS];simp only;rw[KK hN,bS];unfold HV;by_cases h:EN v u<0
 ·rw[AG _ (dC h),Aa (by decide),eX h,AP,Az _ (by rfl)]
 ·rw[Az _ (dJ h),Aa (by decide),eW h,AP,Az _ (by rfl)]
theorem Si{N:Nat}(hN:100<=N)(u v:Pt):Bb N [(u.1,u.2),(v.1,v.2)]=some ((HV u v).1,(HV u v).2):=by
 unfold Bb;have h:=λn=>zP hN u v n
 obtain⟨n,e⟩:∃n,N=n+1+1:=⟨N-2,by omega⟩
 have h':=h n;rw[<-e]at h';rw[Aa (by rfl),show AA [(u.1,u.2),(v.1,v.2)] 0=some (u.1,u.2)from rfl,bS];simp only;rw[h',bS]
def lo(p q:Pt):Pt:=if EN q p<0 then q else p
def hi(p q:Pt):Pt:=if EN q p<0 then p else q
def CB(p q r s:Pt):Pt×Pt:=(HU (lo p q) (lo r s),HV (hi p q) (hi r s))
theorem dH{N:Nat}(hN:100<=N)(p q r s:Pt):H7 N p.1 p.2 q.1 q.2 r.1 r.2 s.1 s.2=some (CB p q r s):=by
 unfold H7 CB lo hi;rw[bS,KK hN,bS,KK hN];by_cases h1:EN q p<0
 ·rw[AG _ (dC h1),eX h1,eX h1,bS];by_cases h2:EN s r<0
  ·rw[AG _ (dC h2),eX h2,eX h2,Sh hN,bS];simp only;rw[Si hN,bS,Aa (by decide),Aa (by decide),Aa (by decide),Aa (by decide)]
  ·rw[Az _ (dJ h2),eW h2,eW h2,Sh hN,bS];simp only;rw[Si hN,bS,Aa (by decide),Aa (by decide),Aa (by decide),Aa (by decide)]
 ·rw[Az _ (dJ h1),eW h1,eW h1,bS];by_cases h2:EN s r<0
  ·rw[AG _ (dC h2),eX h2,eX h2,Sh hN,bS];simp only;rw[Si hN,bS,Aa (by decide),Aa (by decide),Aa (by decide),Aa (by decide)]
  ·rw[Az _ (dJ h2),eW h2,eW h2,Sh hN,bS];simp only;rw[Si hN,bS,Aa (by decide),Aa (by decide),Aa (by decide),Aa (by decide)]
def F6(e f:Pt×Pt):Option (Pt×Pt):=if Ah e.1 e.2 f.1≠0\/Ah e.1 e.2 f.2≠0 then none else if(CB e.1 e.2 f.1 f.2).1=(CB e.1 e.2 f.1 f.2).2\/0<EN (CB e.1 e.2 f.1 f.2).1 (CB e.1 e.2 f.1 f.2).2 then none else if 0<EN e.1 e.2 then some ((CB e.1 e.2 f.1 f.2).2,(CB e.1 e.2 f.1 f.2).1)else some (CB e.1 e.2 f.1 f.2)
theorem X6{N:Nat}(hN:100<=N){e:Pt×Pt}(he:BH e.1/\BH e.2):∀(es:List (Pt×Pt)),(∀f∈es,BH f.1/\BH f.2)->Ew N e.1.1 e.1.2 e.2.1 e.2.2 es=some (match es.findSome? (F6 e)with|some s=>.inr (s,true)|none=>.inl ())
 |[],_=>by simp[Ew]
 |f::es,h=>by
  have hf:=h f (by simp);have ih:=X6 hN he es λx hx=>h x (by simp[hx])
  rw[show f=((f.1.1,f.1.2),(f.2.1,f.2.2))from rfl,Ew,Nv he.1 he.2 hf.1,bS,Nv he.1 he.2 hf.2,Aa (λ_=>fD),mN,List.findSome?_cons];rw[show((f.1.1,f.1.2),(f.2.1,f.2.2))=f from rfl,ih];by_cases h1:Ah e.1 e.2 f.1≠0\/Ah e.1 e.2 f.2≠0
  ·rw[AG _ (by simpa using h1),show F6 e f=none from eX h1]
  ·rw[Az _ (by rw[w6];simpa using h1),dH hN,show CB e.1 e.2 f.1 f.2=(((CB e.1 e.2 f.1 f.2).1.1,(CB e.1 e.2 f.1 f.2).1.2),((CB e.1 e.2 f.1 f.2).2.1,(CB e.1 e.2 f.1 f.2).2.2))from rfl,bS];simp only;rw[KK hN,Aa (λ_=>fD),mN,ptE];by_cases h2:(CB e.1 e.2 f.1 f.2).1=(CB e.1 e.2 f.1 f.2).2\/0<EN (CB e.1 e.2 f.1 f.2).1 (CB e.1 e.2 f.1 f.2).2
   ·rw[AG _ (by simpa using h2),show F6 e f=none by unfold F6;rw[eW h1,eX h2]]
   ·rw[Az _ (by rw[w6];simpa using h2),KK hN,bS];by_cases h3:0<EN e.1 e.2
    ·rw[AG _ (dC h3),show F6 e f=some ((CB e.1 e.2 f.1 f.2).2,(CB e.1 e.2 f.1 f.2).1) by unfold F6;rw[eW h1,eW h2,eX h3]]
    ·rw[Az _ (dJ h3),show F6 e f=some (CB e.1 e.2 f.1 f.2) by unfold F6;rw[eW h1,eW h2,eW h3]]
def Gv(a b:List Pt):Option (Pt×Pt):=(Bu a).findSome? λe=>(Bu b).findSome? (F6 e)
theorem X7{N:Nat}(hN:100<=N){b:List Pt}(hb:VP b):∀(es:List (Pt×Pt)),(∀f∈es,BH f.1/\BH f.2)->E6 N b es=some (match es.findSome? (λe=>(Bu b).findSome? (F6 e))with|some s=>.inr (s,true)|none=>.inl ())
 |[],_=>by simp[E6]
 |e::es,h=>by
  have he:=h e (by simp);have b8:=hb.l8;rw[show e=((e.1.1,e.1.2),(e.2.1,e.2.2))from rfl,E6,Aa (by omega),X6 hN he _ (I4 hb.sml),bS,List.findSome?_cons];rw[show((e.1.1,e.1.2),(e.2.1,e.2.2))=e from rfl];cases(Bu b).findSome? (F6 e)with
  |some s=>rfl
  |none=>exact X7 hN hb es λx hx=>h x (by simp[hx])
open Classical in
noncomputable def Fu(a b:List Pt):(Pt×Pt)×Bool:=if apart a b then(match Gv a b with|some s=>(s,true)|none=>(((0,0),(0,0)),false))else(((0,0),(0,0)),false)
theorem X8{N:Nat}(hN:1001<=N){a b:List Pt}(ha:VP a)(hb:VP b):Gg N a b=some (Fu a b):=by
 unfold Gg Fu;have a8:=ha.l8;rw[Jq (by omega) ha,Jq (by omega) hb,bS,Aa (λ_=>fD),LQ hN ha hb,Aa (λ_=>fD),mN,mN];by_cases h:apart a b
 ·rw[LY.2 h,Az _ (by rfl),Aa (by omega),eX h,X7 (by omega) hb _ (I4 ha.sml),bS,show(Bu a).findSome? (λe=>(Bu b).findSome? (F6 e))=Gv a b from rfl];cases Gv a b<;>rfl
 ·have e:(HG a b).2.2=false:=by rw[w6];intro q;exact h (LY.1 q)
  rw[e,AG _ (by rfl),eW h]
def mv(d p:Pt):Pt:=(p.1+d.1,p.2+d.2)
theorem Mp(d a b c:Pt):Ah (mv d a) (mv d b) (mv d c)=Ah a b c:=by unfold Ah mv;grind
theorem tQ(d:Pt){l:List Pt}(h:Conv l):Conv (l.map (mv d)):=by intro i k hi hk n1 n2;rw[p9]at hi hk n2⊢;have hm:(i+1)%l.length<l.length:=uM _ (by omega);rw[FK hi,FK hk,FK hm,Mp];exact h i k hi hk n1 n2
theorem oZ(d:Pt){l:List Pt}(h:VP l)(ho:∀p∈l,On (mv d p)):VP (l.map (mv d)):=⟨by rw[p9];exact h.l3,by rw[p9];exact h.l8,λp hp=>by obtain⟨q,hq,rfl⟩:=tI.1 hp;exact ho q hq,tQ d h.cv⟩
theorem TT(N:Nat){l:List Pt}(hl:l.length<=1000)(hs:∀p∈l,BH p){d:Pt}(hd:BH d):∀(n i:Nat),i<=l.length->l.length<n+i->Gr N l d.1 d.2 n i ((l.take i).map (mv d)++l.drop i)=some (l.map (mv d))
 |0,i,hi,hn=>by omega
 |n+1,i,hi,hn=>by
  rw[Gr];by_cases he:i=l.length
  ·subst he;rw[CT,cF,w5,Wq,qF]
  have hi':i<l.length:=by omega
  have hp:=hs _ (AN hi');have hd':=hd;unfold BH at hp hd';have e1:AA ((l.take i).map (mv d)++l.drop i) (i:Int)=some ((pa l i).1,(pa l i).2):=by rw[P8 hi',VO hi']
  rw[Ch hi',cT,e1,bS];simp only;rw[Aa (by unfold Ab;omega),uS,lK hi',VO hi',bS];simp only;rw[Aa (by unfold Ab;omega),Aa (by unfold Ab;omega),dD hi',<-ns,show((pa l i).1+d.1,(pa l i).2+d.2)=mv d (pa l i)from rfl,lN hi'];exact TT N hl hs hd n (i+1) (by omega) (by omega)
def Pr(d:Pt):Prop:=(-40<=d.1/\d.1<=40)/\-40<=d.2/\d.2<=40
open Classical in
theorem X9{N:Nat}(hN:100<=N){l:List Pt}(h:VP l){d:Pt}(hd:Pr d):Gf N l d.1 d.2=some (if∀p∈l,On (mv d p)then(l.map (mv d),0)else([],70)):=by
 unfold Gf;have l3:=h.l3;have l8:=h.l8;unfold Pr at hd;have hc:=TT N (by omega) h.sml (d:=d) (by unfold BH;omega) N 0 (by omega) (by omega);rw[show((0:Nat):Int)=0 from rfl,uP,Ws,w7,nJ]at hc;rw[Jq hN h,bS,Az _ (by simp;omega),Aa (by rintro rfl;simp at l3),Aa (by omega),hc,bS,VM hN (by simp;omega),bS];by_cases ho:∀p∈l,On (mv d p)
 ·rw[eX ho,Az _ (dJ (by rintro⟨p,hp,hn⟩;obtain⟨q,hq,rfl⟩:=tI.1 hp;exact hn (ho q hq)))]
 ·rw[eW ho,AG _ (dC (by
   by_cases hx:∃p∈l.map (mv d),¬On p
   ·exact hx
   ·exact absurd (λp hp=>by
     by_cases hq:On (mv d p)
     ·exact hq
     ·exact absurd ⟨_,tI.2 ⟨p,hp,rfl⟩,hq⟩ hx) ho))]
theorem zZ{l:List Pt}(hl:0<l.length){i:Nat}(hi:i<l.length)(p:Pt):α l i p=Ah (qa l i) (qa l (i+1)) p:=by rw[S5 hl,tT hi]
theorem lQ{l:List Pt}(h:VP l)(s t:Nat):0<=Ah (qa l s) (qa l (s+1)) (qa l t):=by
 have l3:=h.l3;have hn:0<l.length:=by omega
 have hs:=zK (n:=l.length) (i:=s%l.length) (k:=t%l.length) hn;have ha:=zL (uM s hn) (uM t hn);rw[Tn]at ha;have e:qa l t=qa l (s+QB l.length (s%l.length) (t%l.length)):=by show pa l (t%l.length)=pa l ((s+QB l.length (s%l.length) (t%l.length))%l.length);rw[ha]
 rw[e];generalize QB l.length (s%l.length) (t%l.length)=a at*;by_cases h0:a=0
 ·subst h0;show 0<=Ah (qa l s) (qa l (s+1)) (qa l s);rw[E7];omega
 by_cases h1:a=1
 ·subst h1;rw[D1];omega
 exact zX (Ib h.cv (by omega) hs)
theorem AbW{u w p:Pt}{x:Pt}(h1:Ah u w p=0)(h2:Ah u x p=0)(h3:Ah u w x≠0):p=u:=by
 have e1:(p.1-u.1)*Ah u w x=(w.1-u.1)*Ah u p x+(x.1-u.1)*Ah u w p:=by unfold Ah;grind
 have e2:(p.2-u.2)*Ah u w x=(w.2-u.2)*Ah u p x+(x.2-u.2)*Ah u w p:=by unfold Ah;grind
 have e3:Ah u p x= -Ah u x p:=by unfold Ah;grind
 rw[h1,e3,h2]at e1 e2;simp only[Int.neg_zero,Int.mul_zero,Int.add_zero,Nw]at e1 e2;exact Rl (by rcases e1 with h|h;omega;exact absurd h h3) (by rcases e2 with h|h;omega;exact absurd h h3)
def dd(P Q x:Pt):Int:=(Q.1-P.1)*(x.1-P.1)+(Q.2-P.2)*(x.2-P.2)
def BL(p q:Pt):Prop:=p.1<q.1\/(p.1=q.1/\p.2<=q.2)
theorem Lp{p q:Pt}:BL p q↔¬0<EN p q:=by rw[Lo];unfold BL;omega
theorem BF{p q r:Pt}(h1:BL p q)(h2:BL q r):BL p r:=by unfold BL at*;omega
theorem Ik(p q:Pt):BL p q\/BL q p:=by unfold BL;omega
theorem BS{p q:Pt}(h1:BL p q)(h2:BL q p):p=q:=by unfold BL at*;exact Rl (by omega) (by omega)
theorem B4(p:Pt):BL p p:=by unfold BL;omega
theorem Mr{u v p:Pt}:BL (HU u v) p↔BL u p/\BL v p:=by
 unfold HU;split
 ·rename_i h;rw[Lo]at h;constructor
  ·intro q;exact⟨by unfold BL at*;omega,q⟩
  ·exact λq=>q.2
 ·rename_i h;rw[Lo]at h;constructor
  ·intro q;exact⟨q,by unfold BL at*;omega⟩
  ·exact λq=>q.1
theorem Mt{u v p:Pt}:BL p (HV u v)↔BL p u/\BL p v:=by
 unfold HV;split
 ·rename_i h;rw[Lm]at h;constructor
  ·intro q;exact⟨by unfold BL at*;omega,q⟩
  ·exact λq=>q.2
 ·rename_i h;rw[Lm]at h;constructor
  ·intro q;exact⟨q,by unfold BL at*;omega⟩
  ·exact λq=>q.1
def Lq(P Q x:Pt):Prop:=(BL P x/\BL x Q)\/(BL Q x/\BL x P)
theorem VT{P Q x:Pt}:Lq P Q x↔BL (lo P Q) x/\BL x (Am.hi P Q):=by
 unfold Lq lo Am.hi;split
 ·rename_i h;rw[Lm]at h;unfold BL;omega
 ·rename_i h;rw[Lm]at h;unfold BL;omega
theorem Aaa{d1 d2 w1 w2:Int}(hd:d1≠0\/d2≠0)(hz:d1*w2=d2*w1):(0<d1\/(d1=0/\0<d2))->(0<=d1*w1+d2*w2↔(0<w1\/(w1=0/\0<=w2))):=by
 intro hp;rcases hp with hp|⟨hp,hq⟩
 ·have e:d1*(d1*w1+d2*w2)=(d1*d1+d2*d2)*w1:=by grind
  have pos:0<d1*d1+d2*d2:=by have:=CX hp hp;have:=MW d2;omega
  constructor
  ·intro h;have:=mM (zX hp) h;have h1:=Fr pos (b:=w1) (by omega);rcases Int.lt_or_eq_of_le h1 with q|q
   ·exact .inl q
   ·refine .inr ⟨q.symm,?_⟩;rw[<-q,Int.mul_zero]at hz;rcases Nw.1 hz with c|c<;>omega
  ·intro h;have h1:0<=w1:=by omega
   have:=mM (zX pos) h1;exact Fr hp (by omega)
 ·subst hp;have hw:w1=0:=by
   rw[Int.zero_mul]at hz;rcases Nw.1 hz.symm with c|c
   ·omega
   ·exact c
  subst hw;rw[Int.zero_mul,X3];constructor
  ·intro h;exact .inr ⟨rfl,Fr hq h⟩
  ·rintro(h|⟨_,h⟩)
   ·omega
   ·exact mM (zX hq) h
theorem IF{P Q x y:Pt}(hne:P≠Q)(hPQ:BL P Q)(hx:Ah P Q x=0)(hy:Ah P Q y=0):dd P Q x<=dd P Q y↔BL x y:=by
 have hd:Q.1-P.1≠0\/Q.2-P.2≠0:=by
  by_cases h:Q.1-P.1≠0\/Q.2-P.2≠0
  ·exact h
  ·exact absurd (Rl (by omega) (by omega)) hne
 have hz:(Q.1-P.1)*(y.2-x.2)=(Q.2-P.2)*(y.1-x.1):=by unfold Ah at hx hy;grind
 have:=Aaa hd hz (by unfold BL at hPQ;omega);have e:(Q.1-P.1)*(y.1-x.1)+(Q.2-P.2)*(y.2-x.2)=dd P Q y-dd P Q x:=by unfold dd;grind
 rw[e]at this;unfold BL;constructor
 ·intro h;have:=this.1 (by omega);omega
 ·intro h;have:=this.2 (by omega);omega
theorem Aab{P Q x:Pt}(hne:P≠Q)(hx:Ah P Q x=0):Lq P Q x↔0<=dd P Q x/\dd P Q x<=dd P Q Q:=by
 have d0:dd P Q P=0:=by unfold dd;grind
 rcases Ik P Q with h|h
 ·have h1:=IF hne h (E7 P Q) hx;have h2:=IF hne h hx (D1 P Q);rw[d0]at h1;rw[h1,h2];unfold Lq;constructor
  ·rintro(q|⟨q1,q2⟩)
   ·exact q
   ·exact absurd (BS h (BF q1 q2)) hne
  ·exact .inl
 ·have s1:Ah Q P x=0:=by rw[HT];omega
  have h1:=IF (λe=>hne e.symm) h (E7 Q P) s1;have h2:=IF (λe=>hne e.symm) h s1 (D1 Q P);have e1:dd Q P Q=0:=by unfold dd;grind
  have e2:dd Q P x=dd P Q Q-dd P Q x:=by unfold dd;grind
  have e3:dd Q P P=dd P Q Q:=by unfold dd;grind
  rw[e1,e2]at h1;rw[e2,e3]at h2;constructor
  ·rintro(⟨q1,q2⟩|⟨q1,q2⟩)
   ·exact absurd (BS (BF q1 q2) h) hne
   ·have:=h1.2 q1;have:=h2.2 q2;omega
  ·intro q;exact .inr ⟨h1.1 (by omega),h2.1 (by omega)⟩
theorem NA{P Q:Pt}(h:P≠Q):0<dd P Q Q:=by
 have:=KJ h;have e:dd P Q Q=dst P Q:=by unfold dd dst;grind
 omega
theorem Aac(u w P Q x:Pt):(Ah u w x-Ah u w P)*dd P Q Q-(Ah u w Q-Ah u w P)*dd P Q x=Ah P Q x*(-((w.1-u.1)*(P.1-Q.1)+(w.2-u.2)*(P.2-Q.2))):=by unfold Ah dd;grind
theorem S8{u w P Q x:Pt}(hx:Ah P Q x=0):Ah u w x*dd P Q Q=Ah u w P*(dd P Q Q-dd P Q x)+Ah u w Q*dd P Q x:=by have:=Aac u w P Q x;rw[hx,Int.zero_mul]at this;grind
theorem Ku(P Q u w x:Pt)(hu:Ah P Q u=0)(hw:Ah P Q w=0):Ah u w x*dd P Q Q=Ah P Q x*(dd P Q w-dd P Q u):=by
 have:Ah u w x*dd P Q Q-Ah P Q x*(dd P Q w-dd P Q u)=Ah P Q w*(dd P Q u-dd P Q x)+Ah P Q u*(dd P Q x-dd P Q w):=by unfold Ah dd;grind
 rw[hu,hw]at this;simp only[Int.zero_mul,Int.add_zero]at this;omega
theorem Aad{P Q u w:Pt}(hne:P≠Q)(hu:Ah P Q u=0)(hw:Ah P Q w=0)(h:dd P Q u=dd P Q w):u=w:=by
 rcases Ik P Q with q|q
 ·exact BS ((IF hne q hu hw).1 (by omega)) ((IF hne q hw hu).1 (by omega))
 ·have s1:Ah Q P u=0:=by rw[HT];omega
  have s2:Ah Q P w=0:=by rw[HT];omega
  have e1:dd Q P u=dd P Q Q-dd P Q u:=by unfold dd;grind
  have e2:dd Q P w=dd P Q Q-dd P Q w:=by unfold dd;grind
  exact BS ((IF (Ss hne) q s1 s2).1 (by omega)) ((IF (Ss hne) q s2 s1).1 (by omega))
theorem GZ{P Q u w x:Pt}(hne:P≠Q)(huw:u≠w)(hu:Ah P Q u=0)(hw:Ah P Q w=0):Ah u w x=0↔Ah P Q x=0:=by
 have e:=Ku P Q u w x hu hw;have p:=NA hne;have n:dd P Q w-dd P Q u≠0:=λq=>huw (Aad hne hu hw (by omega))
 constructor
 ·intro h;rw[h,Int.zero_mul]at e;rcases Nw.1 e.symm with c|c
  ·exact c
  ·exact absurd c n
 ·intro h;rw[h,Int.zero_mul]at e;rcases Nw.1 e with c|c
  ·exact c
  ·omega
theorem VU{l:List Pt}(h:VP l){j x:Nat}(hj:j<l.length)(hx:x<l.length)(hz:α l j (pa l x)=0):x=j\/x=(j+1)%l.length:=by
 by_cases h1:x=j
 ·exact .inl h1
 by_cases h2:x=(j+1)%l.length
 ·exact .inr h2
 have:=h.cv j x hj hx h1 h2;unfold α at hz;omega
theorem Nj{l:List Pt}(h:VP l){j:Nat}(hj:j<l.length){x:Pt}(hx:x∈l):0<=α l j x:=by
 have l3:=h.l3;obtain⟨t,ht,rfl⟩:=H0 hx;have:=lQ h j t
 rwa [Jr ht,S5 (by omega),tT hj]at this
theorem KM{l:List Pt}(h:VP l){j:Nat}(hj:j<l.length):∃x∈l,0<α l j x:=by
 have l3:=h.l3;obtain⟨k,hk,n1,n2⟩:∃k,k<l.length/\k≠j/\k≠(j+1)%l.length:=by
  by_cases h0:0≠j/\0≠(j+1)%l.length
  ·exact⟨0,by omega,h0.1,h0.2⟩
  by_cases h1:1≠j/\1≠(j+1)%l.length
  ·exact⟨1,by omega,h1.1,h1.2⟩
  exact⟨2,by omega,by omega,by omega⟩
 exact⟨_,AN hk,h.cv j k hj hk n1 n2⟩
theorem Q2{l:List Pt}(h:VP l){p g:Pt}(hc:clo l p)(hh:∀q∈l,0<D0 g p q):False:=by
 have l3:=h.l3;have hn:0<l.length:=by omega
 have e:∀t,0<=Ah p (qa l t) (qa l (t+1)):=λt=>by rw[<-G4,S5 hn];exact hc _ (uM _ hn)
 obtain⟨m,hm⟩:∃m,0<Ah p (qa l m) (qa l (m+1)):=by
  by_cases h0:0<Ah p (qa l 0) (qa l 1)
  ·exact⟨0,h0⟩
  by_cases h1:0<Ah p (qa l 1) (qa l 2)
  ·exact⟨1,h1⟩
  refine⟨2,?_⟩;have z0:Ah p (qa l 0) (qa l 1)=0:=by have:0<=Ah p (qa l 0) (qa l 1):=e 0;omega
  have z1:Ah p (qa l 1) (qa l 2)=0:=by have:0<=Ah p (qa l 1) (qa l 2):=e 1;omega
  have c:=Ib h.cv (s:=0) (a:=2) (by omega) (by omega);simp only[s6]at c;have ep:p=qa l 1:=AbW (w:=qa l 0) (x:=qa l 2) (by
   have:Ah (qa l 1) (qa l 0) p= -Ah p (qa l 0) (qa l 1):=by unfold Ah;grind
   omega) (by
   have:Ah (qa l 1) (qa l 2) p=Ah p (qa l 1) (qa l 2):=by unfold Ah;grind
   omega) (by
   have:Ah (qa l 1) (qa l 0) (qa l 2)= -Ah (qa l 0) (qa l 1) (qa l 2):=by unfold Ah;grind
   omega)
  have c2:=Ib h.cv (s:=2) (a:=l.length-1) (by omega) (by omega);rw[show 2+(l.length-1)=1+l.length by omega,ID,<-ep,G4]at c2;exact c2
 have key:∀t,0<Ah p (qa l m) (qa l (m+(t+1))):=by
  intro t;induction t with
  |zero=>exact hm
  |succ t ih=>have pl:=ZD g p (qa l m) (qa l (m+(t+1))) (qa l (m+(t+1+1)));have ha:=hh _ (IE hn m);have hb:=hh _ (IE hn (m+(t+1)));have hc:=hh _ (IE hn (m+(t+1+1)));have hbc:=e (m+(t+1));rw[show m+(t+1)+1=m+(t+1+1) by omega]at hbc;have k1:=mM (zX ha) hbc;have k2:=CX hc ih;exact Jn hb (by omega)
 have:=key (l.length-1);rw[show m+(l.length-1+1)=m+l.length by omega,ID,D1]at this;omega
theorem NB{l:List Pt}(h:VP l){p u w:Pt}(hc:clo l p)(hh:∀q∈l,Ah u w q<=0):Ah u w p<=0:=by
 rcases Nz 0 (Ah u w p)with q|q
 ·exact absurd (Q2 h hc (g:=(w.2-u.2,u.1-w.1)) λx hx=>by rw[Ny];have:=hh x hx;omega) id
 ·exact q
theorem Hr{l:List Pt}(h:VP l){j:Nat}(hj:j<l.length){p:Pt}(hz:α l j p=0):clo l p↔Lq (pa l j) (pa l ((j+1)%l.length)) p:=by
 have l3:=h.l3;have hn:0<l.length:=by omega
 have hne:=h.ne hj;have q0:pa l j=qa l j:=(Jr hj).symm;have q1:pa l ((j+1)%l.length)=qa l (j+1):=rfl;rw[q0,q1]at hne⊢;have hz':Ah (qa l j) (qa l (j+1)) p=0:=by rw[<-zZ hn hj];exact hz
 rw[Aab hne hz'];have D:=NA hne;constructor
 ·intro hc;have f1:0<=Ah (qa l (j+1)) (qa l (j+2)) p:=by
   have:0<=Ah (qa l (j+1)) (qa l (j+1+1)) p:=by rw[S5 hn];exact hc _ (uM _ hn)
   exact this
  have f2:0<=Ah (qa l (j+(l.length-1))) (qa l (j+(l.length-1)+1)) p:=by rw[S5 hn];exact hc _ (uM _ hn)
  have e2:qa l (j+(l.length-1)+1)=qa l j:=by rw[show j+(l.length-1)+1=j+l.length by omega,ID]
  rw[e2]at f2;have i1:=S8 (u:=qa l (j+1)) (w:=qa l (j+2)) hz';have i2:=S8 (u:=qa l (j+(l.length-1))) (w:=qa l j) hz';rw[E7,Int.zero_mul,Int.add_zero]at i1;rw[D1,Int.zero_mul,X3]at i2;have c1:0<Ah (qa l (j+1)) (qa l (j+2)) (qa l j):=by
   have:=Ib h.cv (s:=j+1) (a:=l.length-1) (by omega) (by omega)
   rwa [show j+1+(l.length-1)=j+l.length by omega,ID]at this
  have c2:0<Ah (qa l (j+(l.length-1))) (qa l j) (qa l (j+1)):=by
   have:=Ib h.cv (s:=j+(l.length-1)) (a:=2) (by omega) (by omega)
   rwa [e2,show j+(l.length-1)+2=j+1+l.length by omega,ID]at this
  have k1:=mM f1 (zX D);have k2:=mM f2 (zX D);have m1:=Fr c1 (b:=dd (qa l j) (qa l (j+1)) (qa l (j+1))-dd (qa l j) (qa l (j+1)) p) (by omega);have m2:=Fr c2 (b:=dd (qa l j) (qa l (j+1)) p) (by omega);omega
 ·rintro⟨m1,m2⟩ i hi;have i1:=S8 (u:=qa l i) (w:=qa l (i+1)) hz';have g1:=lQ h i j;have g2:=lQ h i (j+1);have k1:=mM g1 (show 0<=dd (qa l j) (qa l (j+1)) (qa l (j+1))-dd (qa l j) (qa l (j+1)) p by omega);have k2:=mM g2 m1;rw[zZ hn hi];exact Fr D (by rw[X4];omega)
def QD(a b:List Pt)(p:Pt):Prop:=clo a p/\clo b p
theorem tW{b:List Pt}(h:VP b){P Q:Pt}(hne:P≠Q)(hs:∀q∈b,Ah P Q q<=0)(hsm:BH P/\BH Q){p1 p2:Pt}(hp:p1≠p2)(s1:BH p1)(c1:clo b p1)(c2:clo b p2)(z1:Ah P Q p1=0)(z2:Ah P Q p2=0)(s2:BH p2):∃t,t<b.length/\Ah P Q (pa b t)=0/\Ah P Q (pa b ((t+1)%b.length))=0:=by
 have l3:=h.l3;have hn:0<b.length:=by omega
 have one:∀p,clo b p->Ah P Q p=0->∃x,x<b.length/\Ah P Q (pa b x)=0:=λp hc hz=>by
  by_cases hex:∃x,x<b.length/\Ah P Q (pa b x)=0
  ·exact hex
  ·exact absurd (Q2 h hc (g:=(Q.2-P.2,P.1-Q.1)) λq hq=>by
    rw[Ny,hz];obtain⟨x,hx,rfl⟩:=H0 hq;have:=hs _ hq;have:Ah P Q (pa b x)≠0:=λe=>hex ⟨x,hx,e⟩
    omega) id
 have two:∃x y,x<y/\y<b.length/\Ah P Q (pa b x)=0/\Ah P Q (pa b y)=0:=by
  obtain⟨x,hx,ex⟩:=one p1 c1 z1;by_cases hex:∃y,y<b.length/\y≠x/\Ah P Q (pa b y)=0
  ·obtain⟨y,hy,hyx,ey⟩:=hex;rcases Nat.lt_or_gt_of_ne hyx with q|q
   ·exact⟨y,x,q,hx,ey,ex⟩
   ·exact⟨x,y,q,hy,ex,ey⟩
  ·exfalso;have lone:∀p,BH p->clo b p->Ah P Q p=0->p=pa b x:=λp sp hc hz=>by
    by_cases e:p=pa b x
    ·exact e
    exfalso;refine Q2 h hc (g:=(10000000*(Q.2-P.2)+((pa b x).1-p.1),10000000*(P.1-Q.1)+((pa b x).2-p.2))) λq hq=>?_
    have el:D0 (10000000*(Q.2-P.2)+((pa b x).1-p.1),10000000*(P.1-Q.1)+((pa b x).2-p.2)) p q=10000000*(Ah P Q p-Ah P Q q)+(((pa b x).1-p.1)*(q.1-p.1)+((pa b x).2-p.2)*(q.2-p.2)):=by unfold D0 Ah;grind
    rw[el,hz];obtain⟨y,hy,rfl⟩:=H0 hq;by_cases hyx:y=x
    ·subst hyx;rw[ex];have:=KJ e;have e2:((pa b y).1-p.1)*((pa b y).1-p.1)+((pa b y).2-p.2)*((pa b y).2-p.2)=dst p (pa b y):=by unfold dst;grind
     omega
    ·have n0:Ah P Q (pa b y)≠0:=λe=>hex ⟨y,hy,hyx,e⟩
     have n1:=hs _ hq;have sx:=h.sml _ (AN hx);have sy:=h.sml _ (AN hy);unfold BH at sx sy sp;have b1:=Ng (x:=(pa b x).1-p.1) (y:=(pa b y).1-p.1) (by omega) (by omega);have b2:=Ng (x:=(pa b x).2-p.2) (y:=(pa b y).2-p.2) (by omega) (by omega);omega
   exact hp ((lone p1 s1 c1 z1).trans (lone p2 s2 c2 z2).symm)
 obtain⟨x,y,hxy,hy,ex,ey⟩:=two;by_cases adj:y=x+1
 ·exact⟨x,by omega,ex,by rw[tT (by omega),<-adj];exact ey⟩
 by_cases adj2:x=0/\y+1=b.length
 ·exact⟨y,hy,ey,by rw[adj2.2,Nat.mod_self,<-adj2.1];exact ex⟩
 exfalso;have hxne:pa b x≠pa b y:=λe=>by have:=Ll h.cv x 1 (by omega) (y-x-2) (by omega);rw[show x+(1+(y-x-2)+1)=y by omega,Jr hy,Jr (by omega:x<b.length),e,E7]at this;omega
 have t1:=Ll h.cv x 1 (by omega) (y-x-2) (by omega);rw[show x+(1+(y-x-2)+1)=y by omega,Jr hy,Jr (by omega:x<b.length)]at t1;obtain⟨w,hw1,hw2⟩:∃w,y-x<w/\w<b.length:=⟨y-x+1,by omega,by omega⟩
 have t2:=Ll h.cv x (y-x) (by omega) (w-(y-x)-1) (by omega);rw[show x+(y-x+(w-(y-x)-1)+1)=x+w by omega,show x+(y-x)=y by omega,Jr hy,Jr (by omega:x<b.length)]at t2;have r1:=Ku P Q (pa b x) (pa b y) (qa b (x+1)) ex ey;have r2:=Ku P Q (pa b x) (pa b y) (qa b (x+w)) ex ey;have D:=NA hne;have k1:=hs _ (IE hn (x+1));have k2:=hs _ (IE hn (x+w));have e1:Ah (pa b x) (pa b y) (qa b (x+1))= -Ah (pa b x) (qa b (x+1)) (pa b y):=by unfold Ah;grind
 rw[e1]at r1;generalize dd P Q (pa b y)-dd P Q (pa b x)=s at*;generalize dd P Q Q=D' at*;generalize Ah (pa b x) (qa b (x+1)) (pa b y)=A at*;generalize Ah (pa b x) (pa b y) (qa b (x+w))=B at*;generalize Ah P Q (qa b (x+1))=f1 at*;generalize Ah P Q (qa b (x+w))=f2 at*;have m1:=CX t1 D;have m2:=CX t2 D;have m3:f1*s<0:=by rw[<-r1,Int.neg_mul];omega
 have m4:0<f2*s:=by omega
 rcases Nz 0 s with q|q
 ·have:=mM (show 0<=-f2 by omega) (zX q);rw[Int.neg_mul]at this;omega
 ·have:=mM (show 0<=-f1 by omega) (show 0<=-s by omega);rw[Int.neg_mul_neg]at this;omega
theorem Ps{e f:Pt×Pt}{s:Pt×Pt}(h:F6 e f=some s):Ah e.1 e.2 f.1=0/\Ah e.1 e.2 f.2=0/\(CB e.1 e.2 f.1 f.2).1≠(CB e.1 e.2 f.1 f.2).2/\BL (CB e.1 e.2 f.1 f.2).1 (CB e.1 e.2 f.1 f.2).2/\s=(if 0<EN e.1 e.2 then((CB e.1 e.2 f.1 f.2).2,(CB e.1 e.2 f.1 f.2).1)else CB e.1 e.2 f.1 f.2):=by
 unfold F6 at h;split at h
 ·cases h
 ·rename_i h1;split at h
  ·cases h
  ·rename_i h2;refine⟨?_,?_,λq=>h2 (.inl q),Lp.2 λq=>h2 (.inr q),?_⟩
   ·by_cases z:Ah e.1 e.2 f.1=0
    ·exact z
    ·exact absurd (.inl z) h1
   ·by_cases z:Ah e.1 e.2 f.2=0
    ·exact z
    ·exact absurd (.inr z) h1
   ·split at h
    ·rename_i h3;rw[eX h3];exact(yJ h).symm
    ·rename_i h3;rw[eW h3];exact(yJ h).symm
theorem Ya{e f:Pt×Pt}(h1:Ah e.1 e.2 f.1=0)(h2:Ah e.1 e.2 f.2=0)(h3:(CB e.1 e.2 f.1 f.2).1≠(CB e.1 e.2 f.1 f.2).2)(h4:BL (CB e.1 e.2 f.1 f.2).1 (CB e.1 e.2 f.1 f.2).2):F6 e f=some (if 0<EN e.1 e.2 then((CB e.1 e.2 f.1 f.2).2,(CB e.1 e.2 f.1 f.2).1)else CB e.1 e.2 f.1 f.2):=by
 unfold F6;rw[eW (by omega),eW (by
  rintro(q|q)
  ·exact h3 q
  ·exact Lp.1 h4 q)]
 split<;>rfl
theorem NC{P Q R S p:Pt}:(BL (CB P Q R S).1 p/\BL p (CB P Q R S).2)↔Lq P Q p/\Lq R S p:=by
 unfold CB;rw[VT,VT,Mr,Mt];constructor
 ·rintro⟨⟨a,b⟩,c,d⟩;exact⟨⟨a,c⟩,b,d⟩
 ·rintro⟨⟨a,c⟩,b,d⟩;exact⟨⟨a,b⟩,c,d⟩
theorem Aae{P Q R S:Pt}(hR:Ah P Q R=0)(hS:Ah P Q S=0):Ah P Q (CB P Q R S).1=0/\Ah P Q (CB P Q R S).2=0:=by
 have h1:∀u v:Pt,Ah P Q u=0->Ah P Q v=0->Ah P Q (lo u v)=0/\Ah P Q (Am.hi u v)=0/\Ah P Q (HU u v)=0/\Ah P Q (HV u v)=0:=λu v a b=>by unfold lo Am.hi HU HV;refine⟨?_,?_,?_,?_⟩<;>split<;>assumption
 have a:=h1 P Q (E7 P Q) (D1 P Q);have b:=h1 R S hR hS;exact⟨(h1 _ _ a.1 b.1).2.2.1,(h1 _ _ a.2.1 b.2.1).2.2.2⟩
section
variable{a b:List Pt}
theorem VV(ha:VP a)(hb:VP b){j:Nat}(hj:j<a.length)(hs:IT a j b){p1 p2:Pt}(hne:p1≠p2)(b1:QD a b p1)(b2:QD a b p2)(s1:BH p1)(s2:BH p2):∃t,t<b.length/\Ah (pa a j) (pa a ((j+1)%a.length)) (pa b t)=0/\Ah (pa a j) (pa a ((j+1)%a.length)) (pa b ((t+1)%b.length))=0/\α a j p1=0/\α a j p2=0:=by
 have hm:(j+1)%a.length<a.length:=uM _ (by omega);have z1:α a j p1=0:=by have:=b1.1 j hj;have:=NB hb b1.2 hs;unfold α at*;omega
 have z2:α a j p2=0:=by have:=b2.1 j hj;have:=NB hb b2.2 hs;unfold α at*;omega
 obtain⟨t,ht,e1,e2⟩:=tW hb (ha.ne hj) hs ⟨ha.sml _ (AN hj),ha.sml _ (AN hm)⟩ hne s1 b1.2 b2.2 z1 z2 s2;exact⟨t,ht,e1,e2,z1,z2⟩
theorem lR(ha:VP a)(hb:VP b)(hap:apart a b){p1 p2:Pt}(hne:p1≠p2)(b1:QD a b p1)(b2:QD a b p2)(s1:BH p1)(s2:BH p2):∃e∈Bu a,∃f∈Bu b,∃s,F6 e f=some s:=by
 have key:∃j t,j<a.length/\t<b.length/\Ah (pa a j) (pa a ((j+1)%a.length)) (pa b t)=0/\Ah (pa a j) (pa a ((j+1)%a.length)) (pa b ((t+1)%b.length))=0/\(α a j p1=0/\α a j p2=0)/\α b t p1=0/\α b t p2=0:=by
  rcases hap with⟨j,hj,hs⟩|⟨t,ht,hs⟩
  ·obtain⟨t,ht,e1,e2,z1,z2⟩:=VV ha hb hj hs hne b1 b2 s1 s2;refine⟨j,t,hj,ht,e1,e2,⟨z1,z2⟩,?_,?_⟩
   ·exact(GZ (ha.ne hj) (hb.ne ht) e1 e2).2 z1
   ·exact(GZ (ha.ne hj) (hb.ne ht) e1 e2).2 z2
  ·obtain⟨j,hj,e1,e2,z1,z2⟩:=VV hb ha ht hs hne ⟨b1.2,b1.1⟩ ⟨b2.2,b2.1⟩ s1 s2;have L:=λx=>GZ (x:=x) (hb.ne ht) (ha.ne hj) e1 e2
   exact⟨j,t,hj,ht,(L _).2 (E7 _ _),(L _).2 (D1 _ _),⟨(L _).2 z1,(L _).2 z2⟩,z1,z2⟩
 obtain⟨j,t,hj,ht,e1,e2,⟨z1,z2⟩,w1,w2⟩:=key;have m1:=NC.2 ⟨(Hr ha hj z1).1 b1.1,(Hr hb ht w1).1 b1.2⟩;have m2:=NC.2 ⟨(Hr ha hj z2).1 b2.1,(Hr hb ht w2).1 b2.2⟩;refine⟨_,HF.2 ⟨j,hj,rfl⟩,_,HF.2 ⟨t,ht,rfl⟩,_,Ya e1 e2 (λq=>?_) (BF m1.1 m1.2)⟩;simp only at q m1 m2;rw[<-q]at m1 m2;exact hne ((BS m1.2 m1.1).trans (BS m2.2 m2.1).symm)
structure SeamOK(a b:List Pt)(s:Pt×Pt):Prop where
 ne:s.1≠s.2
 on:∀p,(clo a p/\¬inn a p)/\(clo b p/\¬inn b p)↔Ah s.1 s.2 p=0/\Lq s.1 s.2 p
 left:∀x∈a,0<=Ah s.1 s.2 x
theorem ND(ha:VP a)(hb:VP b)(hap:apart a b){j t:Nat}(hj:j<a.length)(ht:t<b.length){s:Pt×Pt}(hc:F6 (pa a j,pa a ((j+1)%a.length)) (pa b t,pa b ((t+1)%b.length))=some s):SeamOK a b s/\(dd (pa a j) (pa a ((j+1)%a.length)) (pa b ((t+1)%b.length))<dd (pa a j) (pa a ((j+1)%a.length)) (pa b t))/\(Ah (pa a j) (pa a ((j+1)%a.length)) s.1=0/\Ah (pa a j) (pa a ((j+1)%a.length)) s.2=0)/\QD a b s.1/\QD a b s.2:=by
 obtain⟨zR,zS,ne,le,hs⟩:=Ps hc;simp only at zR zS ne le hs;have hmj:(j+1)%a.length<a.length:=uM _ (by omega);have hmt:(t+1)%b.length<b.length:=uM _ (by omega);have nPQ:=ha.ne hj;have nRS:=hb.ne ht;have L:=λx=>GZ (x:=x) nPQ nRS zR zS
 have D:=NA nPQ;obtain⟨zf,zt⟩:=Aae zR zS;have mf:=NC.1 ⟨B4 _,le⟩;have mt:=NC.1 ⟨le,B4 _⟩;have cf:QD a b (CB (pa a j) (pa a ((j+1)%a.length)) (pa b t) (pa b ((t+1)%b.length))).1:=⟨(Hr ha hj zf).2 mf.1,(Hr hb ht ((L _).2 zf)).2 mf.2⟩
 have ct:QD a b (CB (pa a j) (pa a ((j+1)%a.length)) (pa b t) (pa b ((t+1)%b.length))).2:=⟨(Hr ha hj zt).2 mt.1,(Hr hb ht ((L _).2 zt)).2 mt.2⟩
 have cm:∀p,(BL (CB (pa a j) (pa a ((j+1)%a.length)) (pa b t) (pa b ((t+1)%b.length))).1 p/\BL p (CB (pa a j) (pa a ((j+1)%a.length)) (pa b t) (pa b ((t+1)%b.length))).2)↔Lq (pa a j) (pa a ((j+1)%a.length)) p/\Lq (pa b t) (pa b ((t+1)%b.length)) p:=λp=>NC
 generalize CB (pa a j) (pa a ((j+1)%a.length)) (pa b t) (pa b ((t+1)%b.length))=c at*;have uniq:∀{l:List Pt}(h:VP l){g i:Nat}(hg:g<l.length)(hi:i<l.length),α l g c.1=0->α l g c.2=0->α l i c.1=0->α l i c.2=0->g=i:=by
  intro l h g i hg hi g1 g2 i1 i2;have l3:=h.l3;have A:=λx=>GZ (x:=x) (h.ne hi) ne i1 i2
  have B:=λx=>GZ (x:=x) (h.ne hg) ne g1 g2
  have hmi:(i+1)%l.length<l.length:=uM _ (by omega);have p1:=VU h hg hi ((B _).1 ((A _).2 (E7 _ _)));have p2:=VU h hg hmi ((B _).1 ((A _).2 (D1 _ _)));rcases p1 with p1|p1
  ·exact p1.symm
  ·rcases p2 with p2|p2
   ·exfalso;rw[p1,Tn]at p2;have:=Sf (s:=g) (n:=l.length) (a:=2) (b:=0) (by omega) (by omega) (by omega);rw[OQ g,tT hg]at this;exact this p2
   ·exfalso;rw[p1,Tn]at p2;have:=Sf (s:=g) (n:=l.length) (a:=2) (b:=1) (by omega) (by omega) (by omega);exact this p2
 have rel:∀x,α b t x*dd (pa a j) (pa a ((j+1)%a.length)) (pa a ((j+1)%a.length))=α a j x*(dd (pa a j) (pa a ((j+1)%a.length)) (pa b ((t+1)%b.length))-dd (pa a j) (pa a ((j+1)%a.length)) (pa b t)):=λx=>Ku _ _ _ _ x zR zS
 have zero0:∀p,clo a p->clo b p->IT a j b->α a j p=0:=λp h1 h2 h3=>by have:=h1 j hj;have:=NB hb h2 h3;unfold α at*;omega
 have opp:IT a j b:=by
  rcases hap with⟨g,hg,hsg⟩|⟨g,hg,hsg⟩
  ·have v:∀p,QD a b p->α a g p=0:=λp hp=>by have:=hp.1 g hg;have:=NB hb hp.2 hsg;unfold α at*;omega
   rw[<-uniq ha hg hj (v _ cf) (v _ ct) zf zt];exact hsg
  ·have v:∀p,QD a b p->α b g p=0:=λp hp=>by have:=hp.2 g hg;have:=NB ha hp.1 hsg;unfold α at*;omega
   have e:=uniq hb hg ht (v _ cf) (v _ ct) ((L _).2 zf) ((L _).2 zt);rw[e]at hsg;obtain⟨x,hx,px⟩:=KM ha hj;have r:=rel x;have:=hsg x hx;generalize dd (pa a j) (pa a ((j+1)%a.length)) (pa b ((t+1)%b.length))-dd (pa a j) (pa a ((j+1)%a.length)) (pa b t)=k at*;have k1:=mM (show 0<=-α b t x by omega) (zX D);rw[Int.neg_mul]at k1;have k0:k<=0:=by
    rcases Nz 0 k with q|q
    ·have:=CX px q;omega
    ·exact q
   intro q hq;have r2:=rel q;have nn:=Nj hb ht hq;rcases Nz 0 (α a j q)with z|z
   ·exfalso;by_cases kz:k=0
    ·obtain⟨y,hy,py⟩:=KM hb ht;have r3:=rel y;rw[kz,Int.mul_zero]at r3;have:=CX py D;omega
    ·have m1:=CX z (show 0< -k by omega);rw[Int.mul_neg]at m1;have m2:=mM nn (zX D);omega
   ·exact z
 have kneg:dd (pa a j) (pa a ((j+1)%a.length)) (pa b ((t+1)%b.length))-dd (pa a j) (pa a ((j+1)%a.length)) (pa b t)<0:=by
  obtain⟨y,hy,py⟩:=KM hb ht;have r:=rel y;have o:=opp y hy;have m1:=CX py D;generalize dd (pa a j) (pa a ((j+1)%a.length)) (pa b ((t+1)%b.length))-dd (pa a j) (pa a ((j+1)%a.length)) (pa b t)=k at*;rcases Nz k 0 with q|q
  ·exact q
  ·have:=mM (show 0<=-α a j y by omega) q;rw[Int.neg_mul]at this;omega
 have X:∀p,(clo a p/\¬inn a p)/\(clo b p/\¬inn b p)↔α a j p=0/\BL c.1 p/\BL p c.2:=λp=>by
  constructor
  ·rintro⟨⟨h1,_⟩,h2,_⟩;have z:=zero0 p h1 h2 opp;exact⟨z,(cm p).2 ⟨(Hr ha hj z).1 h1,(Hr hb ht ((L p).2 z)).1 h2⟩⟩
  ·rintro⟨z,hm⟩;have:=(cm p).1 hm;have z2:α b t p=0:=(L p).2 z;refine⟨⟨(Hr ha hj z).2 this.1,λhi=>?_⟩,(Hr hb ht z2).2 this.2,λhi=>?_⟩
   ·have:=hi j hj;omega
   ·have:=hi t ht;omega
 have key:∀u w:Pt,u≠w->Ah (pa a j) (pa a ((j+1)%a.length)) u=0->Ah (pa a j) (pa a ((j+1)%a.length)) w=0->dd (pa a j) (pa a ((j+1)%a.length)) u<=dd (pa a j) (pa a ((j+1)%a.length)) w->∀x∈a,0<=Ah u w x:=λu w huw zu zw hle x hx=>by have r:=Ku _ _ u w x zu zw;have n:=Nj ha hj hx;have:=mM n (show 0<=dd (pa a j) (pa a ((j+1)%a.length)) w-dd (pa a j) (pa a ((j+1)%a.length)) u by omega);unfold α at this;exact Fr D (by rw[X4];omega)
 by_cases hg:0<EN (pa a j) (pa a ((j+1)%a.length))
 ·rw[eX hg]at hs;subst hs;have hQP:BL (pa a ((j+1)%a.length)) (pa a j):=by rw[Lo]at hg;unfold BL;omega
  have s1:Ah (pa a ((j+1)%a.length)) (pa a j) c.1=0:=by rw[HT];omega
  have s2:Ah (pa a ((j+1)%a.length)) (pa a j) c.2=0:=by rw[HT];omega
  have o:=(IF (Ss nPQ) hQP s1 s2).2 le;have ee:∀x,dd (pa a ((j+1)%a.length)) (pa a j) x=dd (pa a j) (pa a ((j+1)%a.length)) (pa a ((j+1)%a.length))-dd (pa a j) (pa a ((j+1)%a.length)) x:=λx=>by unfold dd;grind
  rw[ee,ee]at o;refine⟨⟨Ss ne,λp=>?_,key c.2 c.1 (Ss ne) zt zf (by omega)⟩,by omega,⟨zt,zf⟩,ct,cf⟩;rw[X p];have sl:=GZ (x:=p) nPQ (Ss ne) zt zf;constructor
  ·rintro⟨q1,q2,q3⟩;exact⟨sl.2 q1,.inr ⟨q2,q3⟩⟩
  ·rintro⟨q1,q2|q2⟩
   ·exact absurd (BS le (BF q2.1 q2.2)) ne
   ·exact⟨sl.1 q1,q2⟩
 ·rw[eW hg]at hs;subst hs;have hPQ:BL (pa a j) (pa a ((j+1)%a.length)):=Lp.2 hg;have o:=(IF nPQ hPQ zf zt).2 le;refine⟨⟨ne,λp=>?_,key _ _ ne zf zt o⟩,by omega,⟨zf,zt⟩,cf,ct⟩;rw[X p];have sl:=GZ (x:=p) nPQ ne zf zt;constructor
  ·rintro⟨q1,q2,q3⟩;exact⟨sl.2 q1,.inl ⟨q2,q3⟩⟩
  ·rintro⟨q1,q2|q2⟩
   ·exact⟨sl.1 q1,q2⟩
   ·exact absurd (BS le (BF q2.1 q2.2)) ne
end
theorem Kv{a b:List Pt}{s:Pt×Pt}(h:Gv a b=some s):∃j t,j<a.length/\t<b.length/\F6 (pa a j,pa a ((j+1)%a.length)) (pa b t,pa b ((t+1)%b.length))=some s:=by unfold Gv at h;obtain⟨e,he,h⟩:=List.exists_of_findSome?_eq_some h;obtain⟨f,hf,h⟩:=List.exists_of_findSome?_eq_some h;obtain⟨j,hj,rfl⟩:=HF.1 he;obtain⟨t,ht,rfl⟩:=HF.1 hf;exact⟨j,t,hj,ht,h⟩
theorem Om{a b:List Pt}(h:Gv a b=none){e f:Pt×Pt}(he:e∈Bu a)(hf:f∈Bu b):F6 e f=none:=by unfold Gv at h;rw[List.findSome?_eq_none_iff]at h;have:=h e he;rw[List.findSome?_eq_none_iff]at this;exact this f hf
theorem onN{x y:Nat}(hx:x<=40)(hy:y<=40):On ((x:Int),(y:Int)):=by unfold On;simp only;omega
theorem Sj{P:List Pt}(hb:∀p∈P,BH p)(f:Pt):∀(n:Nat)(o:Pt)(out:List Pt),HGood P f o out->P.length<n+out.length->∃r:List Pt,0<r.length/\(∀p∈r,p∈P)/\((∃o,∀p∈P,p=o)\/∀i,i<r.length->Edge P (pa r i) (pa r ((i+1)%r.length)))
 |0,o,out,h,hn=>by have:=Lj out P h.nd h.sub;omega
 |n+1,o,out,h,hn=>by
  have hl:=h.len;have ho:o∈out:=by rw[<-h.lst];exact AN (by omega)
  rcases VJ (h.sub o ho) (h.ext o ho)with⟨h1,h2⟩|hE
  ·exact⟨out,hl,h.sub,.inl ⟨o,h2⟩⟩
  ·by_cases hf:HE o P=f
   ·refine⟨out,hl,h.sub,.inr λi hi=>?_⟩;by_cases hc:i+1<out.length
    ·rw[tT hc];exact h.edge i hc
    ·have e:i+1=out.length:=by omega
     have e2:i=out.length-1:=by omega
     rw[e,Nat.mod_self,h.hd,e2,h.lst,<-hf];exact hE
   ·have hno:HE o P∉out:=λhm=>by
     obtain⟨j,hj,e⟩:=H0 hm;have j0:j≠0:=by rintro rfl;exact hf (by rw[<-e,h.hd])
     have hEj:=h.edge (j-1) (by omega);rw[show j-1+1=j by omega,e]at hEj;have:=Edge.pred hE hEj;rw[<-h.lst]at this;have:=Po h.nd (by omega) (by omega) this;omega
    refine Sj hb f n (HE o P) (out++[HE o P]) ⟨by simp,by rw[Jo hl,h.hd],?_,?_,?_,?_,?_⟩ (by simp;omega)
    ·rw[fF,Nu (by simp) (by simp)];simp[pa]
    ·rw[List.nodup_append];exact⟨h.nd,by simp,λa ha b hb'=>by simp at hb';rintro rfl;exact hno (hb'▸ha)⟩
    ·intro p hp;rcases lO.1 hp with hp|hp
     ·exact h.sub p hp
     ·simp at hp;rw[hp];exact hE.mw
    ·intro p hp;rcases lO.1 hp with hp|hp
     ·exact h.ext p hp
     ·simp at hp;rw[hp];exact hE.ext hb
    ·intro i hi;rw[fF,KU]at hi;by_cases hc:i+1<out.length
     ·rw[Jo (by omega),Jo hc];exact h.edge i hc
     ·have e2:i=out.length-1:=by omega
      rw[Jo (by omega),Nu (by omega) (by simp;omega),e2,h.lst];rw[show out.length-1+1-out.length=0 by omega];exact hE
theorem lS{P:List Pt}(hb:∀p∈P,BH p)(h0:P≠[]):∃r:List Pt,0<r.length/\(∀p∈r,p∈P)/\((∃o,∀p∈P,p=o)\/∀i,i<r.length->Edge P (pa r i) (pa r ((i+1)%r.length))):=by
 obtain⟨p0,P',rfl⟩:∃p0 P',P=p0::P':=by
  cases P with
  |nil=>exact absurd rfl h0
  |cons a b=>exact⟨a,b,rfl⟩
 obtain⟨h1,h2⟩:=VK (p0::P') p0;have hm:MX p0 (p0::P')∈p0::P':=by
  rcases lJ.1 h1 with h|h
  ·rw[h];simp
  ·exact h
 have hx:=tJ hb hm (λp hp=>h2 p (by simp[hp]));exact Sj hb _ ((p0::P').length) _ [MX p0 (p0::P')] (lD hm hx) (by simp)
theorem VW{b:List Pt}(h:VP b){P Q:Pt}(hne:P≠Q)(hs:∀q∈b,Ah P Q q<=0){x y:Nat}(hxy:x<y)(hy:y<b.length)(ex:Ah P Q (pa b x)=0)(ey:Ah P Q (pa b y)=0):∃t,t<b.length/\Ah P Q (pa b t)=0/\Ah P Q (pa b ((t+1)%b.length))=0:=by
 have l3:=h.l3;have hn:0<b.length:=by omega
 by_cases adj:y=x+1
 ·exact⟨x,by omega,ex,by rw[tT (by omega),<-adj];exact ey⟩
 by_cases adj2:x=0/\y+1=b.length
 ·exact⟨y,hy,ey,by rw[adj2.2,Nat.mod_self,<-adj2.1];exact ex⟩
 exfalso;have t1:=Ll h.cv x 1 (by omega) (y-x-2) (by omega);rw[show x+(1+(y-x-2)+1)=y by omega,Jr hy,Jr (by omega:x<b.length)]at t1;obtain⟨w,hw1,hw2⟩:∃w,y-x<w/\w<b.length:=⟨y-x+1,by omega,by omega⟩
 have t2:=Ll h.cv x (y-x) (by omega) (w-(y-x)-1) (by omega);rw[show x+(y-x+(w-(y-x)-1)+1)=x+w by omega,show x+(y-x)=y by omega,Jr hy,Jr (by omega:x<b.length)]at t2;have r1:=Ku P Q (pa b x) (pa b y) (qa b (x+1)) ex ey;have r2:=Ku P Q (pa b x) (pa b y) (qa b (x+w)) ex ey;have D:=NA hne;have k1:=hs _ (IE hn (x+1));have k2:=hs _ (IE hn (x+w));have e1:Ah (pa b x) (pa b y) (qa b (x+1))= -Ah (pa b x) (qa b (x+1)) (pa b y):=by unfold Ah;grind
 rw[e1]at r1;generalize dd P Q (pa b y)-dd P Q (pa b x)=s at*;generalize dd P Q Q=D' at*;generalize Ah (pa b x) (qa b (x+1)) (pa b y)=A at*;generalize Ah (pa b x) (pa b y) (qa b (x+w))=B at*;generalize Ah P Q (qa b (x+1))=f1 at*;generalize Ah P Q (qa b (x+w))=f2 at*;have m1:=CX t1 D;have m2:=CX t2 D;have m3:f1*s<0:=by rw[<-r1,Int.neg_mul];omega
 have m4:0<f2*s:=by omega
 rcases Nz 0 s with q|q
 ·have:=mM (show 0<=-f2 by omega) (zX q);rw[Int.neg_mul]at this;omega
 ·have:=mM (show 0<=-f1 by omega) (show 0<=-s by omega);rw[Int.neg_mul_neg]at this;omega
theorem VX{a b:List Pt}(hb:VP b){P Q:Pt}(hne:P≠Q)(hs:∀q∈b,Ah P Q q<=0)(ha:∀q∈a,0<=Ah P Q q){u v:Pt}(hu:u∈b)(hv:v∈b)(huv:u≠v)(zu:Ah P Q u=0)(zv:Ah P Q v=0):∃t,t<b.length/\IT b t a:=by
 obtain⟨x,hx,rfl⟩:=H0 hu;obtain⟨y,hy,rfl⟩:=H0 hv;have hxy:x≠y:=λe=>huv (by rw[e])
 obtain⟨t,ht,e1,e2⟩:∃t,t<b.length/\Ah P Q (pa b t)=0/\Ah P Q (pa b ((t+1)%b.length))=0:=by
  rcases Nat.lt_or_gt_of_ne hxy with q|q
  ·exact VW hb hne hs q hy zu zv
  ·exact VW hb hne hs q hx zv zu
 refine⟨t,ht,λq hq=>?_⟩;have D:=NA hne;obtain⟨y',hy',py⟩:=KM hb ht;have r1:=Ku P Q _ _ y' e1 e2;have r2:=Ku P Q _ _ q e1 e2;have k1:=hs y' hy';have k2:=ha q hq;unfold α at py⊢;generalize dd P Q (pa b ((t+1)%b.length))-dd P Q (pa b t)=s at*;have m1:=CX py D;have sneg:s<0:=by
  rcases Nz s 0 with c|c
  ·exact c
  ·have:=mM (show 0<=-Ah P Q y' by omega) c;rw[Int.neg_mul]at this;omega
 have m2:=mM k2 (show 0<=-s by omega);rw[Int.mul_neg]at m2;rcases Nz 0 (Ah (pa b t) (pa b ((t+1)%b.length)) q)with c|c
 ·have:=CX c D;omega
 ·exact c
def E2(p q:Pt):Pt:=(p.1-q.1,p.2-q.2)
def Qc(a b:List Pt):List Pt:=b.flatMap λq=>a.map λp=>E2 q p
theorem HH{a b:List Pt}{d:Pt}:d∈Qc a b↔∃q∈b,∃p∈a,d=E2 q p:=by unfold Qc;simp only[List.mem_flatMap,tI];exact⟨λ⟨q,hq,p,hp,e⟩=>⟨q,hq,p,hp,e.symm⟩,λ⟨q,hq,p,hp,e⟩=>⟨q,hq,p,hp,e.symm⟩⟩
def Cm(a b:Pt):Int:=a.1*b.2-a.2*b.1
theorem ZI{a b:List Pt}(ha:VP a)(hb:VP b){v w:Pt}(hE:Edge (Qc a b) v w)(h0:Cm v w<=0):apart a b:=by
 obtain⟨q1,hq1,p1,hp1,rfl⟩:=HH.1 hE.mv;obtain⟨q2,hq2,p2,hp2,rfl⟩:=HH.1 hE.mw;have hl:=λq hq p hp=>hE.left (E2 q p) (HH.2 ⟨q,hq,p,hp,rfl⟩)
 have ne:=hE.ne;obtain⟨Z,hτ⟩:∃Z:Pt,Z=E2 (E2 q2 p2) (E2 q1 p1):=⟨_,rfl⟩
 have lin1:∀q p,Ah (E2 q1 p1) (E2 q2 p2) (E2 q p)=(Cm Z q-Cm Z p)-(Cm Z q1-Cm Z p1):=λq p=>by rw[hτ];unfold Ah E2 Cm;simp only;grind
 have z2:Cm Z q2-Cm Z p2=Cm Z q1-Cm Z p1:=by rw[hτ];unfold E2 Cm;simp only;grind
 have z0:Cm (E2 q1 p1) (E2 q2 p2)= -(Cm Z q1-Cm Z p1):=by rw[hτ];unfold E2 Cm;simp only;grind
 have hv:0<=Cm Z q1-Cm Z p1:=by omega
 have all:∀q∈b,∀p∈a,Cm Z q1-Cm Z p1<=Cm Z q-Cm Z p:=λq hq p hp=>by have:=hl q hq p hp;rw[lin1]at this;omega
 have τne:Z≠(0,0):=λe=>by rw[hτ]at e;have e1:=congrArg Prod.fst e;have e2:=congrArg Prod.snd e;unfold E2 at e1 e2;simp only at e1 e2;exact ne (by unfold E2;exact Rl (by simp only;omega) (by simp only;omega))
 have b1:∀q∈b,Cm Z q1<=Cm Z q:=λq hq=>by have:=all q hq p1 hp1;omega
 have a1:∀p∈a,Cm Z p<=Cm Z p1:=λp hp=>by have:=all q1 hq1 p hp;omega
 have eq:Cm Z q2=Cm Z q1:=by have:=all q2 hq2 p1 hp1;have:=all q1 hq1 p2 hp2;omega
 have ep:Cm Z p2=Cm Z p1:=by omega
 have sh:∀x y:Pt,Ah x (x.1+Z.1,x.2+Z.2) y=Cm Z y-Cm Z x:=λx y=>by unfold Ah Cm;simp only;grind
 have sh2:∀x y:Pt,Ah (x.1+Z.1,x.2+Z.2) x y=Cm Z x-Cm Z y:=λx y=>by unfold Ah Cm;simp only;grind
 have shne:∀x:Pt,x≠(x.1+Z.1,x.2+Z.2):=λx e=>τne (by have e1:=congrArg Prod.fst e;have e2:=congrArg Prod.snd e;simp only at e1 e2;exact Rl (by simp only;omega) (by simp only;omega))
 by_cases hq:q1=q2
 ·have hp:p1≠p2:=λe=>ne (by rw[hq,e])
  left;refine VX (b:=a) (a:=b) ha (shne p1) (λp hp=>?_) (λq hq=>?_) hp1 hp2 hp ?_ ?_
  ·rw[sh];have:=a1 p hp;omega
  ·rw[sh];have:=b1 q hq;omega
  ·rw[sh];omega
  ·rw[sh];omega
 ·right;refine VX (b:=b) (a:=a) hb (Ss (shne q1)) (λq hq=>?_) (λp hp=>?_) hq1 hq2 hq ?_ ?_
  ·rw[sh2];have:=b1 q hq;omega
  ·rw[sh2];have:=a1 p hp;omega
  ·rw[sh2];omega
  ·rw[sh2];omega
theorem Adz{n:Nat}{v:Nat->Pt}(hn:0<n)(per:∀t,v (t+n)=v t)(h:∀t,0<Cm (v t) (v (t+1)))(e:Pt)(he:e≠(0,0)):∃t,0<=Cm (v t) e/\0<=Cm e (v (t+1)):=by
 by_cases hex:∃t,0<=Cm (v t) e/\0<=Cm e (v (t+1))
 ·exact hex
 exfalso;have h0:∀t,0<Ah (v t) (v (t+1)) (0,0):=λt=>by
  have:=h t;have e2:Ah (v t) (v (t+1)) (0,0)=Cm (v t) (v (t+1)):=by unfold Ah Cm;simp only;grind
  omega
 have sw:∀x:Pt,Cm e x= -Cm x e:=λx=>by unfold Cm;grind
 have nx:∀t,0<=Cm (v t) e->0<Cm (v (t+1)) e:=λt ht=>by
  rcases Nz 0 (Cm (v (t+1)) e)with c|c
  ·exact c
  ·exact absurd ⟨t,ht,by rw[sw];omega⟩ hex
 by_cases hs:∃t,0<=Cm (v t) e
 ·obtain⟨m,hm⟩:=hs;have all:∀k,0<Cm (v (m+1+k)) e:=by
   intro k;induction k with
   |zero=>exact nx m hm
   |succ k ih=>exact nx (m+1+k) (zX ih)
  refine Qa (v:=λt=>v (m+1+t)) hn (λt=>by show v (m+1+(t+n))=v (m+1+t);rw[<-t6];exact per _) (p:=(0,0)) (g:=(e.2,-e.1)) (λt=>h0 (m+1+t)) (λq=>he ?_) λt=>?_
  ·have e1:=congrArg Prod.fst q;have e2:=congrArg Prod.snd q;simp only at e1 e2;exact Rl (by simp only;omega) (by simp only;omega)
  ·have:=all t;unfold Cm at this;unfold D0;simp only;have e3:e.2*((v (m+1+t)).1-0)+ -e.1*((v (m+1+t)).2-0)=(v (m+1+t)).1*e.2-(v (m+1+t)).2*e.1:=by grind
   omega
 ·refine Qa (v:=v) hn per (p:=(0,0)) (g:=(-e.2,e.1)) h0 (λq=>he ?_) λt=>?_
  ·have e1:=congrArg Prod.fst q;have e2:=congrArg Prod.snd q;simp only at e1 e2;exact Rl (by simp only;omega) (by simp only;omega)
  ·have:¬0<=Cm (v t) e:=λc=>hs ⟨t,c⟩
   unfold Cm at this;unfold D0;simp only;have e3: -e.2*((v t).1-0)+e.1*((v t).2-0)= -((v t).1*e.2-(v t).2*e.1):=by grind
   omega
abbrev B5:=Int×Int×Int
def BE(L P:B5):Int:=L.1*P.1+L.2.1*P.2.1+L.2.2*P.2.2
def dv(L:B5)(d:Pt):Int:=L.1*d.1+L.2.1*d.2
def IG(p q:Pt):B5:=(p.2-q.2,q.1-p.1,(q.2-p.2)*p.1-(q.1-p.1)*p.2)
def Hb(l:List Pt)(i:Nat):B5:=IG (pa l i) (pa l ((i+1)%l.length))
def A1(l:List Pt):List B5:=(List.range l.length).map (Hb l)
theorem G0{l:List Pt}{L:B5}:L∈A1 l↔∃i,i<l.length/\L=Hb l i:=by unfold A1;simp only[tI,Sv];exact⟨λ⟨i,h,e⟩=>⟨i,h,e.symm⟩,λ⟨i,h,e⟩=>⟨i,h,e.symm⟩⟩
theorem JJ(l:List Pt)(i:Nat)(p:Pt):BE (Hb l i) (p.1,p.2,1)=α l i p:=by unfold BE Hb IG α Ah;simp only;grind
def Q3(r:Int)(P:B5)(s:Int)(d:Pt):B5:=(r*P.1+s*d.1,r*P.2.1+s*d.2,r*P.2.2)
theorem Pu(L P:B5)(r s:Int)(d:Pt):BE L (Q3 r P s d)=r*BE L P+s*dv L d:=by unfold BE Q3 dv;simp only;grind
def VY(P Q:B5):B5:=(P.1+Q.1,P.2.1+Q.2.1,P.2.2+Q.2.2)
theorem dK(L P Q:B5):BE L (VY P Q)=BE L P+BE L Q:=by unfold BE VY;simp only;grind
def Jt(Ls:List B5)(P:B5):Prop:=0<P.2.2/\∀L∈Ls,0<=BE L P
theorem QE(P:B5)(d:Pt):∀(Ls:List B5),(∃L∈Ls,dv L d<0)->∃L∈Ls,dv L d<0/\∀M∈Ls,dv M d<0->BE L P*(-dv M d)<=BE M P*(-dv L d)
 |[],h=>by obtain⟨L,hL,_⟩:=h;simp at hL
 |A::Ls,h=>by
  by_cases hr:∃L∈Ls,dv L d<0
  ·obtain⟨L,hL,h1,h2⟩:=QE P d Ls hr;by_cases hA:dv A d<0
   ·by_cases hc:BE L P*(-dv A d)<=BE A P*(-dv L d)
    ·refine⟨L,by simp[hL],h1,λM hM hd=>?_⟩;rcases lJ.1 hM with rfl|hM
     ·exact hc
     ·exact h2 M hM hd
    ·refine⟨A,by simp,hA,λM hM hd=>?_⟩;rcases lJ.1 hM with rfl|hM
     ·exact Int.le_refl _
     ·have k:=h2 M hM hd;generalize BE L P=x at*;generalize BE A P=y at*;generalize BE M P=z at*;generalize hl: -dv L d=l at*;generalize ha: -dv A d=a at*;generalize hm: -dv M d=m at*;have lp:0<l:=by omega
      have ap:0<a:=by omega
      have mp:0<m:=by omega
      have k1:0<=m*(x*a-y*l):=mM (zX mp) (by omega);have k2:0<=a*(z*l-x*m):=mM (zX ap) (by omega);have k3:l*(z*a-y*m)=m*(x*a-y*l)+a*(z*l-x*m):=by grind
      have:=Fr lp (b:=z*a-y*m) (by omega);omega
   ·refine⟨L,by simp[hL],h1,λM hM hd=>?_⟩;rcases lJ.1 hM with rfl|hM
    ·exact absurd hd hA
    ·exact h2 M hM hd
  ·obtain⟨L,hL,h1⟩:=h;rcases lJ.1 hL with rfl|hL
   ·refine⟨L,by simp,h1,λM hM hd=>?_⟩;rcases lJ.1 hM with rfl|hM
    ·exact Int.le_refl _
    ·exact absurd ⟨M,hM,hd⟩ hr
   ·exact absurd ⟨L,hL,h1⟩ hr
theorem ray{Ls:List B5}{P:B5}(hP:Jt Ls P)(d:Pt)(hd:∃L∈Ls,dv L d<0):∃r s L,L∈Ls/\0<r/\0<=s/\Jt Ls (Q3 r P s d)/\dv L d<0/\BE L (Q3 r P s d)=0/\s=BE L P:=by
 obtain⟨L,hL,h1,h2⟩:=QE P d Ls hd;have e0:=hP.2 L hL;refine⟨-dv L d,BE L P,L,hL,by omega,e0,⟨CX (by omega) hP.1,λM hM=>?_⟩,h1,?_,rfl⟩
 ·rw[Pu];have eM:=hP.2 M hM;by_cases hd:dv M d<0
  ·have:=h2 M hM hd;rw[Int.mul_neg]at this;rw[X4 (-dv L d)];omega
  ·have k1:=mM (show 0<=-dv L d by omega) eM;have k2:=mM e0 (show 0<=dv M d by omega);omega
 ·rw[Pu,Int.neg_mul,X4];omega
theorem tX{l:List Pt}(h:VP l){d:Pt}(hd:d≠(0,0)):∃L∈A1 l,dv L d<0:=by
 have l3:=h.l3;have hn:0<l.length:=by omega
 by_cases hex:∃L∈A1 l,dv L d<0
 ·exact hex
 exfalso;have nn:∀t,Cm (qa l t) d<=Cm (qa l (t+1)) d:=λt=>by
  have hm:=G0.2 ⟨t%l.length,uM _ hn,rfl⟩;have:¬dv (Hb l (t%l.length)) d<0:=λq=>hex ⟨_,hm,q⟩
  have e:dv (Hb l (t%l.length)) d=Cm (qa l (t+1)) d-Cm (qa l t) d:=by
   have q:pa l ((t%l.length+1)%l.length)=qa l (t+1):=by unfold qa;rw[Tn]
   unfold Hb;rw[q,show pa l (t%l.length)=qa l t from rfl];unfold dv IG Cm;simp only;grind
  omega
 have up:∀k t,Cm (qa l t) d<=Cm (qa l (t+k)) d:=by
  intro k;induction k with
  |zero=>intro t;exact Int.le_refl _
  |succ k ih=>intro t;have:=ih t;have:=nn (t+k);rw[<-t6];omega
 have c1:Cm (qa l 0) d=Cm (qa l 1) d:=by have a1:=nn 0;have a2:=up (l.length-1) 1;rw[show 1+(l.length-1)=0+l.length by omega,ID]at a2;have a1:Cm (qa l 0) d<=Cm (qa l 1) d:=a1;omega
 have c2:Cm (qa l 1) d=Cm (qa l 2) d:=by have a1:Cm (qa l 1) d<=Cm (qa l 2) d:=nn 1;have a2:=up (l.length-2) 2;rw[show 2+(l.length-2)=0+l.length by omega,ID]at a2;omega
 have c:=Ib h.cv (s:=0) (a:=2) (by omega) (by omega);simp only[s6]at c;have z1:d.1*Ah (qa l 0) (qa l 1) (qa l 2)=0:=by unfold Ah;unfold Cm at c1 c2;grind
 have z2:d.2*Ah (qa l 0) (qa l 1) (qa l 2)=0:=by unfold Ah;unfold Cm at c1 c2;grind
 rcases Nw.1 z1 with q|q
 ·rcases Nw.1 z2 with w|w
  ·exact hd (Rl q w)
  ·omega
 ·omega
theorem Pv{a b:List Pt}(ha:VP a)(hb:VP b)(hap:¬apart a b){p q:Pt}(hp:p∈a)(hq:q∈b):∃P k,0<k/\Jt (A1 a++A1 b) P/\(∀i,i<a.length->k*α a i p<=BE (Hb a i) P)/\∀j,j<b.length->k*α b j q<=BE (Hb b j) P:=by
 have a3:=ha.l3;have b3:=hb.l3;have good:∀P:B5,0<P.2.2->(∀i,i<a.length->0<=BE (Hb a i) P)->(∀j,j<b.length->0<=BE (Hb b j) P)->Jt (A1 a++A1 b) P:=λP h1 h2 h3=>by
  refine⟨h1,λL hL=>?_⟩;rcases lO.1 hL with h|h
  ·obtain⟨i,hi,rfl⟩:=G0.1 h;exact h2 i hi
  ·obtain⟨i,hi,rfl⟩:=G0.1 h;exact h3 i hi
 by_cases hd:E2 q p=(0,0)
 ·have e:q=p:=by unfold E2 at hd;have e1:=congrArg Prod.fst hd;have e2:=congrArg Prod.snd hd;simp only at e1 e2;exact Rl (by omega) (by omega)
  subst e;refine⟨(q.1,q.2,1),1,by omega,good _ (by simp only;omega) (λi hi=>?_) (λj hj=>?_),λi hi=>?_,λj hj=>?_⟩
  ·rw[JJ];exact Nj ha hi hp
  ·rw[JJ];exact Nj hb hj hq
  ·rw[JJ];omega
  ·rw[JJ];omega
 have sm:∀d∈Qc a b,BH d:=λd hd=>by obtain⟨q,hq,p,hp,rfl⟩:=HH.1 hd;have h1:=ha.on p hp;have h2:=hb.on q hq;unfold On at h1 h2;unfold BH E2;simp only;omega
 have m0:E2 q p∈Qc a b:=HH.2 ⟨q,hq,p,hp,rfl⟩;obtain⟨r,r0,rs,rE⟩:=lS sm (λe=>by rw[e]at m0;simp at m0);have rE:∀i,i<r.length->Edge (Qc a b) (pa r i) (pa r ((i+1)%r.length)):=by
  rcases rE with⟨o,ho⟩|h
  ·exfalso;have e1:=ho _ (HH.2 ⟨q,hq,pa a 0,AN (by omega),rfl⟩);have e2:=ho _ (HH.2 ⟨q,hq,pa a 1,AN (by omega),rfl⟩);have e3:=e1.trans e2.symm;unfold E2 at e3;have f1:=congrArg Prod.fst e3;have f2:=congrArg Prod.snd e3;simp only at f1 f2;have:=ha.ne (show 0<a.length by omega);rw[tT (by omega)]at this;have this:pa a 0≠pa a 1:=this;exact this (Rl (by omega) (by omega))
  ·exact h
 have pos:∀t,0<Cm (pa r (t%r.length)) (pa r ((t+1)%r.length)):=λt=>by
  have hE:=rE (t%r.length) (uM _ r0);rw[Tn]at hE;rcases Nz 0 (Cm (pa r (t%r.length)) (pa r ((t+1)%r.length)))with c|c
  ·exact c
  ·exact absurd (ZI ha hb hE c) hap
 obtain⟨t,k1,k2⟩:=Adz (v:=λt=>pa r (t%r.length)) r0 (λt=>by simp only[Nat.add_mod_right]) pos (-(E2 q p).1,-(E2 q p).2) (λe=>hd (by have e1:=congrArg Prod.fst e;have e2:=congrArg Prod.snd e;simp only at e1 e2;exact Rl (by simp only;omega) (by simp only;omega)));have k0:=pos t;obtain⟨q1,hq1,p1,hp1,e1⟩:=HH.1 (rs _ (AN (uM t r0)));obtain⟨q2,hq2,p2,hp2,e2⟩:=HH.1 (rs _ (AN (uM (t+1) r0)));rw[e1]at k0 k1;rw[e2]at k0 k2;obtain⟨E,hα⟩:∃E,E=Cm (E2 q1 p1) (E2 q2 p2):=⟨_,rfl⟩
 obtain⟨J,hβ⟩:∃J,J=Cm (-(E2 q p).1,-(E2 q p).2) (E2 q2 p2):=⟨_,rfl⟩
 obtain⟨γ,hγ⟩:∃γ,γ=Cm (E2 q1 p1) (-(E2 q p).1,-(E2 q p).2):=⟨_,rfl⟩
 rw[<-hα]at k0;rw[<-hβ]at k2;rw[<-hγ]at k1;have x1:E*(q.1-p.1)+J*(q1.1-p1.1)+γ*(q2.1-p2.1)=0:=by rw[hα,hβ,hγ];unfold Cm E2;simp only;grind
 have x2:E*(q.2-p.2)+J*(q1.2-p1.2)+γ*(q2.2-p2.2)=0:=by rw[hα,hβ,hγ];unfold Cm E2;simp only;grind
 have ea:∀i,BE (Hb a i) (E*p.1+J*p1.1+γ*p2.1,E*p.2+J*p1.2+γ*p2.2,E+J+γ)=E*α a i p+J*α a i p1+γ*α a i p2:=λi=>by rw[<-JJ,<-JJ,<-JJ];unfold BE;simp only;grind
 have eb:∀j,BE (Hb b j) (E*p.1+J*p1.1+γ*p2.1,E*p.2+J*p1.2+γ*p2.2,E+J+γ)=E*α b j q+J*α b j q1+γ*α b j q2:=λj=>by
  have f1:E*p.1+J*p1.1+γ*p2.1=E*q.1+J*q1.1+γ*q2.1:=by grind
  have f2:E*p.2+J*p1.2+γ*p2.2=E*q.2+J*q1.2+γ*q2.2:=by grind
  rw[f1,f2,<-JJ,<-JJ,<-JJ];unfold BE;simp only;grind
 have na:∀i,i<a.length->E*α a i p<=BE (Hb a i) (E*p.1+J*p1.1+γ*p2.1,E*p.2+J*p1.2+γ*p2.2,E+J+γ):=λi hi=>by rw[ea];have:=mM k2 (Nj ha hi hp1);have:=mM k1 (Nj ha hi hp2);omega
 have nb':∀j,j<b.length->E*α b j q<=BE (Hb b j) (E*p.1+J*p1.1+γ*p2.1,E*p.2+J*p1.2+γ*p2.2,E+J+γ):=λj hj=>by rw[eb];have:=mM k2 (Nj hb hj hq1);have:=mM k1 (Nj hb hj hq2);omega
 refine⟨_,E,k0,good _ (by simp only;omega) (λi hi=>?_) (λj hj=>?_),na,nb'⟩
 ·have:=na i hi;have:=mM (zX k0) (Nj ha hi hp);omega
 ·have:=nb' j hj;have:=mM (zX k0) (Nj hb hj hq);omega
theorem tY{Ls:List B5}{P Q:B5}(h1:Jt Ls P)(h2:Jt Ls Q):Jt Ls (VY P Q):=⟨by have:=h1.1;have:=h2.1;unfold VY;simp only;omega,λL hL=>by rw[dK];have:=h1.2 L hL;have:=h2.2 L hL;omega⟩
theorem pH{a b:List Pt}(ha:VP a)(hb:VP b)(hap:¬apart a b):∃P:B5,0<P.2.2/\∀L∈A1 a++A1 b,0<BE L P:=by
 have a3:=ha.l3;have b3:=hb.l3;have one:∀L∈A1 a++A1 b,∃P,Jt (A1 a++A1 b) P/\0<BE L P:=λL hL=>by
  rcases lO.1 hL with h|h
  ·obtain⟨i,hi,rfl⟩:=G0.1 h;obtain⟨x,hx,px⟩:=KM ha hi;obtain⟨P,k,kp,hP,h1,_⟩:=Pv ha hb hap hx (AN (i:=0) (show 0<b.length by omega));have:=h1 i hi;have:=CX kp px;exact⟨P,hP,by omega⟩
  ·obtain⟨i,hi,rfl⟩:=G0.1 h;obtain⟨x,hx,px⟩:=KM hb hi;obtain⟨P,k,kp,hP,_,h1⟩:=Pv ha hb hap (AN (i:=0) (show 0<a.length by omega)) hx;have:=h1 i hi;have:=CX kp px;exact⟨P,hP,by omega⟩
 have many:∀Ms:List B5,(∀L∈Ms,L∈A1 a++A1 b)->∃P,Jt (A1 a++A1 b) P/\∀L∈Ms,0<BE L P:=by
  intro Ms;induction Ms with
  |nil=>intro _;obtain⟨P,_,_,hP,_,_⟩:=Pv ha hb hap (AN (i:=0) (show 0<a.length by omega)) (AN (i:=0) (show 0<b.length by omega));exact⟨P,hP,by simp⟩
  |cons M Ms ih=>
   intro h;obtain⟨P,hP,h1⟩:=ih λL hL=>h L (by simp[hL])
   obtain⟨Q,hQ,h2⟩:=one M (h M (by simp));refine⟨VY P Q,tY hP hQ,λL hL=>?_⟩;rw[dK];rcases lJ.1 hL with rfl|hL
   ·have:=hP.2 L (h L (by simp));omega
   ·have:=h1 L hL;have:=hQ.2 L (h L (by simp[hL]));omega
 obtain⟨P,hP,h⟩:=many (A1 a++A1 b) λL hL=>hL
 exact⟨P,hP.1,h⟩
structure Vtx(Ls:List B5)(L M P:B5):Prop where
 inK:Jt Ls P
 l:L∈Ls
 m:M∈Ls
 zl:BE L P=0
 zm:BE M P=0
 np:L.1*M.2.1-M.1*L.2.1≠0
theorem tZ{a b:List Pt}(ha:VP a)(hb:VP b)(hap:¬apart a b){f:B5}(hf:f.1≠0\/f.2.1≠0):∃L M P,Vtx (A1 a++A1 b) L M P/\BE f P≠0:=by
 obtain⟨c,cw,cp⟩:=pH ha hb hap;have bd:∀d:Pt,d≠(0,0)->∃L∈A1 a++A1 b,dv L d<0:=λd hd=>by obtain⟨L,hL,h⟩:=tX ha hd;exact⟨L,List.mem_append_left _ hL,h⟩
 have cK:Jt (A1 a++A1 b) c:=⟨cw,λL hL=>zX (cp L hL)⟩
 have ρ:0<f.1*f.1+f.2.1*f.2.1:=by
  have h1:=MW f.1;have h2:=MW f.2.1;rcases hf with h|h
  ·have:f.1*f.1≠0:=λq=>h (oW q);omega
  ·have:f.2.1*f.2.1≠0:=λq=>h (oW q);omega
 have go_:∀g:B5,0<g.1*g.1+g.2.1*g.2.1->0<=BE g c->∃L M P,Vtx (A1 a++A1 b) L M P/\0<BE g P:=λg Wg g0=>by
  obtain⟨r,s,L,hL,rp,sp,hK,hd,hz,es⟩:=ray cK (g.1,g.2.1) (bd _ (λe=>by have e1:=congrArg Prod.fst e;have e2:=congrArg Prod.snd e;simp only at e1 e2;rw[e1,e2]at Wg;omega));have sp':0<s:=by rw[es];exact cp L hL
  have gp:0<BE g (Q3 r c s (g.1,g.2.1)):=by rw[Pu];have:=mM (zX rp) g0;have:=CX sp' Wg;have e:dv g (g.1,g.2.1)=g.1*g.1+g.2.1*g.2.1:=rfl;rw[e];omega
  generalize Q3 r c s (g.1,g.2.1)=P at*;have Lne:¬(L.1=0/\L.2.1=0):=λq=>by unfold dv at hd;rw[q.1,q.2]at hd;omega
  have fin_:∀Z:Pt,Z≠(0,0)->(∀M:B5,dv M Z≠0->L.1*M.2.1-M.1*L.2.1≠0)->dv L Z=0->0<=dv g Z->∃L M P,Vtx (A1 a++A1 b) L M P/\0<BE g P:=λZ hτ hM hLτ hg=>by
   obtain⟨r2,s2,M,hMm,r2p,s2p,hK2,hd2,hz2,_⟩:=ray hK Z (bd _ hτ);refine⟨L,M,Q3 r2 P s2 Z,⟨hK2,hL,hMm,?_,hz2,hM M (by omega)⟩,?_⟩
   ·rw[Pu,hz,hLτ];simp
   ·rw[Pu];have:=CX r2p gp;have:=mM s2p hg;omega
  by_cases hg:0<=dv g (L.2.1,-L.1)
  ·refine fin_ (L.2.1,-L.1) (λe=>Lne ?_) (λM hM q=>hM ?_) ?_ hg
   ·have e1:=congrArg Prod.fst e;have e2:=congrArg Prod.snd e;simp only at e1 e2;omega
   ·unfold dv;simp only;grind
   ·unfold dv;simp only;grind
  ·refine fin_ (-L.2.1,L.1) (λe=>Lne ?_) (λM hM q=>hM ?_) ?_ ?_
   ·have e1:=congrArg Prod.fst e;have e2:=congrArg Prod.snd e;simp only at e1 e2;omega
   ·unfold dv;simp only;grind
   ·unfold dv;simp only;grind
   ·have e:dv g (-L.2.1,L.1)= -dv g (L.2.1,-L.1):=by unfold dv;simp only;grind
    omega
 by_cases h0:0<=BE f c
 ·obtain⟨L,M,P,hv,hp⟩:=go_ f ρ h0;exact⟨L,M,P,hv,by omega⟩
 ·have en:∀P,BE (-f.1,-f.2.1,-f.2.2) P= -BE f P:=λP=>by unfold BE;simp only;grind
  obtain⟨L,M,P,hv,hp⟩:=go_ (-f.1,-f.2.1,-f.2.2) (by simp only;grind) (by rw[en];omega);rw[en]at hp;exact⟨L,M,P,hv,by omega⟩
def J2(L M:B5):B5:=(L.2.1*M.2.2-M.2.1*L.2.2,L.2.2*M.1-M.2.2*L.1,L.1*M.2.1-M.1*L.2.1)
def pJ(P:B5):B5:=(-P.1,-P.2.1,-P.2.2)
def J3(P:B5):B5:=if P.2.2<0 then pJ P else P
def GO(P Q R:B5):Int:=P.1*(Q.2.1*R.2.2-Q.2.2*R.2.1)-P.2.1*(Q.1*R.2.2-Q.2.2*R.1)+P.2.2*(Q.1*R.2.1-Q.2.1*R.1)
def ga(Ls:List B5)(i:Nat):B5:=Ls.getD i (0,0,0)
theorem dL{Ls:List B5}{i:Nat}(h:i<Ls.length):ga Ls i=Ls[i]:=by unfold ga;simp[h]
theorem IH{Ls:List B5}{i:Nat}(h:i<Ls.length):ga Ls i∈Ls:=by rw[dL h];exact S7 h
theorem Qd{Ls:List B5}{L:B5}(h:L∈Ls):∃i,i<Ls.length/\L=ga Ls i:=by obtain⟨i,hi,e⟩:=List.getElem_of_mem h;exact⟨i,hi,by rw[dL hi,e]⟩
def Cmn(Ls:List B5)(P:B5):Prop:=∃i k,i<k/\k<Ls.length/\(J2 (ga Ls i) (ga Ls k)).2.2≠0/\P=J3 (J2 (ga Ls i) (ga Ls k))/\∀L∈Ls,0<=BE L P
theorem dM{C:B5}(h:C.2.2≠0):0<(J3 C).2.2:=by
 unfold J3;split
 ·unfold pJ;simp only;omega
 ·omega
theorem uC{C P:B5}(h1:C.2.2*P.1=P.2.2*C.1)(h2:C.2.2*P.2.1=P.2.2*C.2.1):(J3 C).2.2*P.1=P.2.2*(J3 C).1/\(J3 C).2.2*P.2.1=P.2.2*(J3 C).2.1:=by
 unfold J3 pJ;split
 ·simp only;constructor<;>grind
 ·exact⟨h1,h2⟩
theorem Cmn.inK{Ls:List B5}{P:B5}(h:Cmn Ls P):Jt Ls P:=by obtain⟨i,k,_,_,hw,rfl,h⟩:=h;exact⟨dM hw,h⟩
theorem uD{Ls:List B5}{L M P:B5}(h:Vtx Ls L M P):∃Q,Cmn Ls Q/\∀f,BE f P≠0->BE f Q≠0:=by
 obtain⟨i,hi,Hb⟩:=Qd h.l;obtain⟨k,hk,eM⟩:=Qd h.m;have np:=h.np;have zl:=h.zl;have zm:=h.zm;have pw:=h.inK.1;have key:∀A B:B5,A.1*B.2.1-B.1*A.2.1≠0->BE A P=0->BE B P=0->(J2 A B).2.2≠0/\(∀f,P.2.2*BE f (J3 (J2 A B))=(J3 (J2 A B)).2.2*BE f P):=λA B hn zA zB=>by have w:(J2 A B).2.2≠0:=hn;have p:=uC (C:=J2 A B) (P:=P) (by unfold J2;simp only;unfold BE at zA zB;grind) (by unfold J2;simp only;unfold BE at zA zB;grind);refine⟨w,λf=>?_⟩;generalize J3 (J2 A B)=Q at p;unfold BE;grind
 have fin_:∀A B:B5,A.1*B.2.1-B.1*A.2.1≠0->BE A P=0->BE B P=0->(J2 A B).2.2≠0/\(∀L∈Ls,0<=BE L (J3 (J2 A B)))/\∀f,BE f P≠0->BE f (J3 (J2 A B))≠0:=λA B hn zA zB=>by
  obtain⟨w,e⟩:=key A B hn zA zB;have q:=dM w;refine⟨w,λL hL=>?_,λf hf hz=>?_⟩
  ·have e1:=e L;have:=mM (zX q) (h.inK.2 L hL);exact Fr pw (by omega)
  ·have e1:=e f;rw[hz,Int.mul_zero]at e1;rcases Nw.1 e1.symm with x|x
   ·omega
   ·exact hf x
 rcases Nat.lt_trichotomy i k with c|c|c
 ·obtain⟨w,h1,h2⟩:=fin_ L M np zl zm;rw[Hb,eM]at w h1 h2;exact⟨_,⟨i,k,c,hk,w,rfl,h1⟩,h2⟩
 ·exfalso;subst c;rw[<-eM]at Hb;subst Hb;omega
 ·obtain⟨w,h1,h2⟩:=fin_ M L (by omega) zm zl;rw[Hb,eM]at w h1 h2;exact⟨_,⟨k,i,c,hi,w,rfl,h1⟩,h2⟩
theorem dO{a b:List Pt}(ha:VP a)(hb:VP b)(hap:¬apart a b):∃P Q R,Cmn (A1 a++A1 b) P/\Cmn (A1 a++A1 b) Q/\Cmn (A1 a++A1 b) R/\GO P Q R≠0:=by
 have one:∀f:B5,f.1≠0\/f.2.1≠0->∃Q,Cmn (A1 a++A1 b) Q/\BE f Q≠0:=λf hf=>by obtain⟨L,M,P,hv,hp⟩:=tZ ha hb hap hf;obtain⟨Q,hQ,h⟩:=uD hv;exact⟨Q,hQ,h f hp⟩
 obtain⟨P,hP,_⟩:=one (1,0,0) (.inl (by simp));have pw:=hP.inK.1;obtain⟨Q,hQ,hq⟩:=one (P.2.2,0,-P.1) (.inl (by simp only;omega));obtain⟨R,hR,hr⟩:=one (P.2.1*Q.2.2-P.2.2*Q.2.1,P.2.2*Q.1-P.1*Q.2.2,P.1*Q.2.1-P.2.1*Q.1) (.inr (by unfold BE at hq;simp only at hq;simp only;intro q;apply hq;grind));refine⟨P,Q,R,hP,hQ,hR,λq=>hr ?_⟩;unfold GO at q;unfold BE;simp only;grind
def VZ(k:Int)(P c:B5):B5:=(k*P.1+c.1,k*P.2.1+c.2.1,k*P.2.2+c.2.2)
theorem pM(L:B5)(k:Int)(P c:B5):BE L (VZ k P c)=k*BE L P+BE L c:=by unfold BE VZ;simp only;grind
theorem dQ{b:List Pt}(hb:VP b){f P:B5}(hf:f.1≠0\/f.2.1≠0)(h:∀q∈b,BE f (q.1,q.2,1)<=0)(hP:Jt (A1 b) P):BE f P<=0:=by
 rcases Nz 0 (BE f P)with c|c
 case inr=>exact c
 exfalso;have b3:=hb.l3;have hn:0<b.length:=by omega
 obtain⟨C,cw,cp⟩:=pH hb hb (ZG hb);obtain⟨k,k0,hk⟩:∃k:Int,0<=k/\0<k*BE f P+BE f C:=by
  refine⟨if 0<BE f C then 0 else 1-BE f C,?_,?_⟩
  ·split<;>omega
  ·split
   ·omega
   ·have:=Int.mul_le_mul_of_nonneg_left (show 1<=BE f P by omega) (show 0<=1-BE f C by omega);omega
 have ρ:0<(VZ k P C).2.2:=by have:=mM k0 (zX hP.1);unfold VZ;simp only;omega
 have pe:∀L∈A1 b,0<BE L (VZ k P C):=λL hL=>by rw[pM];have:=mM k0 (hP.2 L hL);have:=cp L (List.mem_append_left _ hL);omega
 have fe:0<BE f (VZ k P C):=by rw[pM];exact hk
 generalize VZ k P C=Q at ρ pe fe;refine Qa (n:=b.length) (v:=λt=>(Q.2.2*(qa b t).1,Q.2.2*(qa b t).2)) hn (λt=>by simp only[ID]) (p:=(Q.1,Q.2.1)) (g:=(-f.1,-f.2.1)) (λt=>?_) (λe=>?_) (λt=>?_)
 ·have e:=pe _ (G0.2 ⟨t%b.length,uM _ hn,rfl⟩);have q:pa b ((t%b.length+1)%b.length)=qa b (t+1):=by unfold qa;rw[Tn]
  unfold Hb at e;rw[q,show pa b (t%b.length)=qa b t from rfl]at e;have:=CX ρ e;have e2:Ah (Q.2.2*(qa b t).1,Q.2.2*(qa b t).2) (Q.2.2*(qa b (t+1)).1,Q.2.2*(qa b (t+1)).2) (Q.1,Q.2.1)=Q.2.2*BE (IG (qa b t) (qa b (t+1))) Q:=by unfold Ah BE IG;simp only;grind
  rw[e2];exact this
 ·have e1:=congrArg Prod.fst e;have e2:=congrArg Prod.snd e;simp only at e1 e2;omega
 ·have e:=h (qa b t) (AN (uM _ hn));have:=mM (zX ρ) (show 0<=-BE f ((qa b t).1,(qa b t).2,1) by omega);have e2:D0 (-f.1,-f.2.1) (Q.1,Q.2.1) (Q.2.2*(qa b t).1,Q.2.2*(qa b t).2)=Q.2.2*(-BE f ((qa b t).1,(qa b t).2,1))+BE f Q:=by unfold D0 BE;simp only;grind
  rw[e2];omega
theorem lT{A B:List B5}{P:B5}(h:Jt (A++B) P):Jt A P:=⟨h.1,λL hL=>h.2 L (List.mem_append_left _ hL)⟩
theorem dR{A B:List B5}{P:B5}(h:Jt (A++B) P):Jt B P:=⟨h.1,λL hL=>h.2 L (List.mem_append_right _ hL)⟩
theorem UH{l:List Pt}(h:VP l){i:Nat}(hi:i<l.length):(Hb l i).1≠0\/(Hb l i).2.1≠0:=by
 have:=h.ne hi;unfold Hb IG;simp only;by_cases q:(pa l i).2-(pa l ((i+1)%l.length)).2=0
 ·right;intro w;exact this (Rl (by omega) (by omega))
 ·exact .inl q
theorem Yb{f P Q R:B5}(hf:f.1≠0\/f.2.1≠0)(h1:BE f P=0)(h2:BE f Q=0)(h3:BE f R=0):GO P Q R=0:=by
 unfold BE at h1 h2 h3;have z1:f.1*GO P Q R=0:=by unfold GO;grind
 have z2:f.2.1*GO P Q R=0:=by unfold GO;grind
 rcases hf with h|h
 ·rcases Nw.1 z1 with x|x
  ·exact absurd x h
  ·exact x
 ·rcases Nw.1 z2 with x|x
  ·exact absurd x h
  ·exact x
theorem lU{a b:List Pt}(ha:VP a)(hb:VP b)(hap:apart a b){P Q R:B5}(hP:Jt (A1 a++A1 b) P)(hQ:Jt (A1 a++A1 b) Q)(hR:Jt (A1 a++A1 b) R):GO P Q R=0:=by
 rcases hap with⟨i,hi,hs⟩|⟨i,hi,hs⟩
 ·have z:∀S,Jt (A1 a++A1 b) S->BE (Hb a i) S=0:=λS hS=>by have h1:=hS.2 (Hb a i) (List.mem_append_left _ (G0.2 ⟨i,hi,rfl⟩));have h2:=dQ hb (UH ha hi) (λq hq=>by rw[JJ];exact hs q hq) (dR hS);omega
  exact Yb (UH ha hi) (z _ hP) (z _ hQ) (z _ hR)
 ·have z:∀S,Jt (A1 a++A1 b) S->BE (Hb b i) S=0:=λS hS=>by have h1:=hS.2 (Hb b i) (List.mem_append_right _ (G0.2 ⟨i,hi,rfl⟩));have h2:=dQ ha (UH hb hi) (λq hq=>by rw[JJ];exact hs q hq) (lT hS);omega
  exact Yb (UH hb hi) (z _ hP) (z _ hQ) (z _ hR)
