import Derived.Test.YtciphecegkfaiaaGreatN4
import Derived.Test.YtciphecegkfaiaaGreatW6
set_option linter.unusedSimpArgs false
set_option linter.unusedVariables false
set_option linter.unusedSectionVars false
noncomputable section
namespace Go.Proofs.YtciphecegkfaiaaGreat.Am
def eU(u:Un):List UInt8:=IQ u.1 u.2.1 u.2.2.1 u.2.2.2.1 u.2.2.2.2.1 u.2.2.2.2.2
def KP(t:List UInt8):List UInt8:=EV (t.length:Int)++t
def Lt:List Un->List UInt8|[]=>[]|u::r=>KP (eU u)++Lt r
def I8(f:List Un):List UInt8:=EV (f.length:Int)++Lt f
def Pz(l:List UInt8):Option (List UInt8×Nat):=(EF l).bind λnm=>if(0<=nm.1/\nm.1<=65536)/\nm.2+nm.1.toNat<=l.length then some ((l.drop nm.2).take nm.1.toNat,nm.2+nm.1.toNat)else none
def KQ:Nat->List UInt8->Option (List Un×List UInt8)|0,l=>some ([],l)|k+1,l=>(Pz l).bind λtk=>(KY tk.1).bind λu=>(KQ k (l.drop tk.2)).map λx=>(u::x.1,x.2)
open Classical in
def Ou(s:List UInt8):Option (List Un):=(EF s).bind λnm=>if 0<=nm.1/\nm.1<=12 then(KQ nm.1.toNat (s.drop nm.2)).bind λx=>if x.2=[]/\FV x.1 then some x.1 else none else none
theorem LZ(n:Int):(EV n).length<=10:=Rc n
theorem Q6{l t:List UInt8}{k:Nat}(h:Pz l=some (t,k)):t.length<=65536/\l.take k=KP t/\k<=l.length:=by
 unfold Pz at h;cases hr:EF l with
 |none=>rw[hr]at h;cases h
 |some nm=>
  obtain⟨n,m⟩:=nm;rw[hr,pA]at h;simp only at h;split at h
  ·rename_i hc;obtain⟨_,h2,h3,_⟩:=Hf hr;simp only[yE,Wt]at h;obtain⟨rfl,rfl⟩:=h;have hl:((l.drop m).take n.toNat).length=n.toNat:=by rw[w8,s9];omega
   refine⟨by omega,?_,hc.2⟩;unfold KP;rw[hl,Mw hc.1.1,<-h2,List.take_add]
  ·cases h
theorem T3:∀(k:Nat)(l:List UInt8)(f:List Un)(w:List UInt8),KQ k l=some (f,w)->f.length=k/\l=Lt f++w/\∀u∈f,UV u
 |0,l,f,w,h=>by simp only[KQ,yE,Wt]at h;obtain⟨rfl,rfl⟩:=h;exact⟨rfl,rfl,by simp⟩
 |k+1,l,f,w,h=>by
  rw[KQ]at h;obtain⟨⟨t,j⟩,h1,h⟩:=yB.1 h;obtain⟨u,h2,h⟩:=yB.1 h;obtain⟨⟨g,w'⟩,h3,h⟩:=L9.1 h;simp only[Wt]at h h2 h3;obtain⟨rfl,rfl⟩:=h;obtain⟨e1,e2,e3⟩:=T3 k _ _ _ h3;obtain⟨t1,t2,t3⟩:=Q6 h1;obtain⟨v1,v2⟩:=iD (a:=u.1) (b:=u.2.1) (c:=u.2.2.1) (l:=u.2.2.2.1) (p:=u.2.2.2.2.1) (q:=u.2.2.2.2.2) h2;refine⟨by simp[e1],?_,λv hv=>?_⟩
  ·rw[Lt,qV,<-e2,show eU u=t from v2.symm,<-t2,KL]
  ·rcases lJ.1 hv with rfl|hv
   ·exact v1
   ·exact e3 v hv
theorem eH{s:List UInt8}{f:List Un}(h:Ou s=some f):FV f/\s=I8 f:=by
 unfold Ou at h;obtain⟨⟨n,m⟩,h1,h⟩:=yB.1 h;simp only at h;split at h
 ·rename_i hc;obtain⟨⟨g,w⟩,h2,h⟩:=yB.1 h;simp only at h;split at h
  ·rename_i hd;obtain rfl:=yJ h;obtain⟨e1,e2,_⟩:=T3 _ _ _ _ h2;obtain⟨_,k2,k3,_⟩:=Hf h1;refine⟨hd.2,?_⟩;have hw:w=[]:=hd.1;rw[hw,qF]at e2;unfold I8;rw[e1,Mw hc.1,<-e2,<-k2,KL]
  ·cases h
 ·cases h
theorem Yj:∀(f:List Un),(∀u∈f,UV u)->(Lt f).length<=1010*f.length
 |[],_=>by simp[Lt]
 |u::r,h=>by
  have h1:=Qq (h u zW);have h2:=Yj r λv hv=>h v (tO _ hv)
  have h3:=LZ ((eU u).length:Int);have h4:(eU u).length<=1000:=h1.2;rw[Lt,fF,pC];unfold KP;rw[fF];omega
theorem mF{f:List Un}(h:FV f):0<(I8 f).length/\(I8 f).length<=20000:=by
 have h1:=Yj f h.val;have h2:=LZ (f.length:Int);have h3:=h.len;have hw:Wr (f.length:Int):=by unfold Wr;omega
 obtain⟨_,_,h5,h6⟩:=Hf (NK hw []);unfold I8;rw[fF];omega
section
variable{N:Nat}(hN:1001<=N)
include hN
theorem Yk{f:List Un}(h:FV f):∀n i (o:List UInt8),i<=f.length->f.length<n+i->o.length<=10+1010*i->Fq N f n o i=some (o++Lt (f.drop i))
 |0,i,o,h1,h2,_=>by omega
 |n+1,i,o,h1,h2,h3=>by
  have hl:=h.len;rw[Fq];by_cases e:i=f.length
  ·subst e;rw[CT,cF,w5];simp[Lt]
  ·have hi:i<f.length:=by omega
   have u:=h.val _ (Bi hi);have el:=Qq u;have pl:=LZ ((eU (Ao f i)).length:Int);have e4:(eU (Ao f i)).length<=1000:=el.2;have sl:(KP (eU (Ao f i))).length<=1010:=by unfold KP;rw[fF];omega
   rw[Ch hi,cT,Cq hi,bS];simp only;rw[iE (by omega) u,bS];simp only;rw[show IQ (Ao f i).1 (Ao f i).2.1 (Ao f i).2.2.1 (Ao f i).2.2.2.1 (Ao f i).2.2.2.2.1 (Ao f i).2.2.2.2.2=eU (Ao f i)from rfl];unfold It;rw[Az _ (by rw[eS];omega),Aa (by rw[fF];omega),bS];simp only;rw[show EV ((eU (Ao f i)).length:Int)++eU (Ao f i)=KP (eU (Ao f i))from rfl,Aa (by rw[fF];omega),Aa (by unfold Ab;omega),<-ns,Yk h n (i+1) _ (by omega) (by omega) (by rw[fF];omega),mL hi,Lt,<-Cj hi,qV]
theorem AdE(f:List Un):Gt N f=some (if FV f then(I8 f,0)else([],120)):=by
 unfold Gt;rw[Jy hN,bS];by_cases h:FV f
 ·have hl:=h.len;have e:=Yk hN h N 0 (EV (f.length:Int)) (by omega) (by omega) (by have:=LZ (f.length:Int);omega);rw[mK,uP]at e;rw[dC h,Az _ (by rfl),e,bS,eX h];rfl
 ·rw[dJ h,AG _ (by rfl),eW h]
theorem uN{s:List UInt8}{p:Nat}(hs:s.length<=1000000000)(hp:p<=s.length):(∃t k,Pz (s.drop p)=some (t,k)/\p+k<=s.length/\Hq N s p=some (t,((p+k:Nat):Int),0))\/(Pz (s.drop p)=none/\∃e,e≠0/\Hq N s p=some ([],0,e)):=by
 unfold Hq Pz;rw[WX (by omega) hs hp,bS];cases hr:EF (s.drop p)with
 |none=>right;simp only;refine⟨rfl,_,?_,by rw[AG _ (by rfl)]⟩;omega
 |some nm=>
  obtain⟨n,m⟩:=nm;obtain⟨wn,_,h3,_⟩:=Hf hr;rw[s9]at h3;unfold Wr at wn;simp only;rw[Az _ (by rfl),A8 (λ_=>by unfold Ab;omega),pA];simp only;rw[s9];by_cases c:(0<=n/\n<=65536)/\m+n.toNat<=s.length-p
  ·left;rw[eX c];refine⟨_,_,rfl,by omega,?_⟩;rw[Az _ (by rw[Fj,Fj,eS,eS,eS];omega),Aa (by unfold Ab;omega),Aa (by omega),Aa (by unfold Ab;omega)];have e1:(((p+m:Nat):Int)+n).toNat-((p+m:Nat):Int).toNat=n.toNat:=by omega
   have e2:((p+m:Nat):Int)+n=((p+(m+n.toNat):Nat):Int):=by omega
   rw[e1,e2,uS,zV]
  ·right;rw[eW c];refine⟨rfl,10,by omega,?_⟩;rw[AG _ (by rw[tV,tV,eR,eR,eR];omega)]
theorem Yl{s:List UInt8}(hs:s.length<=1000000000){n:Nat}(hn:n<=12):∀(k fu p i:Nat)(l:List Un),i+k=n->k<fu->p<=s.length->l.length=i->(∃us w,KQ k (s.drop p)=some (us,w)/\w.length<=s.length/\C5 N 0 n s fu p i l=some (((s.length-w.length:Nat):Int),false,l++us))\/(KQ k (s.drop p)=none/\∃a l',C5 N 0 n s fu p i l=some (a,true,l'))
 |_,0,p,i,l,_,h2,_,_=>by omega
 |0,fu+1,p,i,l,h1,h2,h3,h4=>by left;refine⟨[],s.drop p,rfl,by rw[s9];omega,?_⟩;rw[C5,Az _ (by rw[KV];right;rw[eS];omega),qF,s9,show s.length-(s.length-p)=p by omega];rw[dJ (p:=(n:Int)<0) (by omega),dJ (p:=(12:Int)<(n:Int)) (by omega)];rfl
 |k+1,fu+1,p,i,l,h1,h2,h3,h4=>by
  rw[C5,AG _ (by rw[dJ (p:=(n:Int)<0) (by omega),dJ (p:=(12:Int)<(n:Int)) (by omega),dC (p:=(i:Int)<(n:Int)) (by omega)];rfl),KQ];rcases uN hN hs h3 with⟨t,j,e1,e2,e3⟩|⟨e1,e,he,e3⟩
  ·have ht:t.length<=65536:=(Q6 e1).1;rw[e1,e3,bS,pA];simp only;rw[YK (by omega) (by omega),bS];cases hd:KY t with
   |none=>right;refine⟨rfl,(p:Int),l,?_⟩;simp only;rw[AG _ (by rfl)]
   |some u=>
    obtain⟨u1,u2,u3,u4,u5,u6⟩:=u;simp only;rw[Az _ (by rfl),Aa (by omega),Aa (by unfold Ab;omega),<-ns,pA,zV];rcases Yl hs hn k fu (p+j) (i+1) (l++[(u1,u2,u3,u4,u5,u6)]) (by omega) (by omega) (by omega) (by simp[h4])with⟨us,w,g1,g2,g3⟩|⟨g1,a,l',g3⟩
    ·left;rw[g1,g3];exact⟨_,w,rfl,g2,by rw[qV];rfl⟩
    ·right;rw[g1,g3];exact⟨rfl,_,_,rfl⟩
  ·right;rw[e1,e3,bS];refine⟨rfl,?_⟩;simp only;obtain⟨x,hx⟩:∃x,Da N []=some x:=⟨_,YK (by omega) (by simp)⟩
   obtain⟨⟨x1,x2,x3,x4,x5,x6⟩,x7⟩:=x;rw[hx,bS];simp only;exact⟨(p:Int),l,by rw[AG _ (by rw[dC he];rfl)]⟩
theorem AdF{s:List UInt8}(hs:s.length<=1000000000):FH N s=some (match Ou s with|some f=>(f,0)|none=>([],120)):=by
 unfold FH Ou;have hi:=WX (N:=N) (s:=s) (p:=0) (by omega) hs (t7 _);rw[uP,mK]at hi;rw[hi,bS];have bad:∀(r n:Int)(p:Int),(r≠0\/n<0\/12<n)->C5 N r n s N p 0 []=some (p,true,[]):=λr n p h=>by
  have hb:((decide (r≠0)||decide (n<0))||decide (12<n))=true:=by rw[tV,tV,eR,eR,eR];omega
  obtain⟨m,rfl⟩:∃m,N=m+1:=⟨N-1,by omega⟩
  rw[C5,hb,Az _ (by rfl)]
 have out:∀(a:Int)(l:List Un),(gd ((!(true||decide (a≠(s.length:Int))))=true->((Br N l).isSome=true))<|bif (true||decide (a≠(s.length:Int)))||(!((Br N l).getD false))then some (([]:List Un),(120:Int))else some (l,0))=some ([],120):=λa l=>by rw[A8 (λh=>by cases h),AG _ (by rfl)]
 cases hr:EF s with
 |none=>simp only;rw[bad _ _ _ (.inl (by omega)),bS];exact out _ _
 |some nm=>
  obtain⟨n,m⟩:=nm;obtain⟨_,_,h3,_⟩:=Hf hr;simp only;rw[pA];simp only;by_cases c:0<=n/\n<=12
  ·rw[eX c];rcases Yl hN hs (n:=n.toNat) (by omega) n.toNat N (0+m) 0 [] (by omega) (by omega) (by omega) rfl with⟨us,w,g1,g2,g3⟩|⟨g1,a,l',g3⟩
   ·rw[Mw c.1,mK]at g3;rw[g3,bS,s6]at*;rw[g1,pA];simp only;rw[Jy hN,A8 (λ_=>fD),mN,nJ];by_cases k:w=[]/\FV us
    ·rw[eX k,dC k.2,k.1,Az _ (by rw[dJ (by simp)];rfl)]
    ·rw[eW k,AG];by_cases k1:w=[]
     ·rw[dJ λh=>k ⟨k1,h⟩,S4,Bool.or_true]
     ·have:0<w.length:=List.length_pos_iff.2 k1;rw[dC (by omega)];rfl
   ·rw[Mw c.1,mK]at g3;rw[g3,bS];rw[s6]at g1;rw[g1];exact out _ _
  ·rw[eW c,bad _ _ _ (.inr (by omega)),bS];exact out _ _
end
