import Derived.Test.YtciphecegkfaiaaGreatMQ
import Derived.Test.YtciphecegkfaiaaGreatE6
set_option linter.unusedSimpArgs false
set_option linter.unusedVariables false
namespace Go.Proofs.YtciphecegkfaiaaGreat.Am
def rs(f:Nat->Int)(n:Nat):Int:=((List.range n).map f).sum
theorem Qe(f:Nat->Int):rs f 0=0:=rfl
theorem KN(f:Nat->Int)(n:Nat):rs f (n+1)=rs f n+f n:=by unfold rs;rw[List.range_succ,w9,List.sum_append];simp
theorem Sk(f:Nat->Int)(m:Nat):∀k,rs f (m+k)=rs f m+rs (λt=>f (m+t)) k
 |0=>by rw[OQ,Qe,Int.add_zero]
 |k+1=>by rw[<-t6,KN,KN,Sk f m k,Int.add_assoc]
theorem Oo{f g:Nat->Int}{n:Nat}(h:∀t,t<n->f t=g t):rs f n=rs g n:=by unfold rs;congr 1;exact Mq λt ht=>h t (by simpa using ht)
theorem dS(h:Nat->Int):∀n,rs (λt=>h (t+1)-h t) n=h n-h 0
 |0=>by rw[Qe];omega
 |n+1=>by rw[KN,dS h n];omega
theorem Yc(f g:Nat->Int):∀n,rs (λt=>f t+g t) n=rs f n+rs g n
 |0=>rfl
 |n+1=>by rw[KN,KN,KN,Yc f g n];omega
def cs(F:Pt×Pt->Int)(l:List Pt):Int:=((Bu l).map F).sum
theorem pN(F:Pt×Pt->Int)(l:List Pt):cs F l=rs (λt=>F (qa l t,qa l (t+1))) l.length:=by
 unfold cs rs Bu;rw[LB];congr 1;refine Mq λt ht=>?_
 rw[Sv]at ht;show F (pa l t,pa l ((t+1)%l.length))=F (qa l t,qa l (t+1));rw[Jr ht];rfl
theorem ZJ{F G:Pt×Pt->Int}{φ:Pt->Int}(l:List Pt)(h:∀e,G e=F e+(φ e.2-φ e.1)):cs G l=cs F l:=by
 rw[pN,pN];have e:rs (λt=>G (qa l t,qa l (t+1))) l.length=rs (λt=>F (qa l t,qa l (t+1))+(φ (qa l (t+1))-φ (qa l t))) l.length:=Oo λt _=>h _
 rw[e,Yc (λt=>F (qa l t,qa l (t+1))) (λt=>φ (qa l (t+1))-φ (qa l t)),dS (λt=>φ (qa l t))];have:qa l l.length=qa l 0:=by have:=ID l 0;rwa [s6]at this
 rw[this];omega
def NE(a b:Pt):Int:=a.1*b.2-a.2*b.1
theorem uE(l:List Pt):Hi l=cs (λe=>NE e.1 e.2) l:=ZJ (φ:=λp=>NE p (pa l 0)) l λe=>by unfold QC Ah NE;grind
theorem lV(f:Nat->Int)(n:Nat):rs f (n+1)=f 0+rs (λt=>f (t+1)) n:=by
 have:=Sk f 1 n;rw[P9 1 n]at this;rw[this,KN,Qe];have e:rs (λt=>f (1+t)) n=rs (λt=>f (t+1)) n:=Oo λt _=>by rw[P9]
 rw[e];omega
theorem Oq(N:Nat){l:List Pt}(hl:l.length<=1000)(hs:∀p∈l,BH p){p:Pt}(hp:BH p):∀(n i:Nat)(out:Int),i<=l.length->l.length<n+i->(∃j,i<=j/\j<l.length/\α l j p<0/\CD N l p.1 p.2 n out i=some (.inr (-1)))\/((∀j,i<=j->j<l.length->0<α l j p)/\CD N l p.1 p.2 n out i=some (.inl out))\/((∀j,i<=j->j<l.length->0<=α l j p)/\(∃j,i<=j/\j<l.length/\α l j p=0)/\CD N l p.1 p.2 n out i=some (.inl 0))
 |0,i,out,h1,h2=>by omega
 |n+1,i,out,h1,h2=>by
  rw[CD];by_cases he:i=l.length
  ·subst he;rw[CT,cF];exact .inr (.inl ⟨λj a b=>by omega,rfl⟩)
  have hi:i<l.length:=by omega
  have hm:(i+1)%l.length<l.length:=uM _ (by omega);rw[Ch hi,cT,DI hi,bS];simp only;rw[Nx N hl hi,show pa l ((i+1)%l.length)=((pa l ((i+1)%l.length)).1,(pa l ((i+1)%l.length)).2)from rfl,bS];simp only;rw[QX (hs _ (AN hi)) (hs _ (AN hm)) hp,bS,show Ah (pa l i) (pa l ((i+1)%l.length)) p=α l i p from rfl];by_cases c1:α l i p<0
  ·rw[dC c1,cT];exact .inl ⟨i,fA _,hi,c1,rfl⟩
  rw[dJ c1,cF];by_cases c2:α l i p=0
  ·rw[dC c2,cT,Aa (by unfold Ab;omega),<-ns];rcases Oq N hl hs hp n (i+1) 0 (by omega) (by omega)with⟨j,a,b,c,d⟩|⟨a,b⟩|⟨a,⟨j,b,c,d⟩,e⟩
   ·exact .inl ⟨j,by omega,b,c,d⟩
   ·refine .inr (.inr ⟨λj h1 h2=>?_,⟨i,fA _,hi,c2⟩,b⟩);by_cases q:j=i
    ·rw[q];omega
    ·exact zX (a j (by omega) h2)
   ·refine .inr (.inr ⟨λj h1 h2=>?_,⟨i,fA _,hi,c2⟩,e⟩);by_cases q:j=i
    ·rw[q];omega
    ·exact a j (by omega) h2
  ·rw[dJ c2,cF,Aa (by unfold Ab;omega),<-ns];rcases Oq N hl hs hp n (i+1) out (by omega) (by omega)with⟨j,a,b,c,d⟩|⟨a,b⟩|⟨a,⟨j,b,c,d⟩,e⟩
   ·exact .inl ⟨j,by omega,b,c,d⟩
   ·refine .inr (.inl ⟨λj h1 h2=>?_,b⟩);by_cases q:j=i
    ·rw[q];omega
    ·exact a j (by omega) h2
   ·refine .inr (.inr ⟨λj h1 h2=>?_,⟨j,by omega,c,d⟩,e⟩);by_cases q:j=i
    ·rw[q];omega
    ·exact a j (by omega) h2
theorem lW{N:Nat}{l:List Pt}(hN:l.length<N)(hl:l.length<=1000)(hs:∀p∈l,BH p){p:Pt}(hp:BH p):DJ N l p.1 p.2=some (sd l p):=by
 unfold DJ;have:=Oq N hl hs hp N 0 1 (by omega) (by omega);rw[mK]at this;rcases this with⟨j,a,b,c,d⟩|⟨a,b⟩|⟨a,⟨j,b,c,d⟩,e⟩
 ·rw[d,bS];simp only;congr 1;rcases lI l p with q|q|q
  ·have:=(zJ.1 q) j b;omega
  ·have:=(Pp.1 q).1 j b;omega
  ·exact q.symm
 ·rw[b,bS];simp only;rw[zJ.2 λi hi=>a i (by omega) hi]
 ·rw[e,bS];simp only;rw[Pp.2 ⟨λi hi=>a i (by omega) hi,λq=>by have:=q j c;omega⟩]
theorem AbX(F:Pt×Pt->Int)(l:List Pt):cs F l=rs (λj=>F (pa l j,pa l ((j+1)%l.length))) l.length:=by unfold cs rs Bu;rw[LB];rfl
theorem dU{a b:Int}(ha:0<=a/\a<=40)(hb:0<=b/\b<=40):0<=a*b/\a*b<=1600:=by have h1:=mM ha.1 hb.1;have h2:=mM (show 0<=40-a by omega) hb.1;rw[Int.sub_mul]at h2;omega
theorem Sl(N:Nat){l:List Pt}(h:VP l):∀(n i:Nat)(out:Int),i<=l.length->l.length<n+i->(-4000*i<=out/\out<=4000*i)->Eg N l n out i=some (out+rs (λt=>NE (pa l (i+t)) (pa l ((i+t+1)%l.length))) (l.length-i))
 |0,i,out,h1,h2,hb=>by omega
 |n+1,i,out,h1,h2,hb=>by
  have l8:=h.l8;rw[Eg];by_cases he:i=l.length
  ·subst he;rw[CT,cF,X2,Qe,Int.add_zero]
  have hi:i<l.length:=by omega
  have hm:(i+1)%l.length<l.length:=uM _ (by omega);have o1:=h.on _ (AN hi);have o2:=h.on _ (AN hm);unfold On at o1 o2;have b1:=dU o1.1 o2.2;have b2:=dU o1.2 o2.1;rw[Ch hi,cT,DI hi,bS];simp only;rw[Nx N (by omega) hi,show pa l ((i+1)%l.length)=((pa l ((i+1)%l.length)).1,(pa l ((i+1)%l.length)).2)from rfl,bS];simp only;rw[Aa (by unfold Ab;omega),Aa (by unfold Ab;omega),Aa (by unfold Ab;omega),Aa (by unfold Ab;omega),Aa (by unfold Ab;omega),<-ns,Sl N h n (i+1) _ (by omega) (by omega) (by omega)];congr 1;rw[show l.length-i=(l.length-(i+1))+1 by omega,lV];simp only[OQ];have e:rs (λt=>NE (pa l (i+(t+1))) (pa l ((i+(t+1)+1)%l.length))) (l.length-(i+1))=rs (λt=>NE (pa l (i+1+t)) (pa l ((i+1+t+1)%l.length))) (l.length-(i+1)):=Oo λt _=>by rw[show i+(t+1)=i+1+t by omega]
  rw[e];unfold NE;omega
theorem Yd{N:Nat}(hN:100<=N){l:List Pt}(h:VP l):Es N l=some (Hi l):=by unfold Es;have l8:=h.l8;have:=Sl N h N 0 0 (by omega) (by omega) (by omega);simp only[mK,s6,TU,X3]at this;rw[D3 hN,I3.2 h,bS,Az _ (by rfl),this,bS,uE,AbX]
theorem dV{N:Nat}(hN:100<=N)(l:List Pt):∃r,GA N l=some r/\Es N l=some r:=by
 by_cases h:VP l
 ·exact⟨_,X5 hN h,Yd hN h⟩
 ·unfold GA Es;rw[F5 hN,D3 hN,Ia.2 h,bS,bS];exact⟨0,by rw[AG _ (by rfl)],by rw[AG _ (by rfl)]⟩
theorem dW{N:Nat}(hN:100<=N){l:List Pt}(h:VP l){x y:Nat}(hx:x<=40)(hy:y<=40):DJ N l x y=some (sd l ((x:Int),(y:Int))):=by have l8:=h.l8;exact lW (p:=((x:Int),(y:Int))) (by omega) (by omega) h.sml (by unfold BH;simp only;omega)
theorem Sm(N:Nat){l:List Pt}(hl:l.length<=1000)(hs:∀p∈l,BH p){d:Pt}(hd:BH d):∀(n i:Nat)(out:List Pt),i<=l.length->l.length<n+i->out=(l.take i).map (mv d)->EB N l d.1 d.2 n i out=some (l.map (mv d))
 |0,i,out,h1,h2,_=>by omega
 |n+1,i,out,h1,h2,ho=>by
  rw[EB];by_cases he:i=l.length
  ·subst he;rw[CT,cF,ho,Wq]
  have hi:i<l.length:=by omega
  have hp:=hs _ (AN hi);have ol:out.length=i:=by rw[ho];simp;omega
  have hd':=hd;unfold BH at hp hd';rw[Ch hi,cT,DI hi,bS];simp only;rw[Aa (by unfold Ab;omega),Aa (by unfold Ab;omega),Aa (by omega),Aa (by unfold Ab;omega),<-ns];refine Sm N hl hs hd n (i+1) _ (by omega) (by omega) ?_;rw[Pq hi,w9,List.map_singleton,<-D2 hi,ho];rfl
open Classical in
theorem TV{N:Nat}(hN:100<=N)(l:List Pt)(dx dy:Int):∃r,Gf N l dx dy=some r/\DX N l dx dy=some r/\r.1.length<=8:=by
 by_cases h:VP l
 ·have l8:=h.l8;by_cases hd:Pr (dx,dy)
  ·refine⟨_,X9 hN h hd,?_,?_⟩
   ·unfold DX;unfold Pr at hd;simp only at hd;have hc:=Sm N (by omega) h.sml (d:=(dx,dy)) (by unfold BH;simp only;omega) N 0 [] (by omega) (by omega) (by simp);rw[mK]at hc;simp only at hc;rw[D3 hN,I3.2 h,bS,Az _ (by simp;omega),hc,bS,D3 hN,bS];by_cases ho:∀p∈l,On (mv (dx,dy) p)
    ·rw[eX ho,I3.2 (oZ (dx,dy) h ho),Az _ (by rfl)]
    ·rw[eW ho,Ia.2 (λq=>ho λp hp=>q.on _ (tI.2 ⟨p,hp,rfl⟩)),AG _ (by rfl)]
   ·split
    ·simp only[p9];exact l8
    ·simp
  ·unfold Pr at hd;simp only at hd;refine⟨([],70),?_,?_,by simp⟩
   ·unfold Gf;rw[Jq hN h,bS,AG _ (by simp;omega)]
   ·unfold DX;rw[D3 hN,I3.2 h,bS,AG _ (by simp;omega)]
 ·refine⟨([],70),?_,?_,by simp⟩
  ·unfold Gf;rw[F5 hN,Ia.2 h,bS,AG _ (by rfl)]
  ·unfold DX;rw[D3 hN,Ia.2 h,bS,AG _ (by rfl)]
theorem I5(l:List Pt):(A1 l).length=l.length:=by unfold A1;simp
theorem Sn{l:List Pt}{i:Nat}(h:i<l.length):(A1 l).drop i=Hb l i::(A1 l).drop (i+1):=by rw[mL (by rw[I5];exact h)];congr 1;unfold A1;simp
theorem ZK{p q:Pt}(hp:On p)(hq:On q):(-40<=(IG p q).1/\(IG p q).1<=40)/\(-40<=(IG p q).2.1/\(IG p q).2.1<=40)/\(-1600<=(q.2-p.2)*p.1/\(q.2-p.2)*p.1<=1600)/\(-1600<=(q.1-p.1)*p.2/\(q.1-p.1)*p.2<=1600):=by
 unfold On at hp hq;have m:∀u v:Int,-40<=u->u<=40->0<=v->v<=40->-1600<=u*v/\u*v<=1600:=λu v a b c d=>by have k1:=mM (show 0<=u+40 by omega) c;have k2:=mM (show 0<=40-u by omega) c;rw[Int.add_mul]at k1;rw[Int.sub_mul]at k2;omega
 have m1:=m (q.2-p.2) p.1 (by omega) (by omega) (by omega) (by omega);have m2:=m (q.1-p.1) p.2 (by omega) (by omega) (by omega) (by omega);unfold IG;simp only;omega
theorem pP(N:Nat){l:List Pt}(h:VP l):∀(n i:Nat)(out:List B5),i<=l.length->l.length<n+i->out.length<=100+i->DP N l n i out=some (out++(A1 l).drop i)
 |0,i,out,h1,h2,_=>by omega
 |n+1,i,out,h1,h2,ho=>by
  have l8:=h.l8;rw[DP];by_cases he:i=l.length
  ·subst he;rw[CT,cF,List.drop_of_length_le (by rw[I5];omega),qF]
  have hi:i<l.length:=by omega
  have hm:(i+1)%l.length<l.length:=uM _ (by omega);have op:=h.on _ (AN hi);have oq:=h.on _ (AN hm);have k:=ZK op oq;have oq':=oq;have op':=op;unfold On at op' oq';rw[Ch hi,cT,DI hi,bS];simp only;rw[Nx N (by omega) hi,show pa l ((i+1)%l.length)=((pa l ((i+1)%l.length)).1,(pa l ((i+1)%l.length)).2)from rfl,bS];simp only;rw[Aa (by unfold Ab;omega),Aa (by unfold Ab;omega),Aa (by unfold Ab;omega),Aa (by unfold Ab;omega),Aa (by unfold Ab;omega),Aa (by unfold Ab;omega),Aa (by unfold Ab;omega),Aa (by omega),Aa (by unfold Ab;omega),<-ns];rw[pP N h n (i+1) _ (by omega) (by omega) (by simp;omega),Sn hi,qV];rfl
theorem pQ(N:Nat){l:List Pt}(h:VP l):∀(n i:Nat)(out:List B5),i<=l.length->l.length<n+i->out.length<=100+i->DQ N l n i out=some (out++(A1 l).drop i)
 |0,i,out,h1,h2,_=>by omega
 |n+1,i,out,h1,h2,ho=>by
  have l8:=h.l8;rw[DQ];by_cases he:i=l.length
  ·subst he;rw[CT,cF,List.drop_of_length_le (by rw[I5];omega),qF]
  have hi:i<l.length:=by omega
  have hm:(i+1)%l.length<l.length:=uM _ (by omega);have op:=h.on _ (AN hi);have oq:=h.on _ (AN hm);have k:=ZK op oq;have oq':=oq;have op':=op;unfold On at op' oq';rw[Ch hi,cT,DI hi,bS];simp only;rw[Nx N (by omega) hi,show pa l ((i+1)%l.length)=((pa l ((i+1)%l.length)).1,(pa l ((i+1)%l.length)).2)from rfl,bS];simp only;rw[Aa (by unfold Ab;omega),Aa (by unfold Ab;omega),Aa (by unfold Ab;omega),Aa (by unfold Ab;omega),Aa (by unfold Ab;omega),Aa (by unfold Ab;omega),Aa (by unfold Ab;omega),Aa (by omega),Aa (by unfold Ab;omega),<-ns];rw[pQ N h n (i+1) _ (by omega) (by omega) (by simp;omega),Sn hi,qV];rfl
def Ln(L:B5):Prop:=(-40<=L.1/\L.1<=40)/\(-40<=L.2.1/\L.2.1<=40)/\(-3200<=L.2.2/\L.2.2<=3200)
def Pl(P:B5):Prop:=(-256000<=P.1/\P.1<=256000)/\(-256000<=P.2.1/\P.2.1<=256000)/\(-3200<=P.2.2/\P.2.2<=3200)
theorem IO{a b:Int}(p q:Int)(hp:0<=p)(hq:0<=q)(h1: -p<=a/\a<=p)(h2: -q<=b/\b<=q): -(p*q)<=a*b/\a*b<=p*q:=by have k1:=mM (show 0<=p-a by omega) (show 0<=q+b by omega);have k2:=mM (show 0<=p+a by omega) (show 0<=q-b by omega);have k3:=mM (show 0<=p-a by omega) (show 0<=q-b by omega);have k4:=mM (show 0<=p+a by omega) (show 0<=q+b by omega);constructor<;>grind
theorem pU{l:List Pt}(h:VP l){i:Nat}(hi:i<l.length):Ln (Hb l i):=by have k:=ZK (h.on _ (AN hi)) (h.on _ (AN (uM (i+1) (show 0<l.length by omega))));unfold Ln Hb;unfold IG at k⊢;simp only at k⊢;omega
theorem Aaf{a b:List Pt}(ha:VP a)(hb:VP b):∀L∈A1 a++A1 b,Ln L:=λL hL=>by
 rcases lO.1 hL with h|h
 ·obtain⟨i,hi,rfl⟩:=G0.1 h;exact pU ha hi
 ·obtain⟨i,hi,rfl⟩:=G0.1 h;exact pU hb hi
theorem AdA{L P:B5}(hL:Ln L)(hP:Pl P):(-10240000<=L.1*P.1/\L.1*P.1<=10240000)/\(-10240000<=L.2.1*P.2.1/\L.2.1*P.2.1<=10240000)/\(-10240000<=L.2.2*P.2.2/\L.2.2*P.2.2<=10240000):=⟨IO 40 256000 (by omega) (by omega) hL.1 hP.1,IO 40 256000 (by omega) (by omega) hL.2.1 hP.2.1,IO 3200 3200 (by omega) (by omega) hL.2.2 hP.2.2⟩
section
variable{A B Ls:List B5}
open Classical in
theorem dX(N:Nat)(hLs:A++B=Ls)(hA:∀L∈Ls,Ln L)(hl:Ls.length<=1000){P:B5}(hP:Pl P):∀(n i:Nat)(c:Bool),i<=Ls.length->Ls.length<n+i->DF N A B P.1 P.2.1 P.2.2 n c i=some (c&&decide (∀k,i<=k->k<Ls.length->0<=BE (ga Ls k) P))
 |0,i,c,h1,h2=>by omega
 |n+1,i,c,h1,h2=>by
  rw[DF,hLs];by_cases he:i=Ls.length
  ·subst he;rw[CT,cF,dC (show∀k,Ls.length<=k->k<Ls.length->0<=BE (ga Ls k) P from λk a b=>by omega),Wk]
  have hi:i<Ls.length:=by omega
  have e:=AdA (hA _ (IH hi)) hP;have eg:Ls.getD (i:Int).toNat (0,0,0)=ga Ls i:=by rw[uS];rfl
  rw[Ch hi,cT,eg];rw[Aa (λ_=>⟨by omega,by omega⟩),Aa (λ_=>⟨by omega,by omega⟩),Aa (λ_=>by unfold Ab;omega),Aa (λ_=>⟨by omega,by omega⟩),Aa (λ_=>⟨by omega,by omega⟩),Aa (λ_=>by unfold Ab;omega),Aa (λ_=>by unfold Ab;omega),Aa (λ_=>⟨by omega,by omega⟩),Aa (λ_=>⟨by omega,by omega⟩),Aa (λ_=>by unfold Ab;omega),Aa (λ_=>by unfold Ab;omega),Aa (by unfold Ab;omega),<-ns];rw[dX N hLs hA hl hP n (i+1) _ (by omega) (by omega),Bool.and_assoc];congr 2;rw[Sw,lP,eR,eR,eR];constructor
  ·rintro⟨h1,h2⟩ k a b;by_cases q:k=i
   ·rw[q];exact h1
   ·exact h2 k (by omega) b
  ·intro h;exact⟨h i (by omega) hi,λk a b=>h k (by omega) b⟩
def pW(Ls:List B5)(i k:Nat)(P:B5):Prop:=(J2 (ga Ls i) (ga Ls k)).2.2≠0/\P=J3 (J2 (ga Ls i) (ga Ls k))/\∀L∈Ls,0<=BE L P
theorem Aag{L M:B5}(hL:Ln L)(hM:Ln M):((-128000<=L.2.1*M.2.2/\L.2.1*M.2.2<=128000)/\(-128000<=M.2.1*L.2.2/\M.2.1*L.2.2<=128000))/\((-128000<=L.2.2*M.1/\L.2.2*M.1<=128000)/\(-128000<=M.2.2*L.1/\M.2.2*L.1<=128000))/\(-1600<=L.1*M.2.1/\L.1*M.2.1<=1600)/\(-1600<=M.1*L.2.1/\M.1*L.2.1<=1600):=⟨⟨IO 40 3200 (by omega) (by omega) hL.2.1 hM.2.2,IO 40 3200 (by omega) (by omega) hM.2.1 hL.2.2⟩,⟨IO 3200 40 (by omega) (by omega) hL.2.2 hM.1,IO 3200 40 (by omega) (by omega) hM.2.2 hL.1⟩,IO 40 40 (by omega) (by omega) hL.1 hM.2.1,IO 40 40 (by omega) (by omega) hM.1 hL.2.1⟩
theorem pX{L M:B5}(hL:Ln L)(hM:Ln M):Pl (J3 (J2 L M)):=by have b:=Aag hL hM;unfold Pl J3 pJ J2;split<;>simp only<;>omega
theorem Pw{i:Nat}(h:i<Ls.length):AA Ls (i:Int)=some ((ga Ls i).1,(ga Ls i).2.1,(ga Ls i).2.2):=by rw[Km (0,0,0) (by omega) (by omega),uS];rfl
open Classical in
theorem So{N:Nat}(hN:1001<=N)(hLs:A++B=Ls)(hA:∀L∈Ls,Ln L)(hl:Ls.length<=1000){i:Nat}(hi:i<Ls.length):∀(n k:Nat)(out:List B5),k<=Ls.length->Ls.length<n+k->out.length<=1000000+k->∃r,Cx N A B i n k out=some r/\r.length<=out.length+(Ls.length-k)/\∀P,P∈r↔P∈out\/∃j,k<=j/\j<Ls.length/\pW Ls i j P
 |0,k,out,h1,h2,_=>by omega
 |n+1,k,out,h1,h2,ho=>by
  rw[Cx,hLs];by_cases he:k=Ls.length
  ·subst he;refine⟨out,by rw[CT,cF],by omega,λP=>⟨.inl,?_⟩⟩;rintro(h|⟨j,a,b,_⟩)
   ·exact h
   ·omega
  have hk:k<Ls.length:=by omega
  have lL:=hA _ (IH hi);have lM:=hA _ (IH hk);have b:=Aag lL lM;have w_:(J2 (ga Ls i) (ga Ls k)).2.2=(ga Ls i).1*(ga Ls k).2.1-(ga Ls k).1*(ga Ls i).2.1:=rfl;rw[Ch hk,cT,Pw hi,bS];simp only;rw[Pw hk,bS];simp only;rw[Aa (by unfold Ab;omega),Aa (by unfold Ab;omega),Aa (by unfold Ab;omega),Aa (by unfold Ab;omega),Aa (by unfold Ab;omega),Aa (by unfold Ab;omega),Aa (by unfold Ab;omega),Aa (by unfold Ab;omega),Aa (by unfold Ab;omega)];by_cases hw:(ga Ls i).1*(ga Ls k).2.1-(ga Ls k).1*(ga Ls i).2.1=0
  ·rw[dC hw,cT,Aa (by unfold Ab;omega),<-ns];obtain⟨r,er,hr,h⟩:=So hN hLs hA hl hi n (k+1) out (by omega) (by omega) (by omega);refine⟨r,er,by omega,λP=>?_⟩;rw[h P];constructor
   ·rintro(q|⟨j,a,b,c⟩)
    ·exact .inl q
    ·exact .inr ⟨j,by omega,b,c⟩
   ·rintro(q|⟨j,a,b,c⟩)
    ·exact .inl q
    ·by_cases q:j=k
     ·subst q;exact absurd (w_.trans hw) c.1
     ·exact .inr ⟨j,by omega,b,c⟩
  have eP:(bif decide ((ga Ls i).1*(ga Ls k).2.1-(ga Ls k).1*(ga Ls i).2.1<0)then(
      gd (Ab (-((ga Ls i).2.1*(ga Ls k).2.2-(ga Ls k).2.1*(ga Ls i).2.2)))<|gd (Ab (-((ga Ls i).2.2*(ga Ls k).1-(ga Ls k).2.2*(ga Ls i).1)))<|gd (Ab (-((ga Ls i).1*(ga Ls k).2.1-(ga Ls k).1*(ga Ls i).2.1)))<|some (-((ga Ls i).2.1*(ga Ls k).2.2-(ga Ls k).2.1*(ga Ls i).2.2),-((ga Ls i).2.2*(ga Ls k).1-(ga Ls k).2.2*(ga Ls i).1),-((ga Ls i).1*(ga Ls k).2.1-(ga Ls k).1*(ga Ls i).2.1)))
     else(
      some ((ga Ls i).2.1*(ga Ls k).2.2-(ga Ls k).2.1*(ga Ls i).2.2,(ga Ls i).2.2*(ga Ls k).1-(ga Ls k).2.2*(ga Ls i).1,(ga Ls i).1*(ga Ls k).2.1-(ga Ls k).1*(ga Ls i).2.1)):Option B5)=some (J3 (J2 (ga Ls i) (ga Ls k))):=by
   by_cases hn:(ga Ls i).1*(ga Ls k).2.1-(ga Ls k).1*(ga Ls i).2.1<0
   ·rw[dC hn,cT,Aa (by unfold Ab;omega),Aa (by unfold Ab;omega),Aa (by unfold Ab;omega)];unfold J3;rw[eX (by rw[w_];exact hn)];rfl
   ·rw[dJ hn,cF];unfold J3;rw[eW (by rw[w_];exact hn)];rfl
  rw[dJ hw,cF,eP];have pl:=pX lL lM;generalize eQ:J3 (J2 (ga Ls i) (ga Ls k))=Q at*;rw[show(some Q:Option B5)=some (Q.1,Q.2.1,Q.2.2)from rfl,bS];simp only;have q24:=dX N hLs hA hl pl N 0 true (by omega) (by omega);rw[mK]at q24;rw[q24,bS];have mem:(∀j,0<=j->j<Ls.length->0<=BE (ga Ls j) Q)↔∀L∈Ls,0<=BE L Q:=by
   constructor
   ·intro h L hL;obtain⟨j,hj,rfl⟩:=Qd hL;exact h j (by omega) hj
   ·intro h j _ hj;exact h _ (IH hj)
  by_cases hin:∀L∈Ls,0<=BE L Q
  ·rw[dC (mem.2 hin),AG _ (by rfl),Aa (by omega),Aa (by unfold Ab;omega),<-ns];obtain⟨r,er,hr,h⟩:=So hN hLs hA hl hi n (k+1) (out++[(Q.1,Q.2.1,Q.2.2)]) (by omega) (by omega) (by simp;omega);refine⟨r,er,by simp at hr;omega,λP=>?_⟩;rw[h P,lO,y9];constructor
   ·rintro((q|q)|⟨j,a,b,c⟩)
    ·exact .inl q
    ·exact .inr ⟨k,by omega,hk,by rw[w_];exact hw,by rw[eQ];exact q,by rw[q];exact hin⟩
    ·exact .inr ⟨j,by omega,b,c⟩
   ·rintro(q|⟨j,a,b,c⟩)
    ·exact .inl (.inl q)
    ·by_cases q:j=k
     ·subst q;exact .inl (.inr (by rw[<-eQ];exact c.2.1))
     ·exact .inr ⟨j,by omega,b,c⟩
  ·rw[dJ (λq=>hin (mem.1 q)),Az _ (by rfl),Aa (by unfold Ab;omega),<-ns];obtain⟨r,er,hr,h⟩:=So hN hLs hA hl hi n (k+1) out (by omega) (by omega) (by omega);refine⟨r,er,by omega,λP=>?_⟩;rw[h P];constructor
   ·rintro(q|⟨j,a,b,c⟩)
    ·exact .inl q
    ·exact .inr ⟨j,by omega,b,c⟩
   ·rintro(q|⟨j,a,b,c⟩)
    ·exact .inl q
    ·by_cases q:j=k
     ·subst q;exact absurd (by rw[<-eQ,<-c.2.1];exact c.2.2) hin
     ·exact .inr ⟨j,by omega,b,c⟩
theorem dY{N:Nat}(hN:1001<=N)(hLs:A++B=Ls)(hA:∀L∈Ls,Ln L)(hl:Ls.length<=30):∀(n i:Nat)(out:List B5),i<=Ls.length->Ls.length<n+i->out.length<=30*i->∃r,DG N A B n i out=some r/\r.length<=900/\∀P,P∈r↔P∈out\/∃g j,i<=g/\g<j/\j<Ls.length/\pW Ls g j P
 |0,i,out,h1,h2,_=>by omega
 |n+1,i,out,h1,h2,ho=>by
  rw[DG,hLs];by_cases he:i=Ls.length
  ·subst he;refine⟨out,by rw[CT,cF],by omega,λP=>⟨.inl,?_⟩⟩;rintro(h|⟨g,j,a,b,c,_⟩)
   ·exact h
   ·omega
  have hi:i<Ls.length:=by omega
  rw[Ch hi,cT,Aa (by unfold Ab;omega),<-ns];obtain⟨r,er,hr,h⟩:=So hN hLs hA (by omega) hi N (i+1) out (by omega) (by omega) (by omega);rw[er,bS,Aa (by unfold Ab;omega)];obtain⟨r2,er2,hr2,h2⟩:=dY hN hLs hA hl n (i+1) r (by omega) (by omega) (by omega);refine⟨r2,er2,hr2,λP=>?_⟩;rw[h2 P,h P];constructor
  ·rintro((q|⟨j,a,b,c⟩)|⟨g,j,a,b,c,d⟩)
   ·exact .inl q
   ·exact .inr ⟨i,j,by omega,by omega,b,c⟩
   ·exact .inr ⟨g,j,by omega,b,c,d⟩
  ·rintro(q|⟨g,j,a,b,c,d⟩)
   ·exact .inl (.inl q)
   ·by_cases q:g=i
    ·subst q;exact .inl (.inr ⟨j,by omega,c,d⟩)
    ·exact .inr ⟨g,j,by omega,b,c,d⟩
end
theorem AdB{Q R:B5}(hQ:Pl Q)(hR:Pl R):(((-819200000<=Q.2.1*R.2.2/\Q.2.1*R.2.2<=819200000)/\(-819200000<=Q.2.2*R.2.1/\Q.2.2*R.2.1<=819200000))/\((-819200000<=Q.1*R.2.2/\Q.1*R.2.2<=819200000)/\(-819200000<=Q.2.2*R.1/\Q.2.2*R.1<=819200000))/\(-65536000000<=Q.1*R.2.1/\Q.1*R.2.1<=65536000000)/\(-65536000000<=Q.2.1*R.1/\Q.2.1*R.1<=65536000000)):=⟨⟨IO 256000 3200 (by omega) (by omega) hQ.2.1 hR.2.2,IO 3200 256000 (by omega) (by omega) hQ.2.2 hR.2.1⟩,⟨IO 256000 3200 (by omega) (by omega) hQ.1 hR.2.2,IO 3200 256000 (by omega) (by omega) hQ.2.2 hR.1⟩,IO 256000 256000 (by omega) (by omega) hQ.1 hR.2.1,IO 256000 256000 (by omega) (by omega) hQ.2.1 hR.1⟩
section
variable{l:List B5}
theorem Aah{N:Nat}(hN:1001<=N)(hl:l.length<=1000)(hP:∀P∈l,Pl P){i k:Nat}(hi:i<l.length)(hk:k<l.length):(Bz N k l i N 0=some (.inl ())/\∀n,n<k->GO (ga l i) (ga l k) (ga l n)=0)\/(Bz N k l i N 0=some (.inr true)/\∃n,n<k/\GO (ga l i) (ga l k) (ga l n)≠0):=by
 have step:∀m (n:Nat),n<k->Bz N k l i (m+1) n=if GO (ga l i) (ga l k) (ga l n)≠0 then some (.inr true)else Bz N k l i m ((n+1:Nat):Int):=λm n hn=>by
  have p1:=hP _ (IH hi);have b:=AdB (hP _ (IH hk)) (hP _ (IH (show n<l.length by omega)));rw[Bz,dC (show(n:Int)<k by omega),cT,Pw hi,bS];simp only;rw[Pw hk,bS];simp only;rw[Pw (show n<l.length by omega),bS];simp only;generalize ga l i=P at*;generalize ga l k=Q at*;generalize ga l n=R at*;have m1:=IO (a:=P.1) (b:=Q.2.1*R.2.2-Q.2.2*R.2.1) 256000 1638400000 (by omega) (by omega) p1.1 (by omega);have m2:=IO (a:=P.2.1) (b:=Q.1*R.2.2-Q.2.2*R.1) 256000 1638400000 (by omega) (by omega) p1.2.1 (by omega);have m3:=IO (a:=P.2.2) (b:=Q.1*R.2.1-Q.2.1*R.1) 3200 131072000000 (by omega) (by omega) p1.2.2 (by omega);rw[Aa (by unfold Ab;omega),Aa (by unfold Ab;omega),Aa (by unfold Ab;omega),Aa (by unfold Ab;omega),Aa (by unfold Ab;omega),Aa (by unfold Ab;omega),Aa (by unfold Ab;omega),Aa (by unfold Ab;omega),Aa (by unfold Ab;omega),Aa (by unfold Ab;omega),Aa (by unfold Ab;omega),Aa (by unfold Ab;omega),Aa (by unfold Ab;omega),Aa (by unfold Ab;omega)];have e:P.1*(Q.2.1*R.2.2-Q.2.2*R.2.1)-P.2.1*(Q.1*R.2.2-Q.2.2*R.1)+P.2.2*(Q.1*R.2.1-Q.2.1*R.1)=GO P Q R:=rfl;rw[e];by_cases h:GO P Q R≠0
  ·rw[dC h,cT,eX h]
  ·rw[dJ h,cF,eW h,Aa (by unfold Ab;omega),ns]
 have key:=Hh (L:=Bz N k l i) (len:=k) (λn=>if GO (ga l i) (ga l k) (ga l n)≠0 then some true else none)
  (λm n hn hf=>by
   rw[step m n hn,eW];intro h;rw[eX h]at hf;cases hf) (λm n r hn hf=>by
   by_cases h:GO (ga l i) (ga l k) (ga l n)≠0
   ·rw[eX h]at hf;rw[step m n hn,eX h,<-yJ hf]
   ·rw[eW h]at hf;cases hf) (λm=>by
   rw[Bz,dJ (by omega),cF]) N (by omega)
 rcases key with⟨e,h⟩|⟨j,r,a2,a3,a4,e⟩
 ·refine .inl ⟨e,λn hn=>?_⟩;have:=h n hn;by_cases q:GO (ga l i) (ga l k) (ga l n)≠0
  ·rw[eX q]at this;cases this
  ·omega
 ·by_cases q:GO (ga l i) (ga l k) (ga l j)≠0
  ·rw[eX q]at a3;rw[<-yJ a3]at e;exact .inr ⟨e,j,a2,q⟩
  ·rw[eW q]at a3;cases a3
theorem Aai{N:Nat}(hN:1001<=N)(hl:l.length<=1000)(hP:∀P∈l,Pl P){i:Nat}(hi:i<l.length):(B2 N i l N 0=some (.inl ())/\∀k,k<i->∀n,n<k->GO (ga l i) (ga l k) (ga l n)=0)\/(B2 N i l N 0=some (.inr true)/\∃k n,k<i/\n<k/\GO (ga l i) (ga l k) (ga l n)≠0):=by
 have:∀m (k:Nat),k<=i->i<m+k->(B2 N i l m k=some (.inl ())/\∀j,k<=j->j<i->∀n,n<j->GO (ga l i) (ga l j) (ga l n)=0)\/(B2 N i l m k=some (.inr true)/\∃j n,j<i/\n<j/\GO (ga l i) (ga l j) (ga l n)≠0):=by
  intro m;induction m with
  |zero=>intro k a b;omega
  |succ m ih=>
   intro k a b;rw[B2];by_cases he:k=i
   ·subst he;exact .inl ⟨by rw[dJ (by omega),cF],λj a b=>by omega⟩
   rw[dC (show(k:Int)<i by omega),cT];rcases Aah hN hl hP hi (show k<l.length by omega)with⟨e,h⟩|⟨e,n,hn,h⟩
   ·rw[e,bS];simp only;rw[Aa (by unfold Ab;omega),<-ns];rcases ih (k+1) (by omega) (by omega)with⟨e2,h2⟩|h2
    ·refine .inl ⟨e2,λj a b=>?_⟩;by_cases q:j=k
     ·rw[q];exact h
     ·exact h2 j (by omega) b
    ·exact .inr h2
   ·rw[e,bS];simp only;exact .inr ⟨yT,k,n,by omega,hn,h⟩
 rcases this N 0 (by omega) (by omega)with⟨e,h⟩|h
 ·exact .inl ⟨e,λk hk=>h k (by omega) hk⟩
 ·exact .inr h
theorem Aaj{N:Nat}(hN:1001<=N)(hl:l.length<=1000)(hP:∀P∈l,Pl P):(B3 N l N 0=some (.inl ())/\∀i,i<l.length->∀k,k<i->∀n,n<k->GO (ga l i) (ga l k) (ga l n)=0)\/(B3 N l N 0=some (.inr true)/\∃i k n,i<l.length/\k<i/\n<k/\GO (ga l i) (ga l k) (ga l n)≠0):=by
 have:∀m (k:Nat),k<=l.length->l.length<m+k->(B3 N l m k=some (.inl ())/\∀i,k<=i->i<l.length->∀j,j<i->∀n,n<j->GO (ga l i) (ga l j) (ga l n)=0)\/(B3 N l m k=some (.inr true)/\∃i j n,i<l.length/\j<i/\n<j/\GO (ga l i) (ga l j) (ga l n)≠0):=by
  intro m;induction m with
  |zero=>intro k a b;omega
  |succ m ih=>
   intro k a b;rw[B3];by_cases he:k=l.length
   ·subst he;exact .inl ⟨by rw[CT,cF],λj a b=>by omega⟩
   have hk:k<l.length:=by omega
   rw[Ch hk,cT];rcases Aai hN hl hP hk with⟨e,h⟩|⟨e,j,n,hj,hn,h⟩
   ·rw[e,bS];simp only;rw[Aa (by unfold Ab;omega),<-ns];rcases ih (k+1) (by omega) (by omega)with⟨e2,h2⟩|h2
    ·refine .inl ⟨e2,λj a b=>?_⟩;by_cases q:j=k
     ·rw[q];exact h
     ·exact h2 j (by omega) b
    ·exact .inr h2
   ·rw[e,bS];simp only;exact .inr ⟨yT,k,j,n,hk,hj,hn,h⟩
 rcases this N 0 (by omega) (by omega)with⟨e,h⟩|h
 ·exact .inl ⟨e,λk hk=>h k (by omega) hk⟩
 ·exact .inr h
theorem V0(P Q R:B5):GO Q P R= -GO P Q R:=by unfold GO;grind
theorem V1(P Q R:B5):GO P R Q= -GO P Q R:=by unfold GO;grind
theorem lX{i k n:Nat}(hi:i<l.length)(hk:k<l.length)(hn:n<l.length)(h:GO (ga l i) (ga l k) (ga l n)≠0):∃x y z,x<l.length/\y<x/\z<y/\GO (ga l x) (ga l y) (ga l z)≠0:=by
 have s1:=V0 (ga l i) (ga l k) (ga l n);have s2:=V1 (ga l i) (ga l k) (ga l n);have s3:=V1 (ga l k) (ga l i) (ga l n);have s4:=V0 (ga l i) (ga l n) (ga l k);have s5:=V1 (ga l n) (ga l i) (ga l k);have n1:i≠k:=λq=>by subst q;omega
 have n2:k≠n:=λq=>by subst q;omega
 have n3:i≠n:=λq=>by subst q;have:=V0 (ga l i) (ga l k) (ga l i);omega
 by_cases a:k<i<;>by_cases b:n<k<;>by_cases c:n<i
 ·exact⟨i,k,n,hi,a,b,h⟩
 ·omega
 ·exact⟨i,n,k,hi,c,by omega,by omega⟩
 ·exact⟨n,i,k,hn,by omega,a,by omega⟩
 ·exact⟨k,i,n,hk,by omega,c,by omega⟩
 ·exact⟨k,n,i,hk,b,by omega,by omega⟩
 ·omega
 ·exact⟨n,k,i,hn,by omega,by omega,by omega⟩
end
open Classical in
theorem V2{N:Nat}(hN:1001<=N){a b:List Pt}(ha:VP a)(hb:VP b):BY N a b=some (decide (¬apart a b)):=by
 have a8:=ha.l8;have b8:=hb.l8;unfold BY;rw[D3 (by omega),D3 (by omega),I3.2 ha,I3.2 hb,bS,Aa (λ_=>fD),mN,Az _ (by rfl)];have e2:=pP N ha N 0 [] (by omega) (by omega) (by simp);have e4:=pQ N hb N 0 [] (by omega) (by omega) (by simp);rw[mK,nJ,uP]at e2 e4;rw[e2,bS,e4,bS,Aa (by rw[I5,I5];omega)];have len:(A1 a++A1 b).length=a.length+b.length:=by rw[fF,I5,I5]
 have lnA:=Aaf ha hb;obtain⟨r,er,hr,hm⟩:=dY (N:=N) hN (A:=A1 a) (B:=A1 b) rfl lnA (by omega) N 0 [] (by omega) (by omega) (by simp);rw[mK]at er;rw[er,bS];have mem:∀P,P∈r↔Cmn (A1 a++A1 b) P:=λP=>by
  rw[hm P];constructor
  ·rintro(q|⟨g,j,_,x,y,z⟩)
   ·simp at q
   ·exact⟨g,j,x,y,z⟩
  ·rintro⟨g,j,x,y,z⟩;exact .inr ⟨g,j,by omega,x,y,z⟩
 have pl:∀P∈r,Pl P:=λP hP=>by obtain⟨i,k,x,y,z,e,_⟩:=(mem P).1 hP;rw[e];exact pX (lnA _ (IH (by omega))) (lnA _ (IH y))
 rcases Aaj hN (by omega) pl with⟨e,h⟩|⟨e,i,k,n,hi,hk,hn,h⟩
 ·rw[e,bS];simp only;rw[dJ];intro hap;obtain⟨P,Q,R,hP,hQ,hR,hd⟩:=dO ha hb hap;obtain⟨i,hi,rfl⟩:=Qd ((mem P).2 hP);obtain⟨k,hk,rfl⟩:=Qd ((mem Q).2 hQ);obtain⟨n,hn,rfl⟩:=Qd ((mem R).2 hR);obtain⟨x,y,z,h1,h2,h3,h4⟩:=lX hi hk hn hd;exact h4 (h x h1 y h2 z h3)
 ·rw[e,bS];simp only;rw[dC];intro hap;exact h (lU ha hb hap ((mem _).1 (IH hi)).inK ((mem _).1 (IH (show k<r.length by omega))).inK ((mem _).1 (IH (show n<r.length by omega))).inK)
theorem dZ{N:Nat}(hN:1001<=N){a b:List Pt}(h:¬(VP a/\VP b)):G9 N a b=some (0,0,false):=by
 unfold G9;by_cases ha:VP a
 ·have hb:¬VP b:=λq=>h ⟨ha,q⟩
  rw[F5 (by omega),F5 (by omega),I3.2 ha,Ia.2 hb,bS,Aa (λ_=>fD),AG _ (by rfl)]
 ·rw[F5 (by omega),Ia.2 ha,bS,Aa (λq=>by simp at q),AG _ (by rfl)]
open Classical in
theorem TW{N:Nat}(hN:1001<=N)(a b:List Pt):∃r,Dq N a b=some r/\BY N a b=some r:=by
 by_cases ha:VP a
 ·by_cases hb:VP b
  ·refine⟨_,LQ hN ha hb,?_⟩;rw[V2 hN ha hb];congr 1;rw[Sw,eR,zT,<-XZ,LY]
  ·refine⟨false,?_,?_⟩
   ·unfold Dq;rw[dZ hN (λq=>hb q.2),bS];simp only;rw[F5 (by omega),F5 (by omega),I3.2 ha,Ia.2 hb,bS,Aa (λ_=>fD)];rfl
   ·unfold BY;rw[D3 (by omega),D3 (by omega),I3.2 ha,Ia.2 hb,bS,Aa (λ_=>fD),AG _ (by rfl)]
 ·refine⟨false,?_,?_⟩
  ·unfold Dq;rw[dZ hN (λq=>ha q.1),bS];simp only;rw[F5 (by omega),Ia.2 ha,bS,Aa (λq=>by cases q)];rfl
  ·unfold BY;rw[D3 (by omega),Ia.2 ha,bS,Aa (λq=>by simp at q),AG _ (by rfl)]
def eA(p q:Pt):Prop:=p.1<q.1\/(p.1=q.1/\p.2<q.2)
def ZZ(a b:List Pt)(p:Pt):Prop:=sd a p=0/\sd b p=0
structure InvQ(a b:List Pt)(i k:Nat)(l:List Pt):Prop where
 len:l.length<=41*i+k
 pw:l.Pairwise eA
 mem:∀p,p∈l↔∃x y:Nat,(x<i\/(x=i/\y<k))/\y<=40/\p=((x:Int),(y:Int))/\ZZ a b p
section
variable{a b:List Pt}
theorem ZL{N:Nat}(hN:100<=N)(ha:VP a)(hb:VP b){i:Nat}(hi:i<=40):∀(n k:Nat)(out:List Pt),k<=41->41<n+k->InvQ a b i k out->∃r,DR N a i b n k out=some r/\InvQ a b i 41 r
 |0,k,out,h1,h2,_=>by omega
 |n+1,k,out,h1,h2,hI=>by
  rw[DR];by_cases he:k=41
  ·subst he;exact⟨out,by rw[dJ (by omega),cF],hI⟩
  have hk:k<=40:=by omega
  have len:=hI.len;rw[dC (show(k:Int)<=40 by omega),cT,dW hN ha hi hk,bS,dW hN hb hi hk,Aa (λ_=>fD),mN];by_cases hz:ZZ a b ((i:Int),(k:Int))
  ·rw[AG _ (by rw[dC hz.1,dC hz.2];rfl),Aa (by omega),Aa (by unfold Ab;omega),<-ns];refine ZL hN ha hb hi n (k+1) _ (by omega) (by omega) ⟨by simp;omega,?_,λp=>?_⟩
   ·rw[List.pairwise_append];refine⟨hI.pw,by simp,λp hp q hq=>?_⟩;rw[y9]at hq;obtain⟨x,y,h,_,e,_⟩:=(hI.mem p).1 hp;rw[e,hq];unfold eA;simp only;omega
   ·rw[lO,y9,hI.mem p];constructor
    ·rintro(⟨x,y,h,hy,e,z⟩|e)
     ·exact⟨x,y,by omega,hy,e,z⟩
     ·exact⟨i,k,by omega,hk,e,by rw[e];exact hz⟩
    ·rintro⟨x,y,h,hy,e,z⟩;by_cases q:x=i/\y=k
     ·right;rw[e,q.1,q.2]
     ·exact .inl ⟨x,y,by omega,hy,e,z⟩
  ·rw[Az _ (by rw[w6];intro q;rw[lP,eR,eR]at q;exact hz q),Aa (by unfold Ab;omega),<-ns];refine ZL hN ha hb hi n (k+1) _ (by omega) (by omega) ⟨by omega,hI.pw,λp=>?_⟩;rw[hI.mem p];constructor
   ·rintro⟨x,y,h,hy,e,z⟩;exact⟨x,y,by omega,hy,e,z⟩
   ·rintro⟨x,y,h,hy,e,z⟩;by_cases q:x=i/\y=k
    ·rw[e,q.1,q.2]at z;exact absurd z hz
    ·exact⟨x,y,by omega,hy,e,z⟩
theorem pY{N:Nat}(hN:100<=N)(ha:VP a)(hb:VP b):∀(n i:Nat)(out:List Pt),i<=41->41<n+i->InvQ a b i 0 out->∃r,EA N a b n i out=some r/\InvQ a b 41 0 r
 |0,i,out,h1,h2,_=>by omega
 |n+1,i,out,h1,h2,hI=>by
  rw[EA];by_cases he:i=41
  ·subst he;exact⟨out,by rw[dJ (by omega),cF],hI⟩
  have hi:i<=40:=by omega
  obtain⟨r,er,hr⟩:=ZL hN ha hb hi N 0 out (by omega) (by omega) hI;rw[mK]at er;rw[dC (show(i:Int)<=40 by omega),cT,er,bS,Aa (by unfold Ab;omega),<-ns];refine pY hN ha hb n (i+1) r (by omega) (by omega) ⟨by have:=hr.len;omega,hr.pw,λp=>?_⟩;rw[hr.mem p];constructor
  ·rintro⟨x,y,h,hy,e,z⟩;exact⟨x,y,by omega,hy,e,z⟩
  ·rintro⟨x,y,h,hy,e,z⟩;exact⟨x,y,by omega,hy,e,z⟩
open Classical in
theorem AbY{N:Nat}{u w:Pt}(ha:VP a)(hN:100<=N)(hu:BH u)(hw:BH w):Cp N a u.1 u.2 w.1 w.2 N 0=some (if∃x∈a,Ah u w x<0 then .inr (((w.1,w.2),(u.1,u.2)),true)else .inl ()):=by
 have a8:=ha.l8;have step:∀n (k:Nat),k<a.length->Cp N a u.1 u.2 w.1 w.2 (n+1) k=if Ah u w (pa a k)<0 then some (.inr (((w.1,w.2),(u.1,u.2)),true))else Cp N a u.1 u.2 w.1 w.2 n ((k+1:Nat):Int):=λn k hk=>by
  rw[Cp,Ch hk,cT,DI hk,bS];simp only;rw[QX hu hw (ha.sml _ (AN hk)),bS];by_cases h:Ah u w (pa a k)<0
  ·rw[dC h,cT,eX h]
  ·rw[dJ h,cF,eW h,Aa (by unfold Ab;omega),ns]
 have key:=Hh (L:=Cp N a u.1 u.2 w.1 w.2) (len:=a.length) (λk=>if Ah u w (pa a k)<0 then some (((w.1,w.2),(u.1,u.2)),true)else none)
  (λn k hk hf=>by
   rw[step n k hk,eW];intro h;rw[eX h]at hf;cases hf) (λn k r hk hf=>by
   by_cases h:Ah u w (pa a k)<0
   ·rw[eX h]at hf;rw[step n k hk,eX h,<-yJ hf]
   ·rw[eW h]at hf;cases hf) (λn=>by
   rw[Cp,CT,cF]) N (by omega)
 rcases key with⟨e,h⟩|⟨j,r,a2,a3,a4,e⟩
 ·rw[e,eW];rintro⟨x,hx,q⟩;obtain⟨k,hk,rfl⟩:=H0 hx;have:=h k hk;rw[eX q]at this;cases this
 ·by_cases h:Ah u w (pa a j)<0
  ·rw[eX h]at a3;rw[e,<-yJ a3,eX ⟨_,AN a2,h⟩]
  ·rw[eW h]at a3;cases a3
theorem uF(ha:VP a)(hb:VP b){j t:Nat}(hj:j<a.length)(ht:t<b.length){s:Pt×Pt}(hc:F6 (pa a j,pa a ((j+1)%a.length)) (pa b t,pa b ((t+1)%b.length))=some s):On s.1/\On s.2:=by
 have h1:∀u v:Pt,On u->On v->On (lo u v)/\On (Am.hi u v)/\On (HU u v)/\On (HV u v):=λu v a b=>by unfold lo Am.hi HU HV;refine⟨?_,?_,?_,?_⟩<;>split<;>assumption
 obtain⟨_,_,_,_,es⟩:=Ps hc;have q0:=ha.on _ (AN hj);have q1:=ha.on _ (AN (uM (j+1) (show 0<a.length by omega)));have q2:=hb.on _ (AN ht);have q3:=hb.on _ (AN (uM (t+1) (show 0<b.length by omega)));have r1:=(h1 _ _ (h1 _ _ q0 q1).1 (h1 _ _ q2 q3).1).2.2.1;have r2:=(h1 _ _ (h1 _ _ q0 q1).2.1 (h1 _ _ q2 q3).2.1).2.2.2;rw[es];split
 ·exact⟨r2,r1⟩
 ·exact⟨r1,r2⟩
theorem lY(ha:VP a){u w:Pt}(hne:u≠w)(hl:∀x∈a,0<=Ah u w x):∃x∈a,0<Ah u w x:=by
 have l3:=ha.l3;by_cases h:∃x∈a,0<Ah u w x
 ·exact h
 exfalso;have z:∀x∈a,Ah u w x=0:=λx hx=>by
  have:=hl x hx;by_cases q:0<Ah u w x
  ·exact absurd ⟨x,hx,q⟩ h
  ·omega
 obtain⟨x,hx,px⟩:=KM ha (j:=0) (by omega);have m0:=AN (l:=a) (i:=0) (by omega);have m1:=AN (l:=a) (i:=(0+1)%a.length) (uM _ (by omega));have:=dG (g:=(w.2-u.2,u.1-w.1)) (p:=x) (a:=pa a 0) (b:=pa a ((0+1)%a.length)) (by rw[Ny,z _ hx,z _ m0];omega) (by rw[Ny,z _ hx,z _ m1];omega) (λe=>hne (by have e1:=congrArg Prod.fst e;have e2:=congrArg Prod.snd e;simp only at e1 e2;exact Rl (by omega) (by omega)));rw[<-G4]at this;unfold α at px;omega
open Classical in
theorem ZM{N:Nat}(hN:1001<=N)(ha:VP a)(hb:VP b):DW N a b=some (Fu a b):=by
 unfold DW;have a8:=ha.l8;rw[D3 (by omega),D3 (by omega),I3.2 ha,I3.2 hb,bS,Aa (λ_=>fD),V2 hN ha hb,Aa (λ_=>fD),mN,mN];by_cases hap:apart a b
 case neg=>rw[dC hap,AG _ (by rfl)];unfold Fu;rw[eW hap]
 rw[dJ (λq=>q hap),Az _ (by rfl)];obtain⟨r,er,hr⟩:=pY (N:=N) (by omega) ha hb N 0 [] (by omega) (by omega) ⟨by simp,by simp,λp=>⟨by simp,by rintro⟨x,y,h,_⟩;omega⟩⟩;rw[mK]at er;rw[er,bS];have mem:∀p,p∈r↔On p/\ZZ a b p:=λp=>by
  rw[hr.mem p];constructor
  ·rintro⟨x,y,h,hy,e,z⟩;refine⟨?_,z⟩;rw[e];exact onN (by omega) hy
  ·rintro⟨ho,z⟩;unfold On at ho;exact⟨p.1.toNat,p.2.toNat,by omega,by omega,Rl (by simp only;omega) (by simp only;omega),z⟩
 have two:∀p q,p∈r->q∈r->p≠q->∃e∈Bu a,∃f∈Bu b,∃s,F6 e f=some s:=λp q hp hq hne=>by obtain⟨op,zp⟩:=(mem p).1 hp;obtain⟨oq,zq⟩:=(mem q).1 hq;exact lR ha hb hap hne ⟨(Pp.1 zp.1).1,(Pp.1 zp.2).1⟩ ⟨(Pp.1 zq.1).1,(Pp.1 zq.2).1⟩ op.sml oq.sml
 cases h:Gv a b with
 |none=>
  have e1:Fu a b=((((0,0),(0,0)),false)):=by unfold Fu;rw[eX hap,h]
  rw[e1];have:r.length<2:=by
   have pw:=hr.pw
   match r,pw,two with
   |[],_,_=>simp
   |[_],_,_=>simp
   |p::q::r,pw,two=>exfalso;rw[yI]at pw;have hx:=pw.1 q (by simp);obtain⟨e,he,f,hf,s,hc⟩:=two p q (by simp) (by simp) (λw=>by rw[w]at hx;unfold eA at hx;omega);rw[Om h he hf]at hc;cases hc
  rw[AG _ (by simp;omega)]
 |some s=>
  have e1:Fu a b=(s,true):=by unfold Fu;rw[eX hap,h]
  rw[e1];obtain⟨j,t,hj,ht,hc⟩:=Kv h;obtain⟨ok,_,_,_,_⟩:=ND ha hb hap hj ht hc;obtain⟨o1,o2⟩:=uF ha hb hj ht hc;have mem2:∀p,p∈r↔On p/\(Ah s.1 s.2 p=0/\Lq s.1 s.2 p):=λp=>by rw[mem p,<-ok.on p];unfold ZZ;rw[Pp,Pp]
  have bt:Lq s.1 s.2 s.1/\Lq s.1 s.2 s.2:=by
   rcases Ik s.1 s.2 with q|q
   ·exact⟨.inl ⟨B4 _,q⟩,.inl ⟨q,B4 _⟩⟩
   ·exact⟨.inr ⟨q,B4 _⟩,.inr ⟨B4 _,q⟩⟩
  have m1:=(mem2 s.1).2 ⟨o1,E7 _ _,bt.1⟩;have m2:=(mem2 s.2).2 ⟨o2,D1 _ _,bt.2⟩;have l2:2<=r.length:=by
   match r,m1,m2 with
   |[],m1,_=>simp at m1
   |[x],m1,m2=>rw[y9]at m1 m2;exact absurd (m1.trans m2.symm) ok.ne
   |_::_::_,_,_=>simp
  have first:∀p∈r,BL (pa r 0) p:=λp hp=>by
   obtain⟨k,hk,rfl⟩:=H0 hp;by_cases q:k=0
   ·subst q;exact B4 _
   ·have:=L6.1 hr.pw 0 k (by omega) hk (by omega);rw[<-D2,<-D2]at this;unfold eA at this;unfold BL;omega
  have last:∀p∈r,BL p (pa r (r.length-1)):=λp hp=>by
   obtain⟨k,hk,rfl⟩:=H0 hp;by_cases q:k=r.length-1
   ·rw[q];exact B4 _
   ·have:=L6.1 hr.pw k (r.length-1) (by omega) (by omega) (by omega);rw[<-D2,<-D2]at this;unfold eA at this;unfold BL;omega
  have len:=hr.len;have mf:=AN (l:=r) (i:=0) (by omega);have ml:=AN (l:=r) (i:=r.length-1) (by omega);have n0:=DI (l:=r) (i:=0) (by omega);rw[mK]at n0;have nl:=DI (l:=r) (i:=r.length-1) (by omega);rw[show((r.length-1:Nat):Int)=(r.length:Int)-1 by omega]at nl;have bf:=((mem2 _).1 mf).2.2;have bl:=((mem2 _).1 ml).2.2;have f1:=first _ m1
  have f2:=first _ m2
  have g1:=last _ m1;have g2:=last _ m2;rw[Az _ (by simp;omega),n0,bS];simp only;rw[Aa (by unfold Ab;omega),nl,bS];simp only;rw[AbY ha (by omega) ((mem2 _).1 mf).1.sml ((mem2 _).1 ml).1.sml,bS];rcases Ik s.1 s.2 with q|q
  ·have x1:pa r 0=s.1:=by
    rcases bf with⟨a,b⟩|⟨a,b⟩
    ·exact BS f1 a
    ·exact BS f1 (BF q a)
   have x2:pa r (r.length-1)=s.2:=by
    rcases bl with⟨a,b⟩|⟨a,b⟩
    ·exact BS b g2
    ·exact BS (BF b q) g2
   rw[x1,x2,eW (by rintro⟨x,hx,h⟩;have:=ok.left x hx;omega)]
  ·have x1:pa r 0=s.2:=by
    rcases bf with⟨a,b⟩|⟨a,b⟩
    ·exact BS f2 (BF q a)
    ·exact BS f2 a
   have x2:pa r (r.length-1)=s.1:=by
    rcases bl with⟨a,b⟩|⟨a,b⟩
    ·exact BS (BF b q) g1
    ·exact BS b g1
   obtain⟨x,hx,px⟩:=lY ha ok.ne ok.left;rw[x1,x2,eX ⟨x,hx,by rw[HT];omega⟩]
end
theorem eC{N:Nat}(hN:1001<=N)(a b:List Pt):∃r,Gg N a b=some r/\DW N a b=some r:=by
 by_cases ha:VP a
 ·by_cases hb:VP b
  ·exact⟨_,X8 hN ha hb,ZM hN ha hb⟩
  ·refine⟨(((0,0),(0,0)),false),?_,?_⟩
   ·unfold Gg;rw[F5 (by omega),F5 (by omega),I3.2 ha,Ia.2 hb,bS,Aa (λ_=>fD),Aa (λq=>by cases q),AG _ (by rfl)]
   ·unfold DW;rw[D3 (by omega),D3 (by omega),I3.2 ha,Ia.2 hb,bS,Aa (λ_=>fD),Aa (λq=>by cases q),AG _ (by rfl)]
 ·refine⟨(((0,0),(0,0)),false),?_,?_⟩
  ·unfold Gg;rw[F5 (by omega),Ia.2 ha,bS,Aa (λq=>by cases q),Aa (λq=>by cases q),AG _ (by rfl)]
  ·unfold DW;rw[D3 (by omega),Ia.2 ha,bS,Aa (λq=>by cases q),Aa (λq=>by cases q),AG _ (by rfl)]
theorem uG{N:Nat}{l:List Pt}(l1:0<l.length)(l8:l.length<=8){how n at_:Int}(h1:Ab how)(h2:Ab at_):∃r,Gh N l how n at_=some r/\r.length<=9:=by
 unfold Gh;rw[Aa (by omega),dJ (by omega),cF,QY h2 (by omega),bS,QY h1 (by omega),bS];have b:=@Gu at_ (l.length:Int) (by omega);obtain⟨u,hu⟩:∃u:Nat,pk at_ (l.length:Int)=u:=⟨(pk at_ (l.length:Int)).toNat,by omega⟩
 rw[hu]at b⊢;have hul:u<l.length:=by omega
 generalize pk how 5=k;by_cases k0:k=0
 ·rw[dC k0,cT,DI hul,bS];simp only;exact⟨_,rfl,by rw[zN];omega⟩
 rw[dJ k0,cF];by_cases k1:k=1
 ·rw[dC k1,cT,DI hul,bS];simp only;exact⟨_,rfl,by rw[zN];omega⟩
 rw[dJ k1,cF];by_cases k2:k=2
 ·rw[dC k2,cT,Aa (by unfold Ab;omega),Aa (by omega),Mo,DI (uM _ l1),bS];simp only;rw[DI hul,bS];exact⟨_,rfl,by rw[zN];omega⟩
 rw[dJ k2,cF];by_cases k3:k=3
 ·rw[dC k3,cT,Aa (by omega),Aa (by unfold Ab;omega),Aa (by omega),Aa (by simp only[w8,s9];omega)];exact⟨_,rfl,by simp only[fF,w8,s9];omega⟩
 have p:=@Gu at_ 50 (by omega);rw[dJ k3,cF,Aa (by omega),QY h2 (by omega),bS,Aa (by unfold Ab;omega),Aa (by omega),Aa (by simp only[s9];omega),Aa (by simp only[fF,w8,s9,KU];omega)];exact⟨_,rfl,by simp only[fF,w8,s9,KU];omega⟩
