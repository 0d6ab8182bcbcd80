import Derived.Test.YtjdchfljifacoaaGreatD3
set_option linter.all false
set_option maxRecDepth 100000
set_option maxHeartbeats 8000000
namespace Go.Proofs.YtjdchfljifacoaaGreat.Am
section
theorem JC(l:List Pt):(Be l).length=l.length:=by unfold Be;simp
theorem SX{l:List Pt}{i:Nat}(h:i<l.length):(Be l).drop i=Hu l i::(Be l).drop (i+1):=by rw[pA (by rw[JC];exact h)];congr 1;unfold Be;simp
theorem ZT{p q:Pt}(hp:On p)(hq:On q):(-40<=(IR p q).1/\(IR p q).1<=40)/\(-40<=(IR p q).2.1/\(IR p q).2.1<=40)/\(-1600<=(q.2-p.2)*p.1/\(q.2-p.2)*p.1<=1600)/\(-1600<=(q.1-p.1)*p.2/\(q.1-p.1)*p.2<=1600):=by
 unfold On at hp hq;have m:∀u v:Int,-40<=u->u<=40->0<=v->v<=40->-1600<=u*v/\u*v<=1600:=λu v a b c d=>by have k1:=qI (show 0<=u+40 by omega) c;have k2:=qI (show 0<=40-u by omega) c;rw[Int.add_mul]at k1;rw[Int.sub_mul]at k2;omega
 have m1:=m (q.2-p.2) p.1 (by omega) (by omega) (by omega) (by omega);have m2:=m (q.1-p.1) p.2 (by omega) (by omega) (by omega) (by omega);unfold IR;simp only;omega
theorem oP(N:Nat){l:List Pt}(h:VP l):∀(n i:Nat)(out:List Ci),i<=l.length->l.length<n+i->out.length<=100+i->DM N l n i out=some (out++(Be l).drop i)
 |0,i,out,h1,h2,_=>by omega
 |n+1,i,out,h1,h2,ho=>by
  have l8:=h.l8;rw[DM];by_cases he:i=l.length
  ·subst he;rw[F2,cF,List.drop_of_length_le (by rw[JC];omega),sF]
  have hi:i<l.length:=by omega
  have hm:(i+1)%l.length<l.length:=t6 _ (by omega);have op:=h.on _ (Bo hi);have oq:=h.on _ (Bo hm);have k:=ZT op oq;have oq':=oq;have op':=op;unfold On at op' oq';rw[Dq hi,cT,F1 hi,bS];simp only;rw[Tp N (by omega) hi,show pa l ((i+1)%l.length)=((pa l ((i+1)%l.length)).1,(pa l ((i+1)%l.length)).2)from rfl,bS];simp only;rw[Ae (by unfold Af;omega),Ae (by unfold Af;omega),Ae (by unfold Af;omega),Ae (by unfold Af;omega),Ae (by unfold Af;omega),Ae (by unfold Af;omega),Ae (by unfold Af;omega),Ae (by omega),Ae (by unfold Af;omega),<-ns];rw[oP N h n (i+1) _ (by omega) (by omega) (by simp;omega),SX hi,sG];rfl
theorem oQ(N:Nat){l:List Pt}(h:VP l):∀(n i:Nat)(out:List Ci),i<=l.length->l.length<n+i->out.length<=100+i->DN N l n i out=some (out++(Be l).drop i)
 |0,i,out,h1,h2,_=>by omega
 |n+1,i,out,h1,h2,ho=>by
  have l8:=h.l8;rw[DN];by_cases he:i=l.length
  ·subst he;rw[F2,cF,List.drop_of_length_le (by rw[JC];omega),sF]
  have hi:i<l.length:=by omega
  have hm:(i+1)%l.length<l.length:=t6 _ (by omega);have op:=h.on _ (Bo hi);have oq:=h.on _ (Bo hm);have k:=ZT op oq;have oq':=oq;have op':=op;unfold On at op' oq';rw[Dq hi,cT,F1 hi,bS];simp only;rw[Tp N (by omega) hi,show pa l ((i+1)%l.length)=((pa l ((i+1)%l.length)).1,(pa l ((i+1)%l.length)).2)from rfl,bS];simp only;rw[Ae (by unfold Af;omega),Ae (by unfold Af;omega),Ae (by unfold Af;omega),Ae (by unfold Af;omega),Ae (by unfold Af;omega),Ae (by unfold Af;omega),Ae (by unfold Af;omega),Ae (by omega),Ae (by unfold Af;omega),<-ns];rw[oQ N h n (i+1) _ (by omega) (by omega) (by simp;omega),SX hi,sG];rfl
def Ln(L:Ci):Prop:=(-40<=L.1/\L.1<=40)/\(-40<=L.2.1/\L.2.1<=40)/\(-3200<=L.2.2/\L.2.2<=3200)
def Pl(P:Ci):Prop:=(-256000<=P.1/\P.1<=256000)/\(-256000<=P.2.1/\P.2.1<=256000)/\(-3200<=P.2.2/\P.2.2<=3200)
theorem Jc{a b:Int}(p q:Int)(hp:0<=p)(hq:0<=q)(h1: -p<=a/\a<=p)(h2: -q<=b/\b<=q): -(p*q)<=a*b/\a*b<=p*q:=by have k1:=qI (show 0<=p-a by omega) (show 0<=q+b by omega);have k2:=qI (show 0<=p+a by omega) (show 0<=q-b by omega);have k3:=qI (show 0<=p-a by omega) (show 0<=q-b by omega);have k4:=qI (show 0<=p+a by omega) (show 0<=q+b by omega);constructor<;>grind
theorem oR{l:List Pt}(h:VP l){i:Nat}(hi:i<l.length):Ln (Hu l i):=by have k:=ZT (h.on _ (Bo hi)) (h.on _ (Bo (t6 (i+1) (show 0<l.length by omega))));unfold Ln Hu;unfold IR at k⊢;simp only at k⊢;omega
theorem Aax{a b:List Pt}(ha:VP a)(hb:VP b):∀L∈Be a++Be b,Ln L:=λL hL=>by
 rcases oJ.1 hL with h|h
 ·obtain⟨i,hi,rfl⟩:=Ha.1 h;exact oR ha hi
 ·obtain⟨i,hi,rfl⟩:=Ha.1 h;exact oR hb hi
theorem AeG{L P:Ci}(hL:Ln L)(hP:Pl P):(-10240000<=L.1*P.1/\L.1*P.1<=10240000)/\(-10240000<=L.2.1*P.2.1/\L.2.1*P.2.1<=10240000)/\(-10240000<=L.2.2*P.2.2/\L.2.2*P.2.2<=10240000):=⟨Jc 40 256000 (by omega) (by omega) hL.1 hP.1,Jc 40 256000 (by omega) (by omega) hL.2.1 hP.2.1,Jc 3200 3200 (by omega) (by omega) hL.2.2 hP.2.2⟩
section
variable{A B Ls:List Ci}
open Classical in
theorem eJ(N:Nat)(hLs:A++B=Ls)(hA:∀L∈Ls,Ln L)(hl:Ls.length<=1000){P:Ci}(hP:Pl P):∀(n i:Nat)(c:Bool),i<=Ls.length->Ls.length<n+i->DG N A B P.1 P.2.1 P.2.2 n c i=some (c&&decide (∀k,i<=k->k<Ls.length->0<=BS (ga Ls k) P))
 |0,i,c,h1,h2=>by omega
 |n+1,i,c,h1,h2=>by
  rw[DG,hLs];by_cases he:i=Ls.length
  ·subst he;rw[F2,cF,aB (show∀k,Ls.length<=k->k<Ls.length->0<=BS (ga Ls k) P from λk a b=>by omega),Iv]
  have hi:i<Ls.length:=by omega
  have e:=AeG (hA _ (IS hi)) hP;have eg:Ls.getD (i:Int).toNat (0,0,0)=ga Ls i:=by rw[t9];rfl
  rw[Dq hi,cT,eg];rw[Ae (λ_=>⟨by omega,by omega⟩),Ae (λ_=>⟨by omega,by omega⟩),Ae (λ_=>by unfold Af;omega),Ae (λ_=>⟨by omega,by omega⟩),Ae (λ_=>⟨by omega,by omega⟩),Ae (λ_=>by unfold Af;omega),Ae (λ_=>by unfold Af;omega),Ae (λ_=>⟨by omega,by omega⟩),Ae (λ_=>⟨by omega,by omega⟩),Ae (λ_=>by unfold Af;omega),Ae (λ_=>by unfold Af;omega),Ae (by unfold Af;omega),<-ns];rw[eJ N hLs hA hl hP n (i+1) _ (by omega) (by omega),Bool.and_assoc];congr 2;rw[Gv,oK,bK,bK,bK];constructor
  ·rintro⟨h1,h2⟩ k a b;by_cases q:k=i
   ·rw[q];exact h1
   ·exact h2 k (by omega) b
  ·intro h;exact⟨h i (by omega) hi,λk a b=>h k (by omega) b⟩
def oS(Ls:List Ci)(i k:Nat)(P:Ci):Prop:=(KU (ga Ls i) (ga Ls k)).2.2≠0/\P=KV (KU (ga Ls i) (ga Ls k))/\∀L∈Ls,0<=BS L P
theorem Aay{L M:Ci}(hL:Ln L)(hM:Ln M):((-128000<=L.2.1*M.2.2/\L.2.1*M.2.2<=128000)/\(-128000<=M.2.1*L.2.2/\M.2.1*L.2.2<=128000))/\((-128000<=L.2.2*M.1/\L.2.2*M.1<=128000)/\(-128000<=M.2.2*L.1/\M.2.2*L.1<=128000))/\(-1600<=L.1*M.2.1/\L.1*M.2.1<=1600)/\(-1600<=M.1*L.2.1/\M.1*L.2.1<=1600):=⟨⟨Jc 40 3200 (by omega) (by omega) hL.2.1 hM.2.2,Jc 40 3200 (by omega) (by omega) hM.2.1 hL.2.2⟩,⟨Jc 3200 40 (by omega) (by omega) hL.2.2 hM.1,Jc 3200 40 (by omega) (by omega) hM.2.2 hL.1⟩,Jc 40 40 (by omega) (by omega) hL.1 hM.2.1,Jc 40 40 (by omega) (by omega) hM.1 hL.2.1⟩
theorem oT{L M:Ci}(hL:Ln L)(hM:Ln M):Pl (KV (KU L M)):=by have b:=Aay hL hM;unfold Pl KV oN KU;split<;>simp only<;>omega
theorem Qn{i:Nat}(h:i<Ls.length):A7 Ls (i:Int)=some ((ga Ls i).1,(ga Ls i).2.1,(ga Ls i).2.2):=by rw[Ou (0,0,0) (by omega) (by omega),t9];rfl
open Classical in
theorem SY{N:Nat}(hN:1001<=N)(hLs:A++B=Ls)(hA:∀L∈Ls,Ln L)(hl:Ls.length<=1000){i:Nat}(hi:i<Ls.length):∀(n k:Nat)(out:List Ci),k<=Ls.length->Ls.length<n+k->out.length<=1000000+k->∃r,Cx N A B i n k out=some r/\r.length<=out.length+(Ls.length-k)/\∀P,P∈r↔P∈out\/∃j,k<=j/\j<Ls.length/\oS Ls i j P
 |0,k,out,h1,h2,_=>by omega
 |n+1,k,out,h1,h2,ho=>by
  rw[Cx,hLs];by_cases he:k=Ls.length
  ·subst he;refine⟨out,by rw[F2,cF],by omega,λP=>⟨.inl,?_⟩⟩;rintro(h|⟨j,a,b,_⟩)
   ·exact h
   ·omega
  have hk:k<Ls.length:=by omega
  have lL:=hA _ (IS hi);have lM:=hA _ (IS hk);have b:=Aay lL lM;have w_:(KU (ga Ls i) (ga Ls k)).2.2=(ga Ls i).1*(ga Ls k).2.1-(ga Ls k).1*(ga Ls i).2.1:=rfl;rw[Dq hk,cT,Qn hi,bS];simp only;rw[Qn hk,bS];simp only;rw[Ae (by unfold Af;omega),Ae (by unfold Af;omega),Ae (by unfold Af;omega),Ae (by unfold Af;omega),Ae (by unfold Af;omega),Ae (by unfold Af;omega),Ae (by unfold Af;omega),Ae (by unfold Af;omega),Ae (by unfold Af;omega)];by_cases hw:(ga Ls i).1*(ga Ls k).2.1-(ga Ls k).1*(ga Ls i).2.1=0
  ·rw[aB hw,cT,Ae (by unfold Af;omega),<-ns];obtain⟨r,er,hr,h⟩:=SY hN hLs hA hl hi n (k+1) out (by omega) (by omega) (by omega);refine⟨r,er,by omega,λP=>?_⟩;rw[h P];constructor
   ·rintro(q|⟨j,a,b,c⟩)
    ·exact .inl q
    ·exact .inr ⟨j,by omega,b,c⟩
   ·rintro(q|⟨j,a,b,c⟩)
    ·exact .inl q
    ·by_cases q:j=k
     ·subst q;exact absurd (w_.trans hw) c.1
     ·exact .inr ⟨j,by omega,b,c⟩
  have eP:(bif decide ((ga Ls i).1*(ga Ls k).2.1-(ga Ls k).1*(ga Ls i).2.1<0)then(
      gd (Af (-((ga Ls i).2.1*(ga Ls k).2.2-(ga Ls k).2.1*(ga Ls i).2.2)))<|gd (Af (-((ga Ls i).2.2*(ga Ls k).1-(ga Ls k).2.2*(ga Ls i).1)))<|gd (Af (-((ga Ls i).1*(ga Ls k).2.1-(ga Ls k).1*(ga Ls i).2.1)))<|some (-((ga Ls i).2.1*(ga Ls k).2.2-(ga Ls k).2.1*(ga Ls i).2.2),-((ga Ls i).2.2*(ga Ls k).1-(ga Ls k).2.2*(ga Ls i).1),-((ga Ls i).1*(ga Ls k).2.1-(ga Ls k).1*(ga Ls i).2.1)))
     else(
      some ((ga Ls i).2.1*(ga Ls k).2.2-(ga Ls k).2.1*(ga Ls i).2.2,(ga Ls i).2.2*(ga Ls k).1-(ga Ls k).2.2*(ga Ls i).1,(ga Ls i).1*(ga Ls k).2.1-(ga Ls k).1*(ga Ls i).2.1)):Option Ci)=some (KV (KU (ga Ls i) (ga Ls k))):=by
   by_cases hn:(ga Ls i).1*(ga Ls k).2.1-(ga Ls k).1*(ga Ls i).2.1<0
   ·rw[aB hn,cT,Ae (by unfold Af;omega),Ae (by unfold Af;omega),Ae (by unfold Af;omega)];unfold KV;rw[fU (by rw[w_];exact hn)];rfl
   ·rw[bJ hn,cF];unfold KV;rw[eG (by rw[w_];exact hn)];rfl
  rw[bJ hw,cF,eP];have pl:=oT lL lM;generalize eQ:KV (KU (ga Ls i) (ga Ls k))=Q at*;rw[show(some Q:Option Ci)=some (Q.1,Q.2.1,Q.2.2)from rfl,bS];simp only;have q24:=eJ N hLs hA hl pl N 0 true (by omega) (by omega);rw[oL]at q24;rw[q24,bS];have mem:(∀j,0<=j->j<Ls.length->0<=BS (ga Ls j) Q)↔∀L∈Ls,0<=BS L Q:=by
   constructor
   ·intro h L hL;obtain⟨j,hj,rfl⟩:=QY hL;exact h j (by omega) hj
   ·intro h j _ hj;exact h _ (IS hj)
  by_cases hin:∀L∈Ls,0<=BS L Q
  ·rw[aB (mem.2 hin),AU _ (by rfl),Ae (by omega),Ae (by unfold Af;omega),<-ns];obtain⟨r,er,hr,h⟩:=SY hN hLs hA hl hi n (k+1) (out++[(Q.1,Q.2.1,Q.2.2)]) (by omega) (by omega) (by simp;omega);refine⟨r,er,by simp at hr;omega,λP=>?_⟩;rw[h P,oJ,vG];constructor
   ·rintro((q|q)|⟨j,a,b,c⟩)
    ·exact .inl q
    ·exact .inr ⟨k,by omega,hk,by rw[w_];exact hw,by rw[eQ];exact q,by rw[q];exact hin⟩
    ·exact .inr ⟨j,by omega,b,c⟩
   ·rintro(q|⟨j,a,b,c⟩)
    ·exact .inl (.inl q)
    ·by_cases q:j=k
     ·subst q;exact .inl (.inr (by rw[<-eQ];exact c.2.1))
     ·exact .inr ⟨j,by omega,b,c⟩
  ·rw[bJ (λq=>hin (mem.1 q)),A1 _ (by rfl),Ae (by unfold Af;omega),<-ns];obtain⟨r,er,hr,h⟩:=SY hN hLs hA hl hi n (k+1) out (by omega) (by omega) (by omega);refine⟨r,er,by omega,λP=>?_⟩;rw[h P];constructor
   ·rintro(q|⟨j,a,b,c⟩)
    ·exact .inl q
    ·exact .inr ⟨j,by omega,b,c⟩
   ·rintro(q|⟨j,a,b,c⟩)
    ·exact .inl q
    ·by_cases q:j=k
     ·subst q;exact absurd (by rw[<-eQ,<-c.2.1];exact c.2.2) hin
     ·exact .inr ⟨j,by omega,b,c⟩
theorem eK{N:Nat}(hN:1001<=N)(hLs:A++B=Ls)(hA:∀L∈Ls,Ln L)(hl:Ls.length<=30):∀(n i:Nat)(out:List Ci),i<=Ls.length->Ls.length<n+i->out.length<=30*i->∃r,DH N A B n i out=some r/\r.length<=900/\∀P,P∈r↔P∈out\/∃g j,i<=g/\g<j/\j<Ls.length/\oS Ls g j P
 |0,i,out,h1,h2,_=>by omega
 |n+1,i,out,h1,h2,ho=>by
  rw[DH,hLs];by_cases he:i=Ls.length
  ·subst he;refine⟨out,by rw[F2,cF],by omega,λP=>⟨.inl,?_⟩⟩;rintro(h|⟨g,j,a,b,c,_⟩)
   ·exact h
   ·omega
  have hi:i<Ls.length:=by omega
  rw[Dq hi,cT,Ae (by unfold Af;omega),<-ns];obtain⟨r,er,hr,h⟩:=SY hN hLs hA (by omega) hi N (i+1) out (by omega) (by omega) (by omega);rw[er,bS,Ae (by unfold Af;omega)];obtain⟨r2,er2,hr2,h2⟩:=eK hN hLs hA hl n (i+1) r (by omega) (by omega) (by omega);refine⟨r2,er2,hr2,λP=>?_⟩;rw[h2 P,h P];constructor
  ·rintro((q|⟨j,a,b,c⟩)|⟨g,j,a,b,c,d⟩)
   ·exact .inl q
   ·exact .inr ⟨i,j,by omega,by omega,b,c⟩
   ·exact .inr ⟨g,j,by omega,b,c,d⟩
  ·rintro(q|⟨g,j,a,b,c,d⟩)
   ·exact .inl (.inl q)
   ·by_cases q:g=i
    ·subst q;exact .inl (.inr ⟨j,by omega,c,d⟩)
    ·exact .inr ⟨g,j,by omega,b,c,d⟩
end
theorem AeH{Q R:Ci}(hQ:Pl Q)(hR:Pl R):(((-819200000<=Q.2.1*R.2.2/\Q.2.1*R.2.2<=819200000)/\(-819200000<=Q.2.2*R.2.1/\Q.2.2*R.2.1<=819200000))/\((-819200000<=Q.1*R.2.2/\Q.1*R.2.2<=819200000)/\(-819200000<=Q.2.2*R.1/\Q.2.2*R.1<=819200000))/\(-65536000000<=Q.1*R.2.1/\Q.1*R.2.1<=65536000000)/\(-65536000000<=Q.2.1*R.1/\Q.2.1*R.1<=65536000000)):=⟨⟨Jc 256000 3200 (by omega) (by omega) hQ.2.1 hR.2.2,Jc 3200 256000 (by omega) (by omega) hQ.2.2 hR.2.1⟩,⟨Jc 256000 3200 (by omega) (by omega) hQ.1 hR.2.2,Jc 3200 256000 (by omega) (by omega) hQ.2.2 hR.1⟩,Jc 256000 256000 (by omega) (by omega) hQ.1 hR.2.1,Jc 256000 256000 (by omega) (by omega) hQ.2.1 hR.1⟩
section
variable{l:List Ci}
theorem Aaz{N:Nat}(hN:1001<=N)(hl:l.length<=1000)(hP:∀P∈l,Pl P){i k:Nat}(hi:i<l.length)(hk:k<l.length):(BL N k l i N 0=some (.inl ())/\∀n,n<k->GX (ga l i) (ga l k) (ga l n)=0)\/(BL N k l i N 0=some (.inr true)/\∃n,n<k/\GX (ga l i) (ga l k) (ga l n)≠0):=by
 have step:∀m (n:Nat),n<k->BL N k l i (m+1) n=if GX (ga l i) (ga l k) (ga l n)≠0 then some (.inr true)else BL N k l i m ((n+1:Nat):Int):=λm n hn=>by
  have p1:=hP _ (IS hi);have b:=AeH (hP _ (IS hk)) (hP _ (IS (show n<l.length by omega)));rw[BL,aB (show(n:Int)<k by omega),cT,Qn hi,bS];simp only;rw[Qn hk,bS];simp only;rw[Qn (show n<l.length by omega),bS];simp only;generalize ga l i=P at*;generalize ga l k=Q at*;generalize ga l n=R at*;have m1:=Jc (a:=P.1) (b:=Q.2.1*R.2.2-Q.2.2*R.2.1) 256000 1638400000 (by omega) (by omega) p1.1 (by omega);have m2:=Jc (a:=P.2.1) (b:=Q.1*R.2.2-Q.2.2*R.1) 256000 1638400000 (by omega) (by omega) p1.2.1 (by omega);have m3:=Jc (a:=P.2.2) (b:=Q.1*R.2.1-Q.2.1*R.1) 3200 131072000000 (by omega) (by omega) p1.2.2 (by omega);rw[Ae (by unfold Af;omega),Ae (by unfold Af;omega),Ae (by unfold Af;omega),Ae (by unfold Af;omega),Ae (by unfold Af;omega),Ae (by unfold Af;omega),Ae (by unfold Af;omega),Ae (by unfold Af;omega),Ae (by unfold Af;omega),Ae (by unfold Af;omega),Ae (by unfold Af;omega),Ae (by unfold Af;omega),Ae (by unfold Af;omega),Ae (by unfold Af;omega)];have e:P.1*(Q.2.1*R.2.2-Q.2.2*R.2.1)-P.2.1*(Q.1*R.2.2-Q.2.2*R.1)+P.2.2*(Q.1*R.2.1-Q.2.1*R.1)=GX P Q R:=rfl;rw[e];by_cases h:GX P Q R≠0
  ·rw[aB h,cT,fU h]
  ·rw[bJ h,cF,eG h,Ae (by unfold Af;omega),ns]
 have key:=GK (L:=BL N k l i) (len:=k) (λn=>if GX (ga l i) (ga l k) (ga l n)≠0 then some true else none)
  (λm n hn hf=>by
   rw[step m n hn,eG];intro h;rw[fU h]at hf;cases hf) (λm n r hn hf=>by
   by_cases h:GX (ga l i) (ga l k) (ga l n)≠0
   ·rw[fU h]at hf;rw[step m n hn,fU h,<-yJ hf]
   ·rw[eG h]at hf;cases hf) (λm=>by
   rw[BL,bJ (by omega),cF]) N (by omega)
 rcases key with⟨e,h⟩|⟨j,r,a2,a3,a4,e⟩
 ·refine .inl ⟨e,λn hn=>?_⟩;have:=h n hn;by_cases q:GX (ga l i) (ga l k) (ga l n)≠0
  ·rw[fU q]at this;cases this
  ·omega
 ·by_cases q:GX (ga l i) (ga l k) (ga l j)≠0
  ·rw[fU q]at a3;rw[<-yJ a3]at e;exact .inr ⟨e,j,a2,q⟩
  ·rw[eG q]at a3;cases a3
theorem AaA{N:Nat}(hN:1001<=N)(hl:l.length<=1000)(hP:∀P∈l,Pl P){i:Nat}(hi:i<l.length):(Ce N i l N 0=some (.inl ())/\∀k,k<i->∀n,n<k->GX (ga l i) (ga l k) (ga l n)=0)\/(Ce N i l N 0=some (.inr true)/\∃k n,k<i/\n<k/\GX (ga l i) (ga l k) (ga l n)≠0):=by
 have:∀m (k:Nat),k<=i->i<m+k->(Ce N i l m k=some (.inl ())/\∀j,k<=j->j<i->∀n,n<j->GX (ga l i) (ga l j) (ga l n)=0)\/(Ce N i l m k=some (.inr true)/\∃j n,j<i/\n<j/\GX (ga l i) (ga l j) (ga l n)≠0):=by
  intro m;induction m with
  |zero=>intro k a b;omega
  |succ m ih=>
   intro k a b;rw[Ce];by_cases he:k=i
   ·subst he;exact .inl ⟨by rw[bJ (by omega),cF],λj a b=>by omega⟩
   rw[aB (show(k:Int)<i by omega),cT];rcases Aaz hN hl hP hi (show k<l.length by omega)with⟨e,h⟩|⟨e,n,hn,h⟩
   ·rw[e,bS];simp only;rw[Ae (by unfold Af;omega),<-ns];rcases ih (k+1) (by omega) (by omega)with⟨e2,h2⟩|h2
    ·refine .inl ⟨e2,λj a b=>?_⟩;by_cases q:j=k
     ·rw[q];exact h
     ·exact h2 j (by omega) b
    ·exact .inr h2
   ·rw[e,bS];simp only;exact .inr ⟨yT,k,n,by omega,hn,h⟩
 rcases this N 0 (by omega) (by omega)with⟨e,h⟩|h
 ·exact .inl ⟨e,λk hk=>h k (by omega) hk⟩
 ·exact .inr h
theorem AaB{N:Nat}(hN:1001<=N)(hl:l.length<=1000)(hP:∀P∈l,Pl P):(Cg N l N 0=some (.inl ())/\∀i,i<l.length->∀k,k<i->∀n,n<k->GX (ga l i) (ga l k) (ga l n)=0)\/(Cg N l N 0=some (.inr true)/\∃i k n,i<l.length/\k<i/\n<k/\GX (ga l i) (ga l k) (ga l n)≠0):=by
 have:∀m (k:Nat),k<=l.length->l.length<m+k->(Cg N l m k=some (.inl ())/\∀i,k<=i->i<l.length->∀j,j<i->∀n,n<j->GX (ga l i) (ga l j) (ga l n)=0)\/(Cg N l m k=some (.inr true)/\∃i j n,i<l.length/\j<i/\n<j/\GX (ga l i) (ga l j) (ga l n)≠0):=by
  intro m;induction m with
  |zero=>intro k a b;omega
  |succ m ih=>
   intro k a b;rw[Cg];by_cases he:k=l.length
   ·subst he;exact .inl ⟨by rw[F2,cF],λj a b=>by omega⟩
   have hk:k<l.length:=by omega
   rw[Dq hk,cT];rcases AaA hN hl hP hk with⟨e,h⟩|⟨e,j,n,hj,hn,h⟩
   ·rw[e,bS];simp only;rw[Ae (by unfold Af;omega),<-ns];rcases ih (k+1) (by omega) (by omega)with⟨e2,h2⟩|h2
    ·refine .inl ⟨e2,λj a b=>?_⟩;by_cases q:j=k
     ·rw[q];exact h
     ·exact h2 j (by omega) b
    ·exact .inr h2
   ·rw[e,bS];simp only;exact .inr ⟨yT,k,j,n,hk,hj,hn,h⟩
 rcases this N 0 (by omega) (by omega)with⟨e,h⟩|h
 ·exact .inl ⟨e,λk hk=>h k (by omega) hk⟩
 ·exact .inr h
theorem WT(P Q R:Ci):GX Q P R= -GX P Q R:=by unfold GX;grind
theorem WU(P Q R:Ci):GX P R Q= -GX P Q R:=by unfold GX;grind
theorem kH{i k n:Nat}(hi:i<l.length)(hk:k<l.length)(hn:n<l.length)(h:GX (ga l i) (ga l k) (ga l n)≠0):∃x y z,x<l.length/\y<x/\z<y/\GX (ga l x) (ga l y) (ga l z)≠0:=by
 have s1:=WT (ga l i) (ga l k) (ga l n);have s2:=WU (ga l i) (ga l k) (ga l n);have s3:=WU (ga l k) (ga l i) (ga l n);have s4:=WT (ga l i) (ga l n) (ga l k);have s5:=WU (ga l n) (ga l i) (ga l k);have n1:i≠k:=λq=>by subst q;omega
 have n2:k≠n:=λq=>by subst q;omega
 have n3:i≠n:=λq=>by subst q;have:=WT (ga l i) (ga l k) (ga l i);omega
 by_cases a:k<i<;>by_cases b:n<k<;>by_cases c:n<i
 ·exact⟨i,k,n,hi,a,b,h⟩
 ·omega
 ·exact⟨i,n,k,hi,c,by omega,by omega⟩
 ·exact⟨n,i,k,hn,by omega,a,by omega⟩
 ·exact⟨k,i,n,hk,by omega,c,by omega⟩
 ·exact⟨k,n,i,hk,b,by omega,by omega⟩
 ·omega
 ·exact⟨n,k,i,hn,by omega,by omega,by omega⟩
end
open Classical in
theorem kJ{N:Nat}(hN:1001<=N){a b:List Pt}(ha:VP a)(hb:VP b):CM N a b=some (decide (¬apart a b)):=by
 have a8:=ha.l8;have b8:=hb.l8;unfold CM;rw[F7 (by omega),F7 (by omega),Li.2 ha,Li.2 hb,bS,Ae (λ_=>mU),qO,A1 _ (by rfl)];have e2:=oP N ha N 0 [] (by omega) (by omega) (by simp);have e4:=oQ N hb N 0 [] (by omega) (by omega) (by simp);rw[oL,rA,t7]at e2 e4;rw[e2,bS,e4,bS,Ae (by rw[JC,JC];omega)];have len:(Be a++Be b).length=a.length+b.length:=by rw[nK,JC,JC]
 have lnA:=Aax ha hb;obtain⟨r,er,hr,hm⟩:=eK (N:=N) hN (A:=Be a) (B:=Be b) rfl lnA (by omega) N 0 [] (by omega) (by omega) (by simp);rw[oL]at er;rw[er,bS];have mem:∀P,P∈r↔Cmn (Be a++Be b) P:=λP=>by
  rw[hm P];constructor
  ·rintro(q|⟨g,j,_,x,y,z⟩)
   ·simp at q
   ·exact⟨g,j,x,y,z⟩
  ·rintro⟨g,j,x,y,z⟩;exact .inr ⟨g,j,by omega,x,y,z⟩
 have pl:∀P∈r,Pl P:=λP hP=>by obtain⟨i,k,x,y,z,e,_⟩:=(mem P).1 hP;rw[e];exact oT (lnA _ (IS (by omega))) (lnA _ (IS y))
 rcases AaB hN (by omega) pl with⟨e,h⟩|⟨e,i,k,n,hi,hk,hn,h⟩
 ·rw[e,bS];simp only;rw[bJ];intro hap;obtain⟨P,Q,R,hP,hQ,hR,hd⟩:=eD ha hb hap;obtain⟨i,hi,rfl⟩:=QY ((mem P).2 hP);obtain⟨k,hk,rfl⟩:=QY ((mem Q).2 hQ);obtain⟨n,hn,rfl⟩:=QY ((mem R).2 hR);obtain⟨x,y,z,h1,h2,h3,h4⟩:=kH hi hk hn hd;exact h4 (h x h1 y h2 z h3)
 ·rw[e,bS];simp only;rw[aB];intro hap;exact h (kG ha hb hap ((mem _).1 (IS hi)).inK ((mem _).1 (IS (show k<r.length by omega))).inK ((mem _).1 (IS (show n<r.length by omega))).inK)
theorem eL{N:Nat}(hN:1001<=N){a b:List Pt}(h:¬(VP a/\VP b)):Hs N a b=some (0,0,false):=by
 unfold Hs;by_cases ha:VP a
 ·have hb:¬VP b:=λq=>h ⟨ha,q⟩
  rw[IJ (by omega),IJ (by omega),Li.2 ha,KK.2 hb,bS,Ae (λ_=>mU),AU _ (by rfl)]
 ·rw[IJ (by omega),KK.2 ha,bS,Ae (λq=>by simp at q),AU _ (by rfl)]
open Classical in
theorem Uq{N:Nat}(hN:1001<=N)(a b:List Pt):∃r,EB N a b=some r/\CM N a b=some r:=by
 by_cases ha:VP a
 ·by_cases hb:VP b
  ·refine⟨_,SQ hN ha hb,?_⟩;rw[kJ hN ha hb];congr 1;rw[Gv,bK,w5,<-JA,QU]
  ·refine⟨false,?_,?_⟩
   ·unfold EB;rw[eL hN (λq=>hb q.2),bS];simp only;rw[IJ (by omega),IJ (by omega),Li.2 ha,KK.2 hb,bS,Ae (λ_=>mU)];rfl
   ·unfold CM;rw[F7 (by omega),F7 (by omega),Li.2 ha,KK.2 hb,bS,Ae (λ_=>mU),AU _ (by rfl)]
 ·refine⟨false,?_,?_⟩
  ·unfold EB;rw[eL hN (λq=>ha q.1),bS];simp only;rw[IJ (by omega),KK.2 ha,bS,Ae (λq=>by cases q)];rfl
  ·unfold CM;rw[F7 (by omega),KK.2 ha,bS,Ae (λq=>by simp at q),AU _ (by rfl)]
def lxl(p q:Pt):Prop:=p.1<q.1\/(p.1=q.1/\p.2<q.2)
def ZZ(a b:List Pt)(p:Pt):Prop:=sd a p=0/\sd b p=0
structure InvQ(a b:List Pt)(i k:Nat)(l:List Pt):Prop where
 len:l.length<=41*i+k
 pw:l.Pairwise lxl
 mem:∀p,p∈l↔∃x y:Nat,(x<i\/(x=i/\y<k))/\y<=40/\p=((x:Int),(y:Int))/\ZZ a b p
section
variable{a b:List Pt}
end
end
section
open Go
attribute [local irreducible] Ax BO BB Bj BC Bk AY BD BK Cq
attribute [local go_sem] PF OL
def BU(N:Nat)(bb:Int)(ba:Int)(az:Int)(ay:List (Int×Int))(ab:Int)(aa:Int):Option Bool:=bif (((((decide (bb<0))||(decide (99<bb)))||(decide (ba<1)))||(decide (8<ba)))||(decide (az<0)))||(decide (7<az))then(some false)else(gd ((((decide (0<=ab))&&(decide (ab<aa)))&&(decide (aa<=8)))=true->((Cj N ay).isSome=true))<|some ((((decide (0<=ab))&&(decide (ab<aa)))&&(decide (aa<=8)))&&((Cj N ay).getD false)))
@[go_sem] def s72(N:Nat):Spec:=p0<|pG<|pI λbb=>pI λba=>pI λaz=>pS Aq λay=>pI λab=>pI λaa=>pE<|pE<|pF (BU N bb ba az ay ab aa) false λr=>.b r
theorem QQ(N:Nat):AG Tryz.prog 72 (s72 N):=by
 refine Ar x72.ok<|Aw<|Aa λbb=>Aa λba=>Aa λaz=>AF λay=>Aa λab=>Aa λaa=>Ad<|Ad<|As λr h=>wx x72 (Ab (SB N)<|Aj) λ_ hS F=>?_
 dsimp only[x72,Ah,Aq];unfold BU at h;refine An hS F h (λ_ h=>?_) (λ_ h=>?_)
 ·exact Ai hS F h
 ·obtain⟨da,h⟩:=un h;exact Ai hS F h
def FU(N:Nat)(ce:Int)(b9:Int)(b7:Int)(bz:List (Int×Int))(bj:Int)(bi:Int)(bh:Int)(bg:Int)(bf:Int)(be:List (Int×Int))(aj:Int)(ai:Int):Option Bool:=(BU N ce b9 b7 bz bj bi).bind λcj=>gd (cj=true->((BU N bh bg bf be aj ai).isSome=true))<|some ((cj&&((BU N bh bg bf be aj ai).getD false))&&(decide (max bj aj<min bi ai)))
@[go_sem] def RI(N:Nat):Spec:=p0<|pG<|pI λce=>pI λb9=>pI λb7=>pS Aq λbz=>pI λbj=>pI λbi=>pE<|pG<|pI λbh=>pI λbg=>pI λbf=>pS Aq λbe=>pI λaj=>pI λai=>pE<|pE<|pF (FU N ce b9 b7 bz bj bi bh bg bf be aj ai) false λr=>.b r
theorem yO(N:Nat):AG Tryz.prog 127 (RI N):=by
 refine Ar x127.ok<|Aw<|Aa λce=>Aa λb9=>Aa λb7=>AF λbz=>Aa λbj=>Aa λbi=>Ad<|Aw<|Aa λbh=>Aa λbg=>Aa λbf=>AF λbe=>Aa λaj=>Aa λai=>Ad<|Ad<|As λr h=>wx x127 (Ab (QQ N)<|Aj) λ_ hS F=>?_
 dsimp only[x127,Ah,Aq];unfold FU at h;obtain⟨cj,cy,da,h⟩:=un h;exact Ai hS (fc cy F) h
def EF(N:Nat)(bw:Int)(bv:Int)(bu:Int)(ak:List (Int×Int))(br:Int)(bq:Int)(bp:Int)(bo:Int)(bn:Int)(ah:List (Int×Int))(bm:Int)(bl:Int):Option Bool:=(FU N bw bv bu ak br bq bp bo bn ah bm bl).bind λci=>gd (ci=true->((CM N ak ah).isSome=true))<|some (ci&&((CM N ak ah).getD false))
@[go_sem] def Tk(N:Nat):Spec:=p0<|pG<|pI λbw=>pI λbv=>pI λbu=>pS Aq λak=>pI λbr=>pI λbq=>pE<|pG<|pI λbp=>pI λbo=>pI λbn=>pS Aq λah=>pI λbm=>pI λbl=>pE<|pE<|pF (EF N bw bv bu ak br bq bp bo bn ah bm bl) false λr=>.b r
theorem yP(N:Nat):AG Tryz.prog 104 (Tk N):=by
 refine Ar x104.ok<|Aw<|Aa λbw=>Aa λbv=>Aa λbu=>AF λak=>Aa λbr=>Aa λbq=>Ad<|Aw<|Aa λbp=>Aa λbo=>Aa λbn=>AF λah=>Aa λbm=>Aa λbl=>Ad<|Ad<|As λr h=>wx x104 (Ab (yO N)<|Ab (xX N)<|Aj) λ_ hS F=>?_
 dsimp only[x104,Ah,Aq];unfold EF at h;obtain⟨ci,cu,da,h⟩:=un h;exact Ai hS (fc cu F) h
def Gx(N:Nat)(aw:Int)(av:Int)(au:Int)(aq:List (Int×Int))(an:Int)(am:Int)(af:Int)(ae:Int):Option ((Int×Int×Int×(List (Int×Int))×Int×Int)×Int):=(BU N aw av au aq an am).bind λco=>bif !co then(some ((0,0,0,[],0,0),80))else((EL N aq af ae).bind λ(cn,ck)=>bif decide (ck≠0)then(some ((0,0,0,[],0,0),80))else(some ((aw,av,au,cn,an,am),0)))
@[go_sem] def AdX(N:Nat):Spec:=p0<|pG<|pI λaw=>pI λav=>pI λau=>pS Aq λaq=>pI λan=>pI λam=>pE<|pI λaf=>pI λae=>pE<|pF (Gx N aw av au aq an am af ae) ((0,0,0,[],0,0),0) λr=>.tup [.agg [.i r.1.1,.i r.1.2.1,.i r.1.2.2.1,BP r.1.2.2.2.1,.i r.1.2.2.2.2.1,.i r.1.2.2.2.2.2],.i r.2]
theorem yQ(N:Nat):AG Tryz.prog 106 (AdX N):=by
 refine Ar x106.ok<|Aw<|Aa λaw=>Aa λav=>Aa λau=>AF λaq=>Aa λan=>Aa λam=>Ad<|Aa λaf=>Aa λae=>Ad<|As λr h=>wx x106 (Ab (QQ N)<|Ab (AbX N)<|Aj) λ_ hS F=>?_
 dsimp only[x106,Ah,Aq];unfold Gx at h;obtain⟨co,cr,h⟩:=un h;replace F:=fc cr F;refine An hS F h (λ_ h=>?_) (λ_ h=>?_)
 ·exact Ai hS F h
 ·obtain⟨⟨cn,ck⟩,cq,h⟩:=un h;replace F:=fc cq F;refine An hS F h (λ_ h=>?_) (λ_ h=>?_)
  ·exact Ai hS F h
  ·exact Ai hS F h
end
section
open Go
attribute [local irreducible] Ax BO BB Bj BC Bk AY BD BK Cq
def GV(x:Int):List AV:=[.i x]
def nR:List AV->Int|[.v (.int _ a1)]=>a1|_=>0
theorem AdY(x:Int):nR (GV x)=x:=by rfl
theorem AdZ(R:List Int):(R.map GV).map nR=R:=by
 induction R with
 |nil=>rfl
 |cons r R ih=>rw[iW,iW,ih,AdY]
def Ni(x:Int):List AV:=[.v (.int .u8 x)]
def Zy:List AV->Int|[.v (.int _ a1)]=>a1|_=>0
def SD:Rw Int:=⟨1,GV,nR,[.i 0]⟩
def FW(l:List Int):AV:=.sl 1 false (l.map GV) [.i 0]
def SE(l:List Int):AV:=.sl 1 true (l.map GV) [.i 0]
attribute [go_sem] SD FW SE GV nR AdZ
def Ad0:Rw Int:=⟨1,Ni,Zy,[.v (.int .u8 0)]⟩
def Ad1(l:List Int):AV:=.sl 1 false (l.map Ni) [.v (.int .u8 0)]
def jI(l:List Int):AV:=.sl 1 true (l.map Ni) [.v (.int .u8 0)]
attribute [go_sem] Ad0 Ad1 jI Ni Zy
attribute [local go_sem] List.all_append PF OL
end
section
section
variable{N:Nat}(hN:1001<=N)
include hN
theorem OI(a b c:Int)(l:List Pt)(p q:Int):BU N a b c l p q=some (Ji a b c p q&&vB l):=by
 unfold BU Ji;rw[F7 (by omega)];by_cases h:(0<=a/\a<=99)/\(1<=b/\b<=8)/\0<=c/\c<=7
 ·rw[A1 _ (by simp;omega),BR (λ_=>mU),qO];rw[aB h.1.1,aB h.1.2,aB h.2.1.1,aB h.2.1.2,aB h.2.2.1,aB h.2.2.2];rfl
 ·rw[AU _ (by simp;omega)];congr 1;symm;rw[u0];intro hc;simp only[oK,bK]at hc;exact h ⟨hc.1.1.1.1.1.1,hc.1.1.1.1.1.2,hc.1.1.1.1.2⟩
noncomputable def TE(a b c:Int)(l:List Pt)(p q a' b' c':Int)(l':List Pt)(p' q':Int):Bool:=decide (max p p'<min q q')&&(Ji a b c p q&&vB l)&&(Ji a' b' c' p' q'&&vB l')
theorem YW(a b c:Int)(l:List Pt)(p q a' b' c':Int)(l':List Pt)(p' q':Int):IP N a b c l p q a' b' c' l' p' q'=some (max p p',min q q',TE a b c l p q a' b' c' l' p' q')/\FU N a b c l p q a' b' c' l' p' q'=some (TE a b c l p q a' b' c' l' p' q'):=by unfold IP FU TE;rw[K0 (by omega),K0 (by omega),OI hN,OI hN,BR (λ_=>mU),BR (λ_=>mU),bS,BR (λ_=>mU),qO,qO];refine⟨rfl,?_⟩;congr 1;cases(Ji a b c p q&&vB l)<;>cases(Ji a' b' c' p' q'&&vB l')<;>cases decide (max p p'<min q q')<;>rfl
theorem AcR(a b c:Int)(l:List Pt)(p q a' b' c':Int)(l':List Pt)(p' q':Int):∃r,Fy N a b c l p q a' b' c' l' p' q'=some r/\EF N a b c l p q a' b' c' l' p' q'=some r:=by obtain⟨h1,h2⟩:=YW hN a b c l p q a' b' c' l' p' q';obtain⟨r,g1,g2⟩:=Uq hN l l';unfold Fy EF;rw[h1,h2,g1,g2,bS,bS];simp only;rw[BR (λ_=>mU)];exact⟨_,rfl,rfl⟩
theorem AcS(a b c:Int)(l:List Pt)(p q dx dy:Int):∃r,FR N a b c l p q dx dy=some r/\Gx N a b c l p q dx dy=some r/\r.1.2.2.2.1.length<=8:=by
 obtain⟨⟨r,e⟩,g1,g2,g3⟩:=eH (N:=N) (by omega) l dx dy;unfold FR Gx;rw[g1,g2,OI hN,K0 (by omega),bS,bS];simp only;rw[BR (λ_=>mU),qO];cases h:Ji a b c p q&&vB l with
 |false=>exact⟨((0,0,0,[],0,0),80),by rw[AU _ (by simp)],by rw[AU _ (by rfl)],by simp⟩
 |true=>
  rw[A1 (!true) (by rfl),bS];simp only;by_cases he:e=0
  ·rw[A1 _ (by simp[he]),A1 _ (by simp[he])];exact⟨_,rfl,rfl,g3⟩
  ·rw[AU _ (by simp[he]),AU _ (by simp[he])];exact⟨_,rfl,rfl,by simp⟩
end
end
open Go
attribute [local irreducible] Ax BO BB Bj BC Bk AY BD BK Cq
def Au(x:Int×Int×Int×(List (Int×Int))×Int×Int):List AV:=[.i x.1,.i x.2.1,.i x.2.2.1,BP x.2.2.2.1,.i x.2.2.2.2.1,.i x.2.2.2.2.2]
def B1:List AV->Int×Int×Int×(List (Int×Int))×Int×Int|[.v (.int _ a1),.v (.int _ a2),.v (.int _ a3),.sl _ _ a4 _,.v (.int _ a5),.v (.int _ a6)]=>(a1,a2,a3,(a4.map Jx),a5,a6)|_=>(0,0,0,[],0,0)
theorem UF(x:Int×Int×Int×(List (Int×Int))×Int×Int):B1 (Au x)=x:=by simp only[Au,B1,BP,MR]
theorem UG(R:List (Int×Int×Int×(List (Int×Int))×Int×Int)):(R.map Au).map B1=R:=by
 induction R with
 |nil=>rfl
 |cons r R ih=>rw[iW,iW,ih,UF]
def Ak:Rw (Int×Int×Int×(List (Int×Int))×Int×Int):=⟨6,Au,B1,[.i 0,.i 0,.i 0,.sl 0 true [] [],.i 0,.i 0]⟩
def Ap(l:List (Int×Int×Int×(List (Int×Int))×Int×Int)):AV:=.sl 6 false (l.map Au) [.i 0,.i 0,.i 0,.sl 0 true [] [],.i 0,.i 0]
def B7(l:List (Int×Int×Int×(List (Int×Int))×Int×Int)):AV:=.sl 6 true (l.map Au) [.i 0,.i 0,.i 0,.sl 0 true [] [],.i 0,.i 0]
attribute [go_sem] Ak Ap B7 Au B1 UG
@[go_sem] theorem sE(R:List (Int×Int×Int×(List (Int×Int))×Int×Int))(i:Nat):cut 0 1 (A6 (R.map Au) [.i 0,.i 0,.i 0,.sl 0 true [] [],.i 0,.i 0] i)=some [.i (R.getD i (0,0,0,[],0,0)).1]:=by unfold A6;rw[dQ,dQ,sH];cases R[i]? <;>rfl
def Al(N:Nat)(c1191:Int)(ab:Int):Option Int:=bif decide (c1191<0)then(gd (Af (c1191+1))<|gd (Af (-(c1191+1)))<|gd (ab≠0)<|some ((-(c1191+1)).tmod ab))else(gd (ab≠0)<|some (c1191.tmod ab))
@[go_sem] def s93(N:Nat):Spec:=p0<|pI λc1191=>pI λab=>pE<|pF (Al N c1191 ab) 0 λr=>.i r
theorem nS(N:Nat):AG Tryz.prog 93 (s93 N):=by
 refine Ar x93.ok<|Aa λc1191=>Aa λab=>Ad<|As λr h=>wx x93 (Aj) λ_ hS F=>?_
 dsimp only[x93,Ah];unfold Al at h;refine An hS F h (λ_ h=>?_) (λ_ h=>?_)
 ·obtain⟨ee,eh,dq,h⟩:=un h;exact Ai hS F h
 ·obtain⟨d9,h⟩:=un h;exact Ai hS F h
def BY(N:Nat)(an:Int)(am:Int)(ak:Int)(u1196:List (Int×Int))(aj:Int)(ai:Int):Option (Int×Int×Int×(List (Int×Int))×Int×Int):=gd ((u1196.length)*16<=140737488355328)<|some (an,am,ak,u1196,aj,ai)
@[go_sem] def s97(N:Nat):Spec:=p0<|pG<|pI λan=>pI λam=>pI λak=>pS Aq λu1196=>pI λaj=>pI λai=>pE<|pE<|pF (BY N an am ak u1196 aj ai) (0,0,0,[],0,0) λr=>.agg [.i r.1,.i r.2.1,.i r.2.2.1,BP r.2.2.2.1,.i r.2.2.2.2.1,.i r.2.2.2.2.2]
theorem UY(N:Nat):AG Tryz.prog 97 (s97 N):=by
 refine Ar x97.ok<|Aw<|Aa λan=>Aa λam=>Aa λak=>AF λu1196=>Aa λaj=>Aa λai=>Ad<|Ad<|As λr h=>wx x97 (Aj) λ_ hS F=>?_
 dsimp only[x97,Ah,Aq];unfold BY at h;obtain⟨ee,h⟩:=un h;exact Ai hS F h
def EG(N:Nat)(f1199:List (Int×Int×Int×(List (Int×Int))×Int×Int)):Nat->Int->(List (Int×Int×Int×(List (Int×Int))×Int×Int))->Option ((List (Int×Int×Int×(List (Int×Int))×Int×Int)))|0,_,_=>none|n+1,ah,l1234=>bif decide (ah<(f1199.length:Int))then((A7 f1199 ah).bind λ(ce,b9,b7,bz,bw,bv)=>(BY N ce b9 b7 bz bw bv).bind λ(az,ay,aw,av,au,aq)=>gd ((l1234.length+1)*64<=140737488355328)<|gd (Af (ah+1))<|EG N f1199 n (ah+1) (l1234++[(az,ay,aw,av,au,aq)]))else(some l1234)
def HZ(N:Nat)(f1199:List (Int×Int×Int×(List (Int×Int))×Int×Int)):Option (List (Int×Int×Int×(List (Int×Int))×Int×Int)):=(EG N f1199 N 0 []).bind λcj=>some cj
@[go_sem] def s96(N:Nat):Spec:=p0<|pG<|pD Ak λf1199=>pE<|pE<|pF (HZ N f1199) [] λr=>.agg [Ap r]
theorem Ab7(N:Nat):AG Tryz.prog 96 (s96 N):=by
 refine Ar x96.ok<|Aw<|AM λf1199=>Ad<|Ad<|As λr h=>wx x96 (Ab (UY N)<|Aj) λ_ hS F=>?_
 dsimp only[x96,Ah,Ak];unfold HZ at h;refine go hS F ?_;refine Fc 1000001 (100,2) 0 6 [.i 0,.i 0,.i 0,.sl 0 true [] [],.i 0,.i 0] (by omega) (ev F) ?_;obtain⟨dl,dm,h⟩:=un h;refine go hS F ?_;refine Bz dl (λz:(List (Int×Int×Int×(List (Int×Int))×Int×Int))×Nat=>⟨[(2,.box (1,1) 0),(3,.box (100,2) 0)],[(.c (100,2) 0,.own (1000001,4) z.1.length),(.a (1000001,4),B7 z.1),(.c (1,1) 0,.sl 0 true [] [])],z.2⟩) (λz=>(z.1:(List (Int×Int×Int×(List (Int×Int))×Int×Int)))) (.x 0) ?_ ?_
 ·refine Bp (λn (y:Int×(List (Int×Int×Int×(List (Int×Int))×Int×Int))×Nat)=>EG N f1199 n y.1 y.2.1) (λy=>⟨[(1,.box (0,1) 0),(2,.box (1,1) 0),(3,.box (100,2) 0),(4,.i y.1)],[(.c (100,2) 0,.own (1000001,4) y.2.1.length),(.a (1000001,4),B7 y.2.1),(.c (1,1) 0,.sl 0 true [] []),(.c (0,1) 0,Ap f1199)],y.2.2⟩) (0,[],4) dm (Ch F) ?_;rintro n ⟨ah,l1234,co⟩ aa;simp only[EG]at aa;refine An hS F aa (λ_ aa=>?_) (λ_ aa=>?_)
  ·obtain⟨⟨ce,b9,b7,bz,bw,bv⟩,de,aa⟩:=un aa;obtain⟨d5,F⟩:=Cb Au de F;obtain⟨⟨az,ay,aw,av,au,aq⟩,cr,aa⟩:=un aa;obtain⟨dq,d9,aa⟩:=un aa;exact Cd hS (fc cr F) (n,ah+1,l1234++[(az,ay,aw,av,au,aq)],co+1+1+1) aa
  ·exact B4 hS F (l1234,co+1) aa
 ·rintro⟨cj,d8⟩ rfl;exact Ai hS F h
def CO(N:Nat)(a1255:List (Int×Int×Int×(List (Int×Int))×Int×Int))(b1256:List (Int×Int×Int×(List (Int×Int))×Int×Int)):Nat->Int->Option (Sum Unit Bool)|0,_=>none|n+1,af=>bif decide (af<(a1255.length:Int))then((A7 a1255 af).bind λ(bu,br,bq,bp,bo,bn)=>(A7 b1256 af).bind λ(bm,bl,bj,bi,bh,bg)=>(C2 N bu br bq bp bo bn bm bl bj bi bh bg).bind λci=>bif !ci then(some (.inr false))else(gd (Af (af+1))<|CO N a1255 b1256 n (af+1)))else(some (.inl ()))
def Gy(N:Nat)(a1255:List (Int×Int×Int×(List (Int×Int))×Int×Int))(b1256:List (Int×Int×Int×(List (Int×Int))×Int×Int)):Option Bool:=bif decide ((a1255.length:Int)≠(b1256.length:Int))then(some false)else((CO N a1255 b1256 N 0).bind λbb=>match bb with|.inl ()=>(some true)|.inr dh=>(some dh))
@[go_sem] def s46(N:Nat):Spec:=p0<|pG<|pD Ak λa1255=>pE<|pG<|pD Ak λb1256=>pE<|pE<|pF (Gy N a1255 b1256) false λr=>.b r
theorem Ab8(N:Nat):AG Tryz.prog 46 (s46 N):=by
 refine Ar x46.ok<|Aw<|AM λa1255=>Ad<|Aw<|AM λb1256=>Ad<|Ad<|As λr h=>wx x46 (Ab (Zw N)<|Aj) λ_ hS F=>?_
 dsimp only[x46,Ah,Ak];unfold Gy at h;refine An hS F h (λ_ h=>?_) (λ_ h=>?_)
 ·exact Ai hS F h
 ·obtain⟨bb,dm,h⟩:=un h;refine go hS F ?_;refine Bz bb (λz:Nat=>⟨[],[],z⟩) (λz=>(.inl ():Sum Unit Bool)) (.x 0) ?_ ?_
  ·refine Bp (λn (y:Int×Nat)=>CO N a1255 b1256 n y.1) (λy=>⟨[(2,.box (0,1) 0),(3,.box (1,1) 0),(5,.i y.1)],[(.c (1,1) 0,Ap b1256),(.c (0,1) 0,Ap a1255)],y.2⟩) (0,3) dm (Ch F) ?_;rintro n ⟨af,cn⟩ aa;simp only[CO]at aa;refine An hS F aa (λ_ aa=>?_) (λ_ aa=>?_)
   ·obtain⟨⟨bu,br,bq,bp,bo,bn⟩,db,aa⟩:=un aa;obtain⟨dz,F⟩:=Cb Au db F;obtain⟨⟨bm,bl,bj,bi,bh,bg⟩,da,aa⟩:=un aa;obtain⟨dw,F⟩:=Cb Au da F;obtain⟨ci,cq,aa⟩:=un aa;replace F:=fc cq F;refine An hS F aa (λ_ aa=>?_) (λ_ aa=>?_)
    ·obtain rfl:=yJ aa;exact Ai hS F h
    ·obtain⟨dq,aa⟩:=un aa;exact Cd hS F (n,af+1,cn+1+1+1) aa
   ·exact B4 hS F (cn+1) aa
  ·rintro d7 rfl;exact Ai hS F h
def GG(N:Nat)(a1297:List Int)(b1298:List Int):Nat->Int->Option (Sum Unit Bool)|0,_=>none|n+1,ae=>bif decide (ae<(a1297.length:Int))then((A7 a1297 ae).bind λbf=>(A7 b1298 ae).bind λbe=>bif decide (bf≠be)then(some (.inr false))else(gd (Af (ae+1))<|GG N a1297 b1298 n (ae+1)))else(some (.inl ()))
def H0(N:Nat)(a1297:List Int)(b1298:List Int):Option Bool:=bif decide ((a1297.length:Int)≠(b1298.length:Int))then(some false)else((GG N a1297 b1298 N 0).bind λba=>match ba with|.inl ()=>(some true)|.inr dg=>(some dg))
@[go_sem] def Yr(N:Nat):Spec:=p0<|pS SD λa1297=>pS SD λb1298=>pE<|pF (H0 N a1297 b1298) false λr=>.b r
theorem Ab9(N:Nat):AG Tryz.prog 33 (Yr N):=by
 refine Ar x33.ok<|AF λa1297=>AF λb1298=>Ad<|As λr h=>wx x33 (Aj) λ_ hS F=>?_
 dsimp only[x33,Ah,SD];unfold H0 at h;refine An hS F h (λ_ h=>?_) (λ_ h=>?_)
 ·exact Ai hS F h
 ·obtain⟨ba,dm,h⟩:=un h;refine go hS F ?_;refine Bz ba (λz:Nat=>⟨[],[],z⟩) (λz=>(.inl ():Sum Unit Bool)) (.x 0) ?_ ?_
  ·refine Bp (λn (y:Int×Nat)=>GG N a1297 b1298 n y.1) (λy=>⟨[(0,FW a1297),(1,FW b1298),(5,.i y.1)],[],y.2⟩) (0,3) dm (Ch F) ?_;rintro n ⟨ae,ck⟩ aa;simp only[GG]at aa;refine An hS F aa (λ_ aa=>?_) (λ_ aa=>?_)
   ·obtain⟨bf,cy,be,cu,aa⟩:=un aa;obtain⟨du,F⟩:=Cb GV cy F;obtain⟨dt,F⟩:=Cb GV cu F;refine An hS F aa (λ_ aa=>?_) (λ_ aa=>?_)
    ·obtain rfl:=yJ aa;exact Ai hS F h
    ·obtain⟨dq,aa⟩:=un aa;exact Cd hS F (n,ae+1,ck+1+1+1) aa
   ·exact B4 hS F (ck+1) aa
  ·rintro d6 rfl;exact Ai hS F h
