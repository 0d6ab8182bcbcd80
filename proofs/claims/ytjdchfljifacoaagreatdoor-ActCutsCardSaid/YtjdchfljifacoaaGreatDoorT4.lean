import Derived.Test.YtjdchfljifacoaaGreatDoorMF
set_option linter.all false
set_option maxRecDepth 100000
set_option maxHeartbeats 8000000
noncomputable section
namespace Go.Proofs.YtjdchfljifacoaaGreatDoor.Am
section
abbrev OU:=List Un×List Mk
def Iy(id:Int)(m:Mk):Bool:=decide (m.2.1≠id)
def U8(id:Int)(b:Bool)(m:Mk):Mk:=if m.1=id then(m.1,m.2.1,m.2.2.1,m.2.2.2.1,b)else m
def GL(ms:List Mk)(m:Mk):List Mk:=(ms.filter λx=>decide (x.1<m.1))++m::ms.filter λx=>decide (m.1<=x.1)
def Cw(u:Un)(l:List Pt):Un:=(u.1,u.2.1,u.2.2.1,l,u.2.2.2.2.1,u.2.2.2.2.2)
def FQ(u:Un)(j:Int):Un:=(j,u.2.1,u.2.2.1,u.2.2.2.1,u.2.2.2.2.1,u.2.2.2.2.2)
def KZ(l:List Pt)(i k:Int):List Pt×List Pt×Int:=if i<l.length/\k<l.length then RK l i.toNat k.toNat else([],[],70)
def U9(d:Pt)(u:Un):Un:=(u.1,u.2.1,u.2.2.1,u.2.2.2.1.map (mv d),u.2.2.2.2.1,u.2.2.2.2.2)
def WU(d:Pt)(u:Un):Prop:=∀p∈u.2.2.2.1,On (mv d p)
noncomputable instance(d:Pt)(u:Un):Decidable (WU d u):=Classical.propDecidable _
open Classical in
def IS(s:OU)(a:Ac):Option OU:=
 if a.1=1 then(if Fit s.1 a.2.1 then some (C6 s.1 a.2.1,s.2)else none)else
 if a.1=2 then(if∃u∈s.1,u.1=a.2.2.1 then some (CZ s.1 a.2.2.1,s.2.filter (Iy a.2.2.1))else none)else
 if a.1=3 then(match s.1.find? (λu=>decide (u.1=a.2.2.1))with
  |none=>none
  |some u=>
   let c:=KZ u.2.2.2.1 a.2.2.2.1 a.2.2.2.2.1
   let v:=Cw u c.1
   let w:=FQ (Cw u c.2.1) a.2.1.1
   if c.2.2=0/\Fit (CZ s.1 a.2.2.1) v/\Fit (C6 (CZ s.1 a.2.2.1) v) w then some (C6 (C6 (CZ s.1 a.2.2.1) v) w,s.2.filter (Iy a.2.2.1))else none)else
 if a.1=4 then(match s.1.find? (λu=>decide (u.1=a.2.2.1))with
  |none=>none
  |some u=>if WU (a.2.2.2.1,a.2.2.2.2.1) u/\Fit (CZ s.1 a.2.2.1) (U9 (a.2.2.2.1,a.2.2.2.2.1) u)then some (C6 (CZ s.1 a.2.2.1) (U9 (a.2.2.2.1,a.2.2.2.2.1) u),s.2)else none)else
 if a.1=5 then(if∃m∈s.2,m.1=a.2.2.2.2.2.1 then none else some (s.1,GL s.2 a.2.2.2.2.2))else
 if∃m∈s.2,m.1=a.2.2.1/\m.2.2.2.2≠decide (a.1=7)then some (s.1,s.2.map (U8 a.2.2.1 (decide (a.1=7))))else none
open Classical in
theorem AcY(f:List Un)(ms:List Mk)(u:Un)(id i k:Int)(m:Mk):IS (f,ms) (1,u,id,i,k,m)=if Fit f u then some (C6 f u,ms)else none:=by exact t8 rfl
open Classical in
theorem AcZ(f:List Un)(ms:List Mk)(u:Un)(id i k:Int)(m:Mk):IS (f,ms) (2,u,id,i,k,m)=if∃u∈f,u.1=id then some (CZ f id,ms.filter (Iy id))else none:=by unfold IS;grind
open Classical in
theorem XY(f:List Un)(ms:List Mk)(w:Un)(id i k:Int)(m:Mk):IS (f,ms) (3,w,id,i,k,m)=(match f.find? (λu=>decide (u.1=id))with
  |none=>none
  |some u=>if(KZ u.2.2.2.1 i k).2.2=0/\Fit (CZ f id) (Cw u (KZ u.2.2.2.1 i k).1)/\Fit (C6 (CZ f id) (Cw u (KZ u.2.2.2.1 i k).1)) (FQ (Cw u (KZ u.2.2.2.1 i k).2.1) w.1)then some (C6 (C6 (CZ f id) (Cw u (KZ u.2.2.2.1 i k).1)) (FQ (Cw u (KZ u.2.2.2.1 i k).2.1) w.1),ms.filter (Iy id))else none):=by
 unfold IS;grind
open Classical in
theorem Ac0(f:List Un)(ms:List Mk)(w:Un)(id i k:Int)(m:Mk):IS (f,ms) (4,w,id,i,k,m)=(match f.find? (λu=>decide (u.1=id))with
  |none=>none
  |some u=>if WU (i,k) u/\Fit (CZ f id) (U9 (i,k) u)then some (C6 (CZ f id) (U9 (i,k) u),ms)else none):=by
 unfold IS;grind
open Classical in
theorem Ac1(f:List Un)(ms:List Mk)(w:Un)(id i k:Int)(m:Mk):IS (f,ms) (5,w,id,i,k,m)=if∃x∈ms,x.1=m.1 then none else some (f,GL ms m):=by unfold IS;grind
open Classical in
theorem Ac2(f:List Un)(ms:List Mk)(w:Un)(id i k:Int)(m:Mk):IS (f,ms) (6,w,id,i,k,m)=if∃x∈ms,x.1=id/\x.2.2.2.2≠false then some (f,ms.map (U8 id false))else none:=by unfold IS;simp_all
open Classical in
theorem Ac3(f:List Un)(ms:List Mk)(w:Un)(id i k:Int)(m:Mk):IS (f,ms) (7,w,id,i,k,m)=if∃x∈ms,x.1=id/\x.2.2.2.2≠true then some (f,ms.map (U8 id true))else none:=by unfold IS;simp_all
def Mm(s:OU)(a:Ac):Option OU:=if SV s.1 s.2/\FA a then(match IS s a with|some t=>if MV t.1 t.2 then some t else none|none=>none)else none
def K0(o:Option OU):OU×Int:=match o with|some t=>(t,0)|none=>(([],[]),170)
theorem Iz{s:OU}{a:Ac}(h:SV s.1 s.2)(f:FA a):Mm s a=(match IS s a with|some t=>if MV t.1 t.2 then some t else none|none=>none):=t8 ⟨h,f⟩
theorem JH{s:OU}{a:Ac}(f:¬FA a):Mm s a=none:=t7 λh=>f h.2
open Classical in
theorem Abi{N:Nat}(hN:100<=N){u:Un}(h:UV u){d:Pt}(hd:XK d):GJ N u.1 u.2.1 u.2.2.1 u.2.2.2.1 u.2.2.2.2.1 u.2.2.2.2.2 d.1 d.2=some (if WU d u then(U9 d u,0)else(Ri,80)):=by
 unfold GJ;rw[nU hN h.l hd,NI hN h];by_cases ho:WU d u
 ·have ho':∀p∈u.2.2.2.1,On (mv d p):=ho;rw[t8 ho,t8 ho',bS];rfl
 ·have ho':¬∀p∈u.2.2.2.1,On (mv d p):=ho;rw[t7 ho,t7 ho',bS];rfl
section
variable{N:Nat}(hN:1001<=N)
include hN
theorem Va{f:List Un}(h:FV f):∀n k,k<=f.length->f.length<n+k->D4 N f n (k:Nat) (f.take k)=some f
 |0,k,h1,h2=>by omega
 |n+1,k,h1,h2=>by
  rw[D4];by_cases e:k<f.length
  ·have hl:=h.len;rw[Fe e,cT,GE e,bS];simp only;rw[NE (h.val _ (FY e)),bS,Ab (by rw[A23];omega),Ab (by omega),<-ns];have:=Va h n (k+1) (by omega) (by omega);rw[KC e]at this;exact this
  grind
theorem KG{f:List Un}(h:FV f):Fk N f=some f:=by have hl:=h.len;have:=Va hN h N 0 (by omega) (by omega);exact this
omit hN in
theorem WV{L:Nat->Int->Option (Sum Unit Int)}{ms:List Mk}(p:Mk->Bool)(hl:ms.length<N)(h1:∀n (k:Nat),k<ms.length->p (CI ms k)=false->L (n+1) k=L n ((k+1:Nat):Int))(h2:∀n (k:Nat),k<ms.length->p (CI ms k)=true->L (n+1) k=some (.inr (k:Int)))(h3:∀n,L (n+1) ms.length=some (.inl ())):(L N 0=some (.inl ())/\∀m∈ms,p m=false)\/∃k:Nat,k<ms.length/\p (CI ms k)=true/\(∀i,i<k->p (CI ms i)=false)/\L N 0=some (.inr (k:Int)):=by
 have F:=HK (L:=L) (λk=>bif p (CI ms k)then some (k)else none) (by grind) (λn k r hk e=>?_) h3 N hl
 ·rcases F with⟨e,h⟩|⟨j,r,hj,h,h4,e⟩
  ·refine .inl ⟨e,λm hm=>?_⟩;obtain⟨k,hk,rfl⟩:=MR hm;grind
  grind
 grind
omit hN in
theorem aR{ms:List Mk}(id:Int)(hl:ms.length<N)(h9:N<=100000):(Be N ms id=some (-1)/\∀m∈ms,m.2.1≠id)\/∃k:Nat,k<ms.length/\(CI ms k).2.1=id/\(∀i,i<k->(CI ms i).2.1≠id)/\Be N ms id=some (k:Int):=by
 unfold Be;have F:=WV (L:=AY N ms id) (λm=>decide (m.2.1=id)) hl (λn k hk e=>by rw[AY,Fe hk,cT,GP hk,bS];simp only;rw[Cl,bS,e,cF,Ab (by omega),ns]) (by simp_all[AY,GP,Cl]) (by simp_all[AY]);grind
omit hN in
theorem aS{ms:List Mk}(id:Int)(hl:ms.length<N)(h9:N<=100000):(Bf N ms id=some (-1)/\∀m∈ms,m.1≠id)\/∃k:Nat,k<ms.length/\(CI ms k).1=id/\(∀i,i<k->(CI ms i).1≠id)/\Bf N ms id=some (k:Int):=by
 unfold Bf;have F:=WV (L:=AZ N ms id) (λm=>decide (m.1=id)) hl (λn k hk e=>by rw[AZ,Fe hk,cT,GP hk,bS];simp only;rw[FK,bS,e,cF,Ab (by omega),ns]) (by simp_all[AZ,GP,FK]) (by simp_all[AZ]);grind
omit hN in
theorem Tg{ms:List Mk}{i:Nat}(hi:i<ms.length):ms.take (i+1)=ms.take i++[CI ms i]:=by rw[G3 hi,List.take_append_getElem]
omit hN in
theorem iE{ms l:List Mk}{j:Nat}(hj:j<ms.length)(hl:l.length=ms.length)(e:l.drop j=ms.drop j):CI l j=CI ms j:=by rw[G3 hj,G3 (by omega)];have h1:=z7 (l:=l) (i:=j) (by omega);have h2:=z7 hj;exact by grind
omit hN in
theorem Pn{L:Nat->Int->Int->List Mk->Option (Int×List Mk)}{ms:List Mk}{id:Int}(g1:∀n (i j:Nat) (l:List Mk),i<=j->j<l.length->l.length=ms.length->(CI l j).2.1≠id->L (n+1) i j l=L n ((i+1:Nat):Int) ((j+1:Nat):Int) (l.set i (CI l j)))(g2:∀n (i j:Nat) (l:List Mk),i<=j->j<l.length->l.length=ms.length->(CI l j).2.1=id->L (n+1) i j l=L n i ((j+1:Nat):Int) l)(g3:∀n (i:Nat) (l:List Mk),L (n+1) i (l.length:Nat) l=some ((i:Int),l)):∀n (i j:Nat) (l:List Mk),i<=j->j<=ms.length->ms.length<n+j->l.length=ms.length->l.take i=(ms.take j).filter (Iy id)->l.drop j=ms.drop j->∃(i':Nat)(l':List Mk),L n i j l=some ((i':Int),l')/\i'<=l'.length/\l'.length=ms.length/\l'.take i'=ms.filter (Iy id)
 |0,i,j,l,h1,h2,h3,h4,h5,h6=>by omega
 |n+1,i,j,l,h1,h2,h3,h4,h5,h6=>by
  by_cases e:j<ms.length
  ·have hm:=iE e h4 h6;by_cases c:(CI ms j).2.1=id
   ·rw[g2 n i j l h1 (by omega) h4 (by rw[hm];exact c)];refine Pn g1 g2 g3 n i (j+1) l (by omega) (by omega) (by omega) h4 ?_ ?_
    ·rw[Tg e,A34,h5];have:[CI ms j].filter (Iy id)=[]:=by simp[Iy,c]
     rw[this,A05]
    ·have:=congrArg (List.drop 1) h6;rw[List.drop_drop,List.drop_drop]at this;exact this
   ·rw[g1 n i j l h1 (by omega) h4 (by rw[hm];exact c)];refine Pn g1 g2 g3 n (i+1) (j+1) (l.set i (CI l j)) (by omega) (by omega) (by omega) (by rw[List.length_set];exact h4) ?_ ?_
    ·rw[Tg e,A34,<-h5,hm];have:[CI ms j].filter (Iy id)=[CI ms j]:=by simp[Iy,c]
     rw[this,List.take_succ_eq_append_getElem (by rw[List.length_set];omega),List.getElem_set_self,List.take_set_of_le (w6 _)]
    ·have:=congrArg (List.drop 1) h6;rw[List.drop_drop,List.drop_drop]at this;rw[List.drop_set_of_lt (by omega)];exact this
  grind
variable(h9:N<=100000)
include h9
variable(a b c p q id i k m1 m2 m3 m4:Int)(l:List Pt)(o:Bool)
omit hN h9 in
theorem LV{f:List Un}{ms:List Mk}(h:MV f ms):ms.length<=20:=h.len
omit hN h9 in
theorem Vb(ms:List Mk)(p:Mk->Bool):(ms.filter p).length<=ms.length:=by grind
theorem Io{f:List Un}(hf:FV f){ms:List Mk}(hl:ms.length<=1000):((Cz N f ms).bind λr=>bif !r then some ((([]:List Un),([]:List Mk)),(170:Int))else(Fk N f).bind λu=>gd (ms.length*40<=140737488355328)<|some ((u,ms),0))=some (K0 (if MV f ms then some (f,ms)else none)):=by
 rw[SM hN hf hl,bS];by_cases c:MV f ms
 ·rw[q9 c,BL _ (by rfl),t8 c,KG hN hf,bS,Ab (by omega)];rfl
 ·rw[s6 c,Ca _ (by rfl),t7 c];rfl
theorem Abj{f:List Un}{ms:List Mk}(h:SV f ms):Ht N f ms a b c l p q id i k m1 m2 m3 m4 o=some (K0 (Mm (f,ms) (1,(a,b,c,l,p,q),id,i,k,(m1,m2,m3,m4,o)))):=by
 have hl:=LV h.2;unfold Ht;rw[Abb hN,bS];by_cases fa:FA (1,(a,b,c,l,p,q),id,i,k,(m1,m2,m3,m4,o))
 ·rw[q9 fa,BL _ (by rfl),Iz h fa,KG hN h.1,bS,Ab (by omega)];have:=Te hN f (a,b,c,l,p,q);rw[this,bS];rw[AcY];by_cases t:Fit f (a,b,c,l,p,q)
  ·rw[t8 t,t8 t];exact Io hN h9 t.fv (by omega)
  ·rw[t7 t,t7 t];rfl
 ·rw[s6 fa,Ca _ (by rfl),JH fa];rfl
omit hN h9 in
theorem Qf{ms:List Mk}(h:∀m∈ms,m.2.1≠id):ms.filter (Iy id)=ms:=by rw[A58];intro m hm;unfold Iy;rw[s7];exact h m hm
omit hN h9 in
theorem aT{ms:List Mk}{k:Nat}(hk:k<ms.length)(h1:(CI ms k).2.1=id)(h2:∀i,i<k->(CI ms i).2.1≠id):ms.take k=(ms.take (k+1)).filter (Iy id):=by rw[Tg hk,A34];grind[Iy,Qf,List.mem_iff_getElem,G3]
theorem Abk{f:List Un}{ms:List Mk}(h:SV f ms):Hu N f ms a b c l p q id i k m1 m2 m3 m4 o=some (K0 (Mm (f,ms) (2,(a,b,c,l,p,q),id,i,k,(m1,m2,m3,m4,o)))):=by
 have hl:=LV h.2;have fl:=Vb ms (Iy id);unfold Hu;rw[Abc hN,bS];by_cases fa:FA (2,(a,b,c,l,p,q),id,i,k,(m1,m2,m3,m4,o))
 ·rw[q9 fa,BL _ (by rfl),Iz h fa,KG hN h.1,bS,Ab (by omega),eZ hN f id,bS];rw[AcZ];by_cases t:∃u∈f,u.1=id
  ·rw[t8 ⟨h.1,t⟩,t8 t];simp only;have rv:FV (CZ f id):=h.1.sub List.filter_sublist;rw[BL _ (by rfl)];rcases aR id (ms:=ms) (N:=N) (by omega) h9 with⟨e,g⟩|⟨k,hk,g1,g2,e⟩
   ·rw[e,bS,Ca _ (by rfl),Qf id g];exact Io hN h9 rv (by omega)
   ·rw[e,bS,BL _ (by rw[s8];omega),Ab (by unfold Ai;omega)];obtain⟨i',l',e1,e2,e3,e4⟩:=Pn (L:=DC N id) (ms:=ms) (id:=id) (λn i j l h1 h2 h4 h3=>by
      rw[DC,Fe h2,cT,GP h2,bS];simp only;rw[Cl,bS,s6 h3,Ca _ (by rfl),GP (by omega),bS];rw[Ab (by omega),Ab (by omega),ns,ns,A19]) (λn i j l h1 h2 h4 h3=>by
      rw[DC,Fe h2,cT,GP h2,bS];simp only;rw[Cl,bS,q9 h3,BL _ (by rfl),Ab (by omega),ns]) (by simp_all[DC]) N k (k+1) ms (by omega) (by omega) (by omega) rfl (aT id hk g1 g2) rfl
    grind[Ab,Io]
  ·rw[t7 (λw=>t w.2),t7 t];rfl
 ·rw[s6 fa,Ca _ (by rfl),JH fa];rfl
omit hN h9 in
theorem iF{l:List Pt}(h:VP l){i k:Int}(hi:0<=i)(hk:0<=k)(hN:100<=N):GI N l i k=some (KZ l i k):=by
 unfold KZ;by_cases c:i<l.length/\k<l.length
 ·rw[t8 c];have:=nV hN h (i:=i.toNat) (k:=k.toNat) (by omega) (by omega);rw[A39 hi,A39 hk]at this;exact this
 ·rw[t7 c];unfold GI;rw[G2 hN h,bS,Ca _ (by simp;omega)]
omit hN h9 in
theorem WW{f:List Un}(h:FV f)(t:Int):(f.find? (λu=>decide (u.1=t))=none/\FD f t=(Ri,false)/\¬∃u∈f,u.1=t)\/∃u∈f,u.1=t/\f.find? (λu=>decide (u.1=t))=some u/\FD f t=(u,true):=by unfold FD;grind
theorem Abl{f:List Un}{ms:List Mk}(h:SV f ms):Hv N f ms a b c l p q id i k m1 m2 m3 m4 o=some (K0 (Mm (f,ms) (3,(a,b,c,l,p,q),id,i,k,(m1,m2,m3,m4,o)))):=by
 have hl:=LV h.2;have fl:=Vb ms (Iy id);unfold Hv;rw[Abd hN,bS];by_cases fa:FA (3,(a,b,c,l,p,q),id,i,k,(m1,m2,m3,m4,o))
 ·rw[q9 fa,BL _ (by rfl),Iz h fa,KG hN h.1,bS,Ab (by omega),LU hN,bS,XY];have fb:=zE.1 fa;rcases WW h.1 id with⟨e,e2,t⟩|⟨u,hu,t,e,e2⟩
  ·rw[e,e2];simp only;rw[BL _ (by rfl)];rfl
  ·rw[e,e2];simp only;rw[Ca _ (by rfl),iF (h.1.val u hu).l fb.2.2.2.1.1 fb.2.2.2.2.1.1 (by omega),bS];generalize KZ u.2.2.2.1 i k=z;obtain⟨z1,z2,z3⟩:=z;simp only;by_cases t3:z3=0
   ·subst t3;rw[BL _ (by rfl),eZ hN f id,bS,t8 ⟨h.1,u,hu,t⟩];simp only;have rv:FV (CZ f id):=h.1.sub List.filter_sublist;rw[BL _ (by rfl)];have a1:=Te hN (CZ f id) (Cw u z1);have a2:=Te hN (C6 (CZ f id) (Cw u z1)) (FQ (Cw u z2) a);unfold Cw at a1;unfold Cw FQ at a2⊢;simp only at a1 a2⊢;rcases aR id (ms:=ms) (N:=N) (by omega) h9 with⟨g0,g⟩|⟨k',hk,g1,g2,g0⟩
    ·rw[g0,bS,Ca _ (by rfl),Qf id g,a1,bS];by_cases t1:Fit (CZ f id) (u.1,u.2.1,u.2.2.1,z1,u.2.2.2.2.1,u.2.2.2.2.2)
     ·rw[t8 t1];simp only;rw[BL _ (by rfl),a2,bS];by_cases t2:Fit (C6 (CZ f id) (u.1,u.2.1,u.2.2.1,z1,u.2.2.2.2.1,u.2.2.2.2.2)) (a,u.2.1,u.2.2.1,z2,u.2.2.2.2.1,u.2.2.2.2.2)
      ·rw[t8 t2,t8 ⟨trivial,t1,t2⟩];simp only;rw[BL _ (by rfl)];exact Io hN h9 t2.fv (by omega)
      ·rw[t7 t2,t7 λw=>t2 w.2.2];simp only;rw[Ca _ (by rfl)];rfl
     ·rw[t7 t1,t7 λw=>t1 w.2.1];rfl
    ·rw[g0,bS,BL _ (by rw[s8];omega),Ab (by omega)];obtain⟨i',l',e1,e2,e3,e4⟩:=Pn (L:=DD N id) (ms:=ms) (id:=id) (λn i j l h1 h2 h4 h3=>by
       rw[DD,Fe h2,cT,GP h2,bS];simp only;rw[Cl,bS,s6 h3,Ca _ (by rfl),GP (by omega),bS];rw[Ab (by omega),Ab (by omega),ns,ns,A19]) (λn i j l h1 h2 h4 h3=>by
       rw[DD,Fe h2,cT,GP h2,bS];simp only;rw[Cl,bS,q9 h3,BL _ (by rfl),Ab (by omega),ns]) (λn i l=>by rw[DD,K3,cF]) N k' (k'+1) ms (by omega) (by omega) (by omega) rfl (aT id hk g1 g2) rfl
     rw[<-ns,e1,bS];simp only;rw[Ab (by omega),Ab (by grind),A19,e4,a1,bS];by_cases t1:Fit (CZ f id) (u.1,u.2.1,u.2.2.1,z1,u.2.2.2.2.1,u.2.2.2.2.2)
     ·rw[t8 t1];rw[BL _ (by rfl),a2,bS];by_cases t2:Fit (C6 (CZ f id) (u.1,u.2.1,u.2.2.1,z1,u.2.2.2.2.1,u.2.2.2.2.2)) (a,u.2.1,u.2.2.1,z2,u.2.2.2.2.1,u.2.2.2.2.2)
      ·rw[t8 t2,t8 ⟨trivial,t1,t2⟩];exact Io hN h9 t2.fv (by omega)
      ·rw[t7 t2,t7 λw=>t2 w.2.2];rfl
     ·rw[t7 t1,t7 λw=>t1 w.2.1];rfl
   ·rw[s6 t3,Ca _ (by rfl),t7 λw=>t3 w.1];rfl
 ·rw[s6 fa,Ca _ (by rfl),JH fa];rfl
theorem Abm{f:List Un}{ms:List Mk}(h:SV f ms):Hw N f ms a b c l p q id i k m1 m2 m3 m4 o=some (K0 (Mm (f,ms) (4,(a,b,c,l,p,q),id,i,k,(m1,m2,m3,m4,o)))):=by
 have hl:=LV h.2;unfold Hw;rw[Abe hN,bS];by_cases fa:FA (4,(a,b,c,l,p,q),id,i,k,(m1,m2,m3,m4,o))
 ·rw[q9 fa,BL _ (by rfl),Iz h fa,KG hN h.1,bS,Ab (by omega),LU hN,bS,Ac0];have fb:=fa4.1 fa;rcases WW h.1 id with⟨e,e2,t⟩|⟨u,hu,t,e,e2⟩
  ·rw[e,e2];rfl
  ·rw[e,e2];simp only;have um:=Abi (N:=N) (by omega) (h.1.val u hu) (d:=(i,k)) (by unfold XK;omega);rw[Ca _ (by rfl),um,bS];by_cases t3:WU (i,k) u
   ·rw[t8 t3];rw[BL _ (by rfl),eZ hN f id,bS,t8 ⟨h.1,u,hu,t⟩];have a1:=Te hN (CZ f id) (U9 (i,k) u);rw[BL _ (by rfl),a1,bS];by_cases t1:Fit (CZ f id) (U9 (i,k) u)
    ·rw[t8 t1,t8 ⟨t3,t1⟩];exact Io hN h9 t1.fv (by omega)
    ·rw[t7 t1,t7 λw=>t1 w.2];rfl
   ·rw[t7 t3,t7 λw=>t3 w.1];rfl
 ·rw[s6 fa,Ca _ (by rfl),JH fa];rfl
omit hN h9 in
theorem XZ{f:List Un}{ms:List Mk}(h:MV f ms){i k:Nat}(hik:i<=k)(hk:k<ms.length):(CI ms i).1<=(CI ms k).1:=by
 by_cases e:i=k
 ·rw[e];omega
 ·have:=KF.1 h.srt i k (by omega) hk;omega
omit hN h9 in
theorem zG(s:Nat)(h:s<60):IntKind.wrap .i64 (D5 .shr .u64 (IntKind.wrap .u64 ((s:Nat):Int)) 1)=((s/2:Nat):Int):=WJ s h
omit hN h9 in
theorem zH(N:Nat)(x:Mk)(t:Int):EY N x.1 x.2.1 x.2.2.1 x.2.2.2.1 x.2.2.2.2 t=some (if x.1<t then-1 else if t<x.1 then 1 else 0):=by unfold EY;rw[Lf,bS]
omit hN h9 in
theorem R0(N:Nat){f:List Un}{ms:List Mk}(h:MV f ms)(t:Int):∀(n i j:Nat),i<=j->j<=ms.length->j<n+i->(∀k,k<i->(CI ms k).1<t)->(∀k,j<=k->k<ms.length->t<=(CI ms k).1)->∃r:Nat,AI N ms t n i j=some (r:Int)/\r<=ms.length/\(∀k,k<r->(CI ms k).1<t)/\∀k,r<=k->k<ms.length->t<=(CI ms k).1
 |0,i,j,h1,_,h3,_,_=>by omega
 |n+1,i,j,h1,h2,h3,h4,h5=>by
  have hl:=h.len;rw[AI];by_cases e:i=j
  ·grind
  ·have hm:(i+j)/2<ms.length:=by omega
   rw[Fe (by omega),cT,Ab (by omega),<-Int.natCast_add,zG _ (by omega),GP hm,bS];simp only;rw[zH,bS];by_cases c:(CI ms ((i+j)/2)).1<t
   ·rw[t8 c,Ca _ (by rfl),Ab (by omega),<-ns];exact R0 N h t n _ j (by omega) h2 (by omega) (λk hk=>by have:=XZ h (i:=k) (by omega) hm;omega) h5
   ·rw[t7 c,BL _ (by split<;>rfl)];exact R0 N h t n i _ (by omega) (by omega) (by omega) h4 (λk h6 h7=>by have:=XZ h h6 h7;omega)
omit hN in
open Classical in
theorem Abn{f:List Un}{ms:List Mk}(h:MV f ms)(t:Int)(hN:1001<=N):∃r:Nat,r<=ms.length/\ms.take r=(ms.filter λx=>decide (x.1<t))/\ms.drop r=(ms.filter λx=>decide (t<=x.1))/\Bk N ms t=some ((r:Int),decide (∃x∈ms,x.1=t)):=by
 have hl:=h.len;obtain⟨r,e,h1,h2,h3⟩:=R0 N h t N 0 ms.length (by omega) (by omega) (by omega) (λk hk=>by omega) (λk h1 h2=>by omega);rw[y9]at e;have tk:∀x∈ms.take r,x.1<t:=by grind[List.mem_iff_getElem,G3]
 have dp:∀x∈ms.drop r,t<=x.1:=λx hx=>by obtain⟨j,hj,rfl⟩:=List.mem_iff_getElem.1 hx;rw[A11]at hj;rw[List.getElem_drop,<-G3 (by omega)];exact h3 (r+j) (by omega) (by omega)
 have sp:=A37 r ms;refine⟨r,h1,?_,?_,?_⟩
 ·rw[<-A37 r ms,A34,A37 r ms,A58.2 λx hx=>q9 (tk x hx),A59.2 λx hx=>by rw[s7];have:=dp x hx;omega,A05]
 ·rw[<-A37 r ms,A34,A37 r ms,A59.2 λx hx=>by rw[s7];have:=tk x hx;omega,A58.2 λx hx=>q9 (dp x hx),A02]
 ·unfold Bk;have cm:=zH N (CI ms r) t;unfold CI at cm;rw[e,bS,BY (λh=>by simp only[s7]at h;omega),A19,cm,BY (λ_=>w8),A00];congr 2;rw[A49,s7,y8,s7,s7];constructor
  ·rintro⟨g1,g2⟩;refine⟨_,Kc (k:=r) (by omega),?_⟩;unfold CI;split at g2
   ·omega
   ·split at g2<;>omega
  ·rintro⟨x,hx,e⟩;obtain⟨k,hk,rfl⟩:=MR hx;have g1:r<=k:=by
    by_cases c:r<=k
    ·exact c
    ·have:=h2 k (by omega);omega
   have g2:=h3 r (w6 _) (by omega);have g3:=XZ h g1 hk;unfold CI at g2 g3 e;refine⟨by omega,?_⟩;rw[t7 (by omega),t7 (by omega)]
theorem Abo{f:List Un}{ms:List Mk}(h:SV f ms):Hx N f ms a b c l p q id i k m1 m2 m3 m4 o=some (K0 (Mm (f,ms) (5,(a,b,c,l,p,q),id,i,k,(m1,m2,m3,m4,o)))):=by
 have hl:=LV h.2;unfold Hx;rw[Abf hN,bS];by_cases fa:FA (5,(a,b,c,l,p,q),id,i,k,(m1,m2,m3,m4,o))
 ·obtain⟨r,r1,r2,r3,r4⟩:=Abn h9 h.2 m1 (by omega);rw[q9 fa,BL _ (by rfl),Iz h fa,KG hN h.1,bS,Ab (by omega),r4,bS,Ac1];simp only;by_cases t:∃x∈ms,x.1=m1
  ·rw[q9 t,Ca _ (by rfl),t8 t];rfl
  ·rw[s6 t,BL _ (by rfl),t7 t,Ab (by omega),Ab (by omega),A19];have il:(ms.take r++[(m1,m2,m3,m4,o)]++ms.drop r).length=ms.length+1:=by grind
   have ie:GL ms (m1,m2,m3,m4,o)=ms.take r++[(m1,m2,m3,m4,o)]++ms.drop r:=by grind[GL]
   rw[ie];exact Io hN h9 h.1 (by omega)
 ·rw[s6 fa,Ca _ (by rfl),JH fa];rfl
omit hN h9 in
theorem WY{f:List Un}{ms:List Mk}(h:MV f ms){k:Nat}(hk:k<ms.length)(b:Bool):ms.set k ((CI ms k).1,(CI ms k).2.1,(CI ms k).2.2.1,(CI ms k).2.2.2.1,b)=ms.map (U8 (CI ms k).1 b):=by
 refine List.ext_getElem (by rw[List.length_set,A04]) λj h1 h2=>?_
 rw[List.length_set]at h1;rw[List.getElem_map,List.getElem_set];unfold U8;rw[<-G3 h1];by_cases e:k=j
 ·subst e;rw[t8 rfl,t8 rfl]
 ·rw[t7 e,t7];by_cases c:k<j
  ·have:=KF.1 h.srt k j c h1;omega
  ·have:=KF.1 h.srt j k (by omega) hk;omega
theorem Abp{f:List Un}{ms:List Mk}(h:SV f ms):Hy N f ms a b c l p q id i k m1 m2 m3 m4 o=some (K0 (Mm (f,ms) (6,(a,b,c,l,p,q),id,i,k,(m1,m2,m3,m4,o)))):=by
 have hl:=LV h.2;unfold Hy;rw[Abg hN,bS];by_cases fa:FA (6,(a,b,c,l,p,q),id,i,k,(m1,m2,m3,m4,o))
 ·rw[q9 fa,BL _ (by rfl),Iz h fa,KG hN h.1,bS,Ab (by omega),Ac2];rcases aS id (ms:=ms) (N:=N) (by omega) h9 with⟨e,g⟩|⟨k',hk,g1,g2,e⟩
  ·rw[e,bS,BY (by grind),BY (by grind),show decide (0<=(-1:Int))=false from rfl,Bool.false_and,Ca _ (by rfl),t7]
   ·rfl
   grind
  ·rw[e,bS,Ab (λ_=>by omega),Ab (λ_=>by omega),q9 (p:=(0:Int)<=(k')) (by omega),A60,A19,show(ms.getD k' (0,0,0,0,false))=CI ms k' from rfl];by_cases t:(CI ms k').2.2.2.2=false
   ·rw[t,Ca _ (by rfl),t7]
    ·rfl
    ·rintro⟨x,hx,e,e2⟩;obtain⟨j,hj,rfl⟩:=MR hx;have:j=k':=by
      by_cases c:k'<j
      ·have:=KF.1 h.2.srt k' j c hj;omega
      grind
     grind
   ·rw[BL _ (by rw[Bool.not_eq_false',bne_iff_ne];exact t),GP hk,bS,t8 ⟨_,Kc hk,g1,t⟩];simp only;rw[WY h.2 hk false,g1];exact Io hN h9 h.1 (by rw[A04];omega)
 ·rw[s6 fa,Ca _ (by rfl),JH fa];rfl
theorem Abq{f:List Un}{ms:List Mk}(h:SV f ms):Hz N f ms a b c l p q id i k m1 m2 m3 m4 o=some (K0 (Mm (f,ms) (7,(a,b,c,l,p,q),id,i,k,(m1,m2,m3,m4,o)))):=by
 have hl:=LV h.2;unfold Hz;rw[Abh hN,bS];by_cases fa:FA (7,(a,b,c,l,p,q),id,i,k,(m1,m2,m3,m4,o))
 ·rw[q9 fa,BL _ (by rfl),Iz h fa,KG hN h.1,bS,Ab (by omega),Ac3];rcases aS id (ms:=ms) (by omega) h9 with⟨e,g⟩|⟨k',hk,g1,g2,e⟩
  ·rw[e,bS,BY (by grind),BY (by grind),show decide (0<=(-1))=false from rfl,Bool.false_and,Ca _ (by rfl),t7]
   ·rfl
   grind
  ·rw[e,bS,Ab (λ_=>by omega),Ab (λ_=>by omega),q9 (p:=(0:Int)<=(k')) (by omega),A60,A19,show(ms.getD k' (0,0,0,0,false))=CI ms k' from rfl];by_cases t:(CI ms k').2.2.2.2=true
   ·rw[t,Ca _ (by rfl),t7]
    ·rfl
    ·rintro⟨x,hx,e,e2⟩;obtain⟨j,hj,rfl⟩:=MR hx;have:j=k':=by
      by_cases c:k'<j
      ·have:=KF.1 h.2.srt k' j c hj;omega
      grind
     grind
   ·rw[BL _ (by rw[Bool.not_eq_false',bne_iff_ne];exact t),GP hk,bS,t8 ⟨_,Kc hk,g1,t⟩];simp only;rw[WY h.2 hk true,g1];exact Io hN h9 h.1 (by rw[A04];omega)
 ·rw[s6 fa,Ca _ (by rfl),JH fa];rfl
theorem Abr{f:List Un}{ms:List Mk}(h:SV f ms)(n:Int):In N f ms n a b c l p q id i k m1 m2 m3 m4 o=some (K0 (Mm (f,ms) (n,(a,b,c,l,p,q),id,i,k,(m1,m2,m3,m4,o)))):=by
 unfold In;split;·grind[Abj]
 split;·grind[Abk]
 split;·grind[Abl]
 split;·grind[Abm]
 split;·grind[Abo]
 split;·grind[Abp]
 split;·grind[Abq]
 unfold IH;have hh:¬FA (n,(a,b,c,l,p,q),id,i,k,(m1,m2,m3,m4,o)):=fa0 (by omega);rw[zF hN _ _ _ _ _ _ _ _ _ _ _ _ _ _ (by omega),bS,s6 hh,Ab rfl,JH hh];rfl
theorem Abs{f:List Un}{ms:List Mk}(hl:ms.length<=1000)(n:Int):Ct N f ms n a b c l p q id i k m1 m2 m3 m4 o=some (K0 (Mm (f,ms) (n,(a,b,c,l,p,q),id,i,k,(m1,m2,m3,m4,o)))):=by
 unfold Ct;rw[aQ hN f hl,bS];by_cases h:SV f ms
 ·rw[q9 h,BL _ (by rfl),Abr hN h9 _ _ _ _ _ _ _ _ _ _ _ _ _ _ h,bS]
 ·rw[s6 h,Ca _ (by rfl),show Mm (f,ms) (n,(a,b,c,l,p,q),id,i,k,(m1,m2,m3,m4,o))=none from t7 λw=>h w.1];rfl
end
end
section
open Go
attribute [local irreducible] Aq BD Bv A8 Bq Ba AQ Bw By Ck
def Ky(x:Int×Int×Int×Int):List AV:=[.i x.1,.i x.2.1,.i x.2.2.1,.i x.2.2.2]
def QZ:List AV->Int×Int×Int×Int|[.v (.int _ a1),.v (.int _ a2),.v (.int _ a3),.v (.int _ a4)]=>(a1,a2,a3,a4)|_=>(0,0,0,0)
theorem nJ(x:Int×Int×Int×Int):QZ (Ky x)=x:=by rfl
theorem nK(R:List (Int×Int×Int×Int)):(R.map Ky).map QZ=R:=by
 induction R with
 |nil=>rfl
 |cons r R ih=>rw[w5,w5,ih,nJ]
def Uu:Rw (Int×Int×Int×Int):=⟨4,Ky,QZ,[.i 0,.i 0,.i 0,.i 0]⟩
def Q0(l:List (Int×Int×Int×Int)):AV:=.sl 4 false (l.map Ky) [.i 0,.i 0,.i 0,.i 0]
def wE(l:List (Int×Int×Int×Int)):AV:=.sl 4 true (l.map Ky) [.i 0,.i 0,.i 0,.i 0]
attribute [go_sem] Uu Q0 wE Ky QZ nK
def Do(N:Nat)(x1005:List (Int×Int×Int×Int))(r1007:List (Int×Int×Int×(List (Int×Int))×Int×Int)):Nat->Int->(List (Int×Int×Int×Int×Bool))->Option ((List (Int×Int×Int×Int×Bool)))|0,_,_=>none|n+1,aa,ab=>bif ((decide (aa<(x1005.length:Int)))&&(decide (aa<8)))&&(decide (0<(r1007.length:Int)))then((Bz x1005 aa).bind λ(av,au,aq,af)=>(CY N au (r1007.length:Int)).bind λbe=>(Bz r1007 be).bind λ(an,bu,br,x1076,bq,bp)=>(CY N av 12).bind λbb=>gd (Ai ((x1076.length:Int)+2))<|(CY N aq ((x1076.length:Int)+2)).bind λak=>gd (Ai (ak-2))<|(CY N af 5).bind λaj=>gd (Ai (1+aj))<|(CY N af 2).bind λba=>(Fd N ab bb an (ak-2) (1+aj) (decide (ba=0))).bind λ(ai,az)=>bif az then(gd (Ai (aa+1))<|Do N x1005 r1007 n (aa+1) ai)else(gd (Ai (aa+1))<|Do N x1005 r1007 n (aa+1) ab))else(some ab)
def Fp(N:Nat)(ah:List (Int×Int×Int×Int×Int×Int))(x1005:List (Int×Int×Int×Int))(aw:List (Int×Int×Int×Int×Int×Int)):Option ((List (Int×Int×Int×(List (Int×Int))×Int×Int))×(List (Int×Int×Int×Int×Bool))):=(EJ N ah).bind λr1007=>(Do N x1005 r1007 N 0 []).bind λay=>some (r1007,ay)
@[go_sem] def s12(N:Nat):Spec:=p0<|(qG<|qS JT<|qS Uu<|qS JT<|qE<|qE<|qF ([],[]) λr=>.agg [Ao r.1,Bj r.2]) (Fp N)
theorem AaU(N:Nat):Au Tryz.prog 5 (s12 N):=by
 refine fk (wX x5 (Aa (AaM N)<|Aa (AaP N)<|Aa (AaO N)<|Ae)) ?_;intro ah x1005 aw r h _ hS F;dsimp only[x5,Ad,Uu,JT];unfold Fp at h;obtain⟨r1007,bm,h⟩:=un h;replace F:=fc bm F;refine go hS F ?_;refine V6 (104,2) 1 5 [.i 0,.i 0,.i 0,.i 0,.b false] (ev F) ?_;obtain⟨bv,b9,h⟩:=un h;refine go hS F ?_;refine BU bv (λz:(List (Int×Int×Int×Int×Bool))×Nat=>⟨[(2,.box (1,1) 0),(3,.box (104,2) 0)],[(.c (104,2) 0,Ao r1007),(.c (104,2) 1,Bj z.1),(.c (1,1) 0,.sl 0 true [] []),(.c (1,1) 1,.sl 0 true [] [])],z.2⟩) (λz=>(z.1:(List (Int×Int×Int×Int×Bool)))) (.x 0) ?_ ?_
 ·refine BO (λn (y:Int×(List (Int×Int×Int×Int×Bool))×Nat)=>Do N x1005 r1007 n y.1 y.2.1) (λy=>⟨[(1,.box (0,1) 0),(2,.box (1,1) 0),(3,.box (104,2) 0),(4,.i y.1)],[(.c (104,2) 0,Ao r1007),(.c (104,2) 1,Bj y.2.1),(.c (1,1) 0,.sl 0 true [] []),(.c (1,1) 1,.sl 0 true [] []),(.c (0,1) 0,HX ah),(.c (0,1) 1,Q0 x1005),(.c (0,1) 2,HX aw)],y.2.2⟩) (0,[],3) b9 (CB F) ?_;rintro n ⟨aa,ab,am⟩ ae;simp only[Do]at ae;refine An hS F ae (λ_ ae=>?_) (λ_ ae=>?_)
  ·obtain⟨⟨av,au,aq,af⟩,bo,ae⟩:=un ae;obtain⟨bz,F⟩:=CH Ky bo F;obtain⟨be,bl,⟨an,bu,br,x1076,bq,bp⟩,bn,ae⟩:=un ae;obtain⟨bw,F⟩:=CH Ap bn (fc bl F);obtain⟨bb,bj,cn,ak,bi,ck,aj,bh,cj,ba,bg,⟨ai,az⟩,bf,ae⟩:=un ae;replace F:=fc bf (fc bg (fc bh (fc bi (fc bj F))));refine An hS F ae (λ_ ae=>?_) (λ_ ae=>?_)
   ·obtain⟨ci,ae⟩:=un ae;exact CS hS F (n,aa+1,ai,am+1+1+1+1+1+1+1+1) ae
   ·obtain⟨ce,ae⟩:=un ae;exact CS hS F (n,aa+1,ab,am+1+1+1+1+1+1+1) ae
  ·exact Cu hS F (ab,am+1) ae
 ·rintro⟨ay,b7⟩ rfl;exact Ah hS F h
end
section
section
variable{N:Nat}(hN:1001<=N)
include hN
omit hN in
theorem Vc{ms:List Mk}{m:Mk}(h:∀x∈ms,x.1<m.1):GL ms m=ms++[m]:=by unfold GL;rw[A58.2 λx hx=>by grind,A59.2 λx hx=>by rw[s7];have:=h x hx;omega]
omit hN in
theorem SN{ms:List Mk}{m x:Mk}(h:m.1<=x.1):GL (ms++[x]) m=GL ms m++[x]:=by unfold GL;rw[A34,A34,A59.2 (show∀y∈[x],¬(decide (y.1<m.1)=true)from by grind),A05,A58.2 (show∀y∈[x],decide (m.1<=y.1)=true from by grind),A06];rfl
omit hN in
theorem Vd(ms:List Mk)(m:Mk):(GL ms m).length<=2*ms.length+1:=by unfold GL;grind
omit hN in
theorem Qg{ms:List Mk}(hl:ms.length<=1000)(hs:ms.Pairwise λa b=>a.1<b.1)(m:Mk):∀n k (l:List Mk) (pt:Bool),k<=ms.length->ms.length<n+k->(∀x∈ms.take k,x.1≠m.1)->((pt=false/\l=ms.take k/\∀x∈ms.take k,x.1<m.1)\/(pt=true/\l=GL (ms.take k) m/\∃x∈ms.take k,m.1<x.1))->((∃x∈ms,x.1=m.1)/\C5 N ms m.1 m.2.1 m.2.2.1 m.2.2.2.1 m.2.2.2.2 n pt (k:Nat) l=some (.inr ([],false)))\/((∀x∈ms,x.1≠m.1)/\∃p' l',C5 N ms m.1 m.2.1 m.2.2.1 m.2.2.2.1 m.2.2.2.2 n pt (k:Nat) l=some (.inl (p',l'))/\l'.length<=2*ms.length+1/\(bif !p' then l'++[m]else l')=GL ms m)
 |0,k,l,pt,h1,h2,_,_=>by omega
 |n+1,k,l,pt,h1,h2,h3,h4=>by
  rw[C5];by_cases e:k<ms.length
  ·have tk:=Tg e;rw[Fe e,cT,GP e,bS];simp only;by_cases c:(CI ms k).1=m.1
   ·rw[q9 c,cT];exact .inl ⟨⟨_,Kc e,c⟩,rfl⟩
   ·have h3':∀x∈ms.take (k+1),x.1≠m.1:=λx hx=>by
     rw[tk,y7,A26]at hx;rcases hx with hx|rfl
     ·exact h3 x hx
     ·exact c
    rw[s6 c,cF];have ll:l.length<=2*k+1:=by
     rcases h4 with⟨_,rfl,_⟩|⟨_,rfl,_⟩
     ·rw[A23];omega
     ·have:=Vd (ms.take k) m;rw[A23]at this;omega
    by_cases c2:((!pt)&&decide (m.1<(CI ms k).1))=true
    ·rw[c2,cT,Ab (by omega),bS];rw[y8,s7,A28]at c2;rcases h4 with⟨_,rfl,g⟩|⟨g,_⟩
     ·simp only;rw[Ab (by simp only[w9,A03,A33];omega),Ab (by unfold Ai;omega),<-ns];refine Qg hl hs m n (k+1) _ true (by omega) (by omega) h3' (.inr ⟨rfl,?_,CI ms k,by rw[tk];simp,c2.2⟩);rw[tk,SN (by omega),Vc g]
     ·rw[g]at c2;cases c2.1
    ·rw[A21.2 c2,cF,bS];simp only;rw[Ab (by omega),Ab (by unfold Ai;omega),<-ns];refine Qg hl hs m n (k+1) _ pt (by omega) (by omega) h3' ?_;rcases h4 with⟨p1,rfl,g⟩|⟨p1,rfl,y,hy,g⟩
     ·grind
     ·refine .inr ⟨p1,?_,y,by rw[tk];exact List.mem_append_left _ hy,g⟩;have:y.1<(CI ms k).1:=by obtain⟨j,hj,rfl⟩:=List.mem_iff_getElem.1 hy;rw[A23]at hj;rw[List.getElem_take,<-G3 (by omega)];exact KF.1 hs j k (by omega) e
      rw[tk,SN (by omega)]
  ·all_goals grind[Vd,Vc]
open Classical in
theorem zI{ms:List Mk}(hl:ms.length<=1000)(hs:ms.Pairwise λa b=>a.1<b.1)(m:Mk):Fd N ms m.1 m.2.1 m.2.2.1 m.2.2.2.1 m.2.2.2.2=some (if∃x∈ms,x.1=m.1 then([],false)else(GL ms m,true)):=by
 unfold Fd;have F:=Qg (N:=N) hl hs m N 0 [] false (by omega) (by omega) (by simp) (by grind);rw[y9]at F;rcases F with⟨h,e⟩|⟨h,p',l',e,ll,e2⟩
 ·rw[e,bS,t8 h]
 ·rw[e,bS,t7 λ⟨x,hx,e⟩=>h x hx e];simp only;cases p' with
  |false=>rw[A47,cT,Ab (by omega),bS];grind
  |true=>rw[Bool.not_true,cF,bS];rw[Bool.not_true,cF]at e2;rw[e2]
variable(a b c p q id i k m1 m2 m3 m4:Int)(l:List Pt)(o:Bool)
end
theorem Ve{ms:List Mk}{m x:Mk}:x∈GL ms m↔x∈ms\/x=m:=by unfold GL;grind
theorem PP(ms:List Mk)(m:Mk):(GL ms m).length=ms.length+1:=by unfold GL;have h:=List.length_eq_countP_add_countP (λx=>decide (x.1<m.1)) (l:=ms);rw[w9,A03,<-List.countP_eq_length_filter,<-List.countP_eq_length_filter];grind
theorem iG{ms:List Mk}{m:Mk}(h:ms.Pairwise λa b=>a.1<b.1)(hn:∀x∈ms,x.1≠m.1):(GL ms m).Pairwise λa b=>a.1<b.1:=by unfold GL;rw[List.pairwise_append,A25];grind
theorem zJ(f:List Un):MV f []:=⟨by simp,by simp,by simp,List.Pairwise.nil⟩
theorem oU{f:List Un}{ms:List Mk}{m:Mk}(h:MV f ms)(hl:ms.length<20)(ho:PO m=true)(hu:∃u∈f,u.1=m.2.1/\m.2.2.1<(u.2.2.2.1.length:Int))(hn:¬∃x∈ms,x.1=m.1):MV f (GL ms m):=by
 refine⟨by rw[PP];omega,λx hx=>?_,λx hx=>?_,by grind[iG,h.srt]⟩
 ·rcases Ve.1 hx with hx|rfl
  ·exact h.ok x hx
  ·exact ho
 ·rcases Ve.1 hx with hx|rfl
  ·exact h.on x hx
  ·exact hu
def I4(x:List (Int×Int×Int×Int)):Prop:=∀r∈x,Ai r.1/\Ai r.2.1/\Ai r.2.2.1/\Ai r.2.2.2
section
variable{N:Nat}(hN:1001<=N)
include hN
theorem NK{x:List (Int×Int×Int×Int)}(hx:I4 x){f:List Un}(hf:FV f):∀n i (ms:List Mk),i<=8->8<n+i->MV f ms->ms.length<=i->∃g,Do N x f n (i:Nat) ms=some g/\MV f g
 |0,i,ms,h1,h2,_,_=>by omega
 |n+1,i,ms,h1,h2,hm,hl=>by
  rw[Do];by_cases c:(i<x.length/\i<8)/\0<f.length
  ·obtain⟨⟨c1,c2⟩,c3⟩:=c;have hr:=hx _ (List.getElem_mem c1);have fl:=hf.len;rw[Fe c1,A60,q9 (p:=(i:Int)<8) (by omega),A60,q9 (p:=(0:Int)<(f.length:Int)) (by omega),cT,Rz,t6 c1,bS];generalize x[i]=r at hr;obtain⟨a,b,c,d⟩:=r;simp only at hr⊢;have p1:=GO (c:=b) (n:=(f.length:Int)) (by omega);obtain⟨j,hj⟩:∃j:Nat,pk b f.length=j:=⟨(pk b f.length).toNat,by omega⟩
   rw[hj]at p1;have hj2:j<f.length:=by omega
   have uv:=hf.val _ (FY hj2);have l8:=uv.l.l8;have l3:=uv.l.l3;have p2:=GO (c:=a) (n:=12) (by omega);have p3:=GO (c:=c) (n:=((A6 f j).2.2.2.1.length:Int)+2) (by omega);have p4:=GO (c:=d) (n:=5) (by omega);rw[aP hr.2.1 (by omega),bS,hj,GE hj2,bS];simp only;rw[aP hr.1 (by omega),bS,Ab (by omega),aP hr.2.2.1 (by omega),bS,Ab (by omega),aP hr.2.2.2 (by omega),bS,Ab (by omega),aP hr.2.2.2 (by omega),bS];have ra:=zI hN (ms:=ms) (by omega) hm.srt (pk a 12,(A6 f j).1,pk c ((A6 f j).2.2.2.1.length+2)-2,1+pk d 5,decide (pk d 2=0));rw[ra,bS];have ua:=uv.a;have okm:PO (pk a 12,(A6 f j).1,pk c ((A6 f j).2.2.2.1.length+2)-2,1+pk d 5,decide (pk d 2=0))=true:=by grind[kP]
   by_cases t:∃x∈ms,x.1=pk a 12
   ·rw[t8 t];rw[cF,Ab (by omega),<-ns];exact NK hx hf n (i+1) _ (by omega) (by omega) hm (by omega)
   ·rw[t7 t];rw[cT,Ab (by omega),<-ns];exact NK hx hf n (i+1) _ (by omega) (by omega) (oU hm (by omega) okm ⟨_,FY hj2,rfl,by simp only;omega⟩ t) (by rw[PP];omega)
  grind
theorem zK{x1:List (Int×Int×Int×Int×Int×Int)}{x2:List (Int×Int×Int×Int)}(x3:List (Int×Int×Int×Int×Int×Int))(h1:I6 x1)(h2:I4 x2):∃f ms,Fp N x1 x2 x3=some (f,ms)/\SV f ms:=by obtain⟨f,e,hf⟩:=Z2 hN h1;obtain⟨ms,e2,hm⟩:=NK hN h2 hf N 0 [] (by omega) (by omega) (zJ f) (by simp);rw[y9]at e2;refine⟨f,ms,?_,hf,hm⟩;unfold Fp;rw[e,bS,e2,bS]
end
end
open Go
attribute [local irreducible] Aq BD Bv A8 Bq Ba AQ Bw By Ck
def Jx(N:Nat)(l3:List (Int×(Int×Int×Int×(List (Int×Int))×Int×Int)×Int×Int×Int×(Int×Int×Int×Int×Bool))):Nat->Int->(List (Int×Int×Int×(List (Int×Int))×Int×Int))->(List (Int×Int×Int×Int×Bool))->Option (Sum ((List (Int×Int×Int×(List (Int×Int))×Int×Int))×(List (Int×Int×Int×Int×Bool))) ((((List (Int×Int×Int×(List (Int×Int))×Int×Int))×(List (Int×Int×Int×Int×Bool)))×Int×Int)))|0,_,_,_=>none|n+1,K2,ab,Wt=>bif decide (K2<(l3.length:Int))then((Bz l3 K2).bind λ(YQ,(x35,x36,YR,T8,YS,YT),YU,Wo,YV,(x44,x45,x46,x47,x48))=>(In N ab Wt YQ x35 x36 YR T8 YS YT YU Wo YV x44 x45 x46 x47 x48).bind λ((af,ae),ak)=>bif (decide (ak≠0))||(decide (40<=K2))then(some (.inr (([],[]),K2,170)))else(gd (Ai (K2+1))<|Jx N l3 n (K2+1) af ae))else(some (.inl (ab,Wt)))
def OO(N:Nat)(s1:List (Int×Int×Int×(List (Int×Int))×Int×Int))(s2:List (Int×Int×Int×Int×Bool))(l3:List (Int×(Int×Int×Int×(List (Int×Int))×Int×Int)×Int×Int×Int×(Int×Int×Int×Int×Bool))):Option (((List (Int×Int×Int×(List (Int×Int))×Int×Int))×(List (Int×Int×Int×Int×Bool)))×Int×Int):=(CP N s1 s2).bind λr4=>bif !r4 then(some (([],[]),0,170))else((Fq N s1 s2).bind λ(r6,r7)=>(Jx N l3 N 0 r6 r7).bind λah=>match ah with|.inl (jH,jE)=>(some ((jH,jE),(l3.length:Int),0))|.inr an=>(some an))
@[go_sem] def s17(N:Nat):Spec:=p0<|(qG<|qD Ak<|qD Az<|qE<|qD Dx<|qE<|qF (([],[]),0,0) λr=>.tup [.agg [Ao r.1.1,Bj r.1.2],.i r.2.1,.i r.2.2]) (OO N)
theorem Aa5(N:Nat):Au Tryz.prog 19 (s17 N):=by
 refine fk (wX iU (Aa (S6 N)<|Aa (Pm N)<|Aa (kJ N)<|Ae)) ?_;intro s1 s2 l3 r h _ hS F;dsimp only[iU,Ad,Az,Ak,Dx];unfold OO at h;obtain⟨r4,au,h⟩:=un h;replace F:=fc au F;refine An hS F h (λ_ h=>?_) (λ_ h=>?_)
 ·exact Ah hS F h
 ·obtain⟨⟨r6,r7⟩,aq,h⟩:=un h;replace F:=fc aq F;obtain⟨ah,aw,h⟩:=un h;refine go hS F ?_;refine BU ah (λz:(List (Int×Int×Int×(List (Int×Int))×Int×Int))×(List (Int×Int×Int×Int×Bool))×Nat=>⟨[(1,As l3),(2,.box (0,1) 0),(4,.box (1,1) 0)],[(.c (1,1) 0,.sl 0 true [] []),(.c (1,1) 1,.sl 0 true [] []),(.c (0,1) 0,Ao z.1),(.c (0,1) 1,Bj z.2.1)],z.2.2⟩) (λz=>(.inl (z.1,z.2.1):Sum ((List (Int×Int×Int×(List (Int×Int))×Int×Int))×(List (Int×Int×Int×Int×Bool))) ((((List (Int×Int×Int×(List (Int×Int))×Int×Int))×(List (Int×Int×Int×Int×Bool)))×Int×Int)))) (.x 0) ?_ ?_
  ·refine BO (λn (y:Int×(List (Int×Int×Int×(List (Int×Int))×Int×Int))×(List (Int×Int×Int×Int×Bool))×Nat)=>Jx N l3 n y.1 y.2.1 y.2.2.1) (λy=>⟨[(1,As l3),(2,.box (0,1) 0),(4,.box (1,1) 0),(17,As l3),(18,.i (l3.length:Int)),(19,.i y.1)],[(.c (1,1) 0,.sl 0 true [] []),(.c (1,1) 1,.sl 0 true [] []),(.c (0,1) 0,Ao y.2.1),(.c (0,1) 1,Bj y.2.2.1)],y.2.2.2⟩) (0,r6,r7,4) aw (CB F) ?_;rintro n ⟨K2,ab,Wt,am⟩ aa;simp only[Jx]at aa;refine An hS F aa (λ_ aa=>?_) (λ_ aa=>?_)
   ·obtain⟨⟨YQ,⟨x35,x36,YR,T8,YS,YT⟩,YU,Wo,YV,⟨x44,x45,x46,x47,x48⟩⟩,aj,aa⟩:=un aa;obtain⟨av,F⟩:=CH BP aj F;obtain⟨⟨⟨af,ae⟩,ak⟩,ai,aa⟩:=un aa;replace F:=fc ai F;refine An hS F aa (λ_ aa=>?_) (λ_ aa=>?_)
    ·obtain rfl:=yJ aa;exact Ah hS F h
    ·obtain⟨ay,aa⟩:=un aa;exact CS hS F (n,K2+1,af,ae,am+1+1+1+1+1+1) aa
   ·exact Cu hS F (ab,Wt,am+1) aa
  ·rintro⟨jH,jE,az⟩ rfl;exact Ah hS F h
