import Derived.Test.YtciphecegkfaiaaGreatNC
set_option linter.unusedSimpArgs false
set_option linter.unusedVariables false
set_option linter.unusedSectionVars false
namespace Go.Proofs.YtciphecegkfaiaaGreat.Am
theorem Qh{E:Type}{k j:Int}{x d:E}(h:j≠k):∀l:List (Int×E),Bg (Dk l k x) j d=Bg l j d
 |[]=>by simp only[Dk,Bg,dJ (Ss h),tN]
 |p::l=>by
  by_cases e:p.1=k
  ·simp only[Dk,dC e,Cg,Bg,dJ (show¬p.1=j by omega),tN]
  ·simp only[Dk,dJ e,tN,Bg,Qh h l]
theorem Wn{E:Type}{k j:Int}{x:E}:∀l:List (Int×E),FB (Dk l k x) j=true↔j=k\/FB l j=true
 |[]=>by simp only[Dk,FB,Bool.or_false,eR,yF,or_false];exact eq_comm
 |p::l=>by
  by_cases e:p.1=k
  ·simp only[Dk,dC e,Cg,FB,tV,eR,<-or_assoc];rw[e,eq_comm (a:=j)];simp
  ·simp only[Dk,dJ e,tN,FB,tV,eR,Wn l];constructor
   ·rintro(h|h|h)<;>simp[h]
   ·rintro(h|h|h)<;>simp[h]
theorem T7{E:Type}{k:Int}{x:E}:∀{l:List (Int×E)},k∈l.map (·.1)->(Dk l k x).map (·.1)=l.map (·.1)
 |[],h=>by cases h
 |p::l,h=>by
  by_cases e:p.1=k
  ·simp only[Dk,dC e,Cg,eZ]
  ·simp only[Dk,dJ e,tN,eZ];rw[eZ]at h;rcases lJ.1 h with h|h
   ·exact absurd h.symm e
   ·rw[T7 h]
theorem Wo{E:Type}{k:Int}{x:E}:∀{l:List (Int×E)},k∉l.map (·.1)->Dk l k x=l++[(k,x)]
 |[],_=>rfl
 |p::l,h=>by rw[eZ,lJ,not_or]at h;simp only[Dk,dJ (Ss h.1),tN,Wo h.2,s8]
theorem Oz{g:Int->Int}{k d:Int}:∀{l:List (Int×Int)},k∈l.map (·.1)->Bg (l.map λp=>(p.1,g p.1)) k d=g k
 |[],h=>by cases h
 |p::l,h=>by
  by_cases e:p.1=k
  ·rw[eZ,Bg,dC e,Cg,<-e]
  ·rw[eZ]at h;rcases lJ.1 h with h|h
   ·exact absurd h.symm e
   ·simp only[eZ,Bg,dJ e,tN,Oz h]
structure PM(ids:List Int)(l:List (Int×Int)):Prop where
 keys:l.map (·.1)=ids
 mem:∀k∈ids,Bg l k 0∈ids
 le:∀k∈ids,Bg l k 0<=k
def rt(l:List (Int×Int))(a:Int):Int:=(BC (a.toNat+1) l a).getD 0
section
variable{ids:List Int}{l:List (Int×Int)}(h0:∀k∈ids,0<=k)
include h0
omit h0 in
theorem PM.step(h:PM ids l){a:Int}(ha:a∈ids)(n:Nat):BC (n+1) l a=if Bg l a 0=a then some a else BC n l (Bg l a 0):=by
 rw[BC,WM.2 (by rw[h.keys];exact ha),Xi];by_cases e:Bg l a 0=a
 ·rw[eX e,dJ (by simpa using e)];rfl
 ·rw[eW e,dC e];rfl
theorem PM.ex(h:PM ids l):∀(m:Nat)(a:Int),a∈ids->a.toNat<m->∃r,(∀N,a.toNat<N->BC N l a=some r)/\r∈ids/\r<=a/\Bg l r 0=r
 |0,a,_,hm=>by omega
 |m+1,a,ha,hm=>by
  by_cases e:Bg l a 0=a
  ·refine⟨a,λN hN=>?_,ha,Int.le_refl _,e⟩;obtain⟨n,rfl⟩:∃n,N=n+1:=⟨N-1,by omega⟩
   rw[h.step ha,eX e]
  ·have k1:=h.mem a ha;have k2:=h.le a ha;have k3:=h0 _ k1;obtain⟨r,r1,r2,r3,r4⟩:=PM.ex h m (Bg l a 0) k1 (by omega);refine⟨r,λN hN=>?_,r2,by omega,r4⟩;obtain⟨n,rfl⟩:∃n,N=n+1:=⟨N-1,by omega⟩
   rw[h.step ha,eW e];exact r1 n (by omega)
theorem PM.root(h:PM ids l){a:Int}(ha:a∈ids):(∀N,a.toNat<N->BC N l a=some (rt l a))/\rt l a∈ids/\rt l a<=a/\Bg l (rt l a) 0=rt l a:=by
 obtain⟨r,r1,r2⟩:=h.ex h0 (a.toNat+1) a ha (by omega);have e:rt l a=r:=by unfold rt;rw[r1 _ (by omega)];rfl
 rw[e];exact⟨r1,r2⟩
omit h0 in
theorem PM.fix(h:PM ids l){a:Int}(ha:a∈ids)(e:Bg l a 0=a):rt l a=a:=by unfold rt;rw[h.step ha,eX e];rfl
theorem PM.par(h:PM ids l){a:Int}(ha:a∈ids)(e:Bg l a 0≠a):rt l a=rt l (Bg l a 0):=by have k1:=h.mem a ha;have k2:=h.le a ha;have k3:=h0 _ k1;have:=(h.root h0 k1).1 a.toNat (by omega);unfold rt;rw[h.step ha,eW e,this];rfl
theorem PM.union(h:PM ids l){x y:Int}(hx:x∈ids)(hy:y∈ids)(fx:Bg l x 0=x)(fy:Bg l y 0=y):PM ids (Dk l (max x y) (min x y))/\∀z∈ids,rt (Dk l (max x y) (min x y)) z=if rt l z=max x y then min x y else rt l z:=by
 have hM:max x y∈ids:=by by_cases c:x<=y;rw[Int.max_eq_right c];exact hy;rw[Int.max_eq_left (by omega)];exact hx
 have hm:min x y∈ids:=by by_cases c:x<=y;rw[Int.min_eq_left c];exact hx;rw[Int.min_eq_right (by omega)];exact hy
 have fM:Bg l (max x y) 0=max x y:=by by_cases c:x<=y;rw[Int.max_eq_right c];exact fy;rw[Int.max_eq_left (by omega)];exact fx
 have fm:Bg l (min x y) 0=min x y:=by by_cases c:x<=y;rw[Int.min_eq_left c];exact fx;rw[Int.min_eq_right (by omega)];exact fy
 have hle:min x y<=max x y:=by omega
 generalize max x y=M at*;generalize min x y=m at*;have g:∀z,Bg (Dk l M m) z 0=if z=M then m else Bg l z 0:=λz=>by
  by_cases c:z=M
  ·rw[eX c,c,Lu]
  ·rw[eW c,Qh c]
 have P:PM ids (Dk l M m):=⟨by rw[T7 (by rw[h.keys];exact hM),h.keys],λz hz=>by rw[g];split;exact hm;exact h.mem z hz,λz hz=>by rw[g];split;omega;exact h.le z hz⟩
 have gm:Bg (Dk l M m) m 0=m:=by rw[g];split;rfl;exact fm
 refine⟨P,?_⟩;have key:∀(n:Nat)(z:Int),z∈ids->z.toNat<n->rt (Dk l M m) z=if rt l z=M then m else rt l z:=by
  intro n;induction n with
  |zero=>intro z _ hn;omega
  |succ n ih=>
   intro z hz hn;by_cases e:Bg l z 0=z
   ·rw[h.fix hz e];by_cases c:z=M
    ·rw[eX c];by_cases c2:m=M
     ·rw[P.fix hz (by rw[g,eX c,c,c2])];omega
     ·rw[P.par h0 hz (by rw[g,eX c];omega),g,eX c,P.fix hm gm]
    ·rw[eW c,P.fix hz (by rw[g,eW c];exact e)]
   ·have c:z≠M:=λc=>e (by rw[c];exact fM)
    have k1:=h.mem z hz;have k2:=h.le z hz;have k3:=h0 _ k1;rw[P.par h0 hz (by rw[g,eW c];exact e),g,eW c,ih _ k1 (by omega),<-h.par h0 hz e]
 exact λz hz=>key (z.toNat+1) z hz (by omega)
end
structure GR(ids:List Int)(P:List (Int×Int))(R:Int->Int):Prop where
 mem:∀x∈ids,R x∈ids
 le:∀x∈ids,R x<=x
 idem:∀x∈ids,R (R x)=R x
 edge:∀e∈P,R e.1=R e.2
 univ:∀h:Int->Prop,(∀e∈P,h e.1↔h e.2)->∀x∈ids,h x↔h (R x)
theorem GR.start{ids:List Int}{R:Int->Int}(h:∀x∈ids,R x=x):GR ids [] R:=⟨λx hx=>by rw[h x hx];exact hx,λx hx=>by rw[h x hx];exact Int.le_refl _,λx hx=>by rw[h x hx,h x hx],λe he=>(by cases he),λg _ x hx=>by rw[h x hx]⟩
theorem GR.union{ids:List Int}{P:List (Int×Int)}{R R':Int->Int}(h:GR ids P R){A B:Int}(hA:A∈ids)(hB:B∈ids)(hR:∀z∈ids,R' z=if R z=max (R A) (R B)then min (R A) (R B)else R z)(hP:∀e∈P,e.1∈ids/\e.2∈ids):GR ids (P++[(A,B)]) R':=by
 have rA:=h.mem A hA;have rB:=h.mem B hB;have iA:=h.idem A hA;have iB:=h.idem B hB;have uA:=λg k=>h.univ g k A hA
 have uB:=λg k=>h.univ g k B hB
 have rm:min (R A) (R B)∈ids:=by by_cases c:R A<=R B;rw[Int.min_eq_left c];exact rA;rw[Int.min_eq_right (by omega)];exact rB
 have im:R (min (R A) (R B))=min (R A) (R B):=by by_cases c:R A<=R B;rw[Int.min_eq_left c];exact iA;rw[Int.min_eq_right (by omega)];exact iB
 refine⟨λz hz=>?_,λz hz=>?_,λz hz=>?_,λe he=>?_,λg hg z hz=>?_⟩
 ·rw[hR z hz];split;exact rm;exact h.mem z hz
 ·have:=h.le z hz;rw[hR z hz];split<;>omega
 ·rw[hR z hz];split
  ·rw[hR _ rm,im];split<;>rfl
  ·rename_i c;rw[hR _ (h.mem z hz),h.idem z hz,eW c]
 ·rcases lO.1 he with he|he
  ·rw[hR _ (hP e he).1,hR _ (hP e he).2,h.edge e he]
  ·obtain rfl:=y9.1 he;simp only;rw[hR _ hA,hR _ hB];split<;>split<;>omega
 ·have k1:=λe he=>hg e (List.mem_append_left _ he)
  have k2:=hg (A,B) (by simp);rw[h.univ g k1 z hz,hR z hz];split
  ·rename_i c;rw[c];have a1:=uA g k1;have b1:=uB g k1;simp only at k2;by_cases o:R A<=R B
   ·rw[Int.max_eq_right o,Int.min_eq_left o,<-a1,<-b1,k2]
   ·rw[Int.max_eq_left (by omega),Int.min_eq_right (by omega),<-a1,<-b1,k2]
  ·rfl
theorem GR.mono{ids ids':List Int}{P P':List (Int×Int)}{R R':Int->Int}(h:GR ids P R)(h':GR ids' P' R')(hP:∀e∈P,e∈P'){x y:Int}(hx:x∈ids)(hy:y∈ids)(e:R x=R y):R' x=R' y:=by
 have k:=λc=>h.univ (λz=>R' z=c) (λe he=>by show R' e.1=c↔R' e.2=c;rw[h'.edge e (hP e he)])
 have k1:=(k (R' x) x hx).1 rfl;have k2:=(k (R' y) y hy).1 rfl;rw[<-k1,<-k2,e]
theorem GR.same{ids:List Int}{P P':List (Int×Int)}{R R':Int->Int}(h:GR ids P R)(h':GR ids P' R')(hP:∀e,e∈P↔e∈P'){x:Int}(hx:x∈ids):R x=R' x:=by have k1:=h.mono h' (λe he=>(hP e).1 he) hx (h.mem x hx) (h.idem x hx).symm;have k2:=h'.mono h (λe he=>(hP e).2 he) hx (h'.mem x hx) (h'.idem x hx).symm;have l1:=h'.le _ (h.mem x hx);have l2:=h.le _ (h'.mem x hx);omega
def PD(cs:List Ct):List (Int×Int):=cs.filterMap λc=>if c.2.1= -1 then none else some (c.1,c.2.1)
structure CI(ids:List Int)(cs:List Ct):Prop where
 a:∀c∈cs,c.1∈ids
 b:∀c∈cs,c.2.1= -1\/c.2.1∈ids
theorem uR{ids:List Int}{cs:List Ct}(h:CI ids cs):∀e∈PD cs,e.1∈ids/\e.2∈ids:=λe he=>by
 obtain⟨c,hc,k⟩:=List.mem_filterMap.1 he;split at k
 ·cases k
 ·obtain rfl:=yJ k;exact⟨h.a c hc,(h.b c hc).resolve_left ‹_›⟩
theorem gL1{us:List Un}(hl:us.length<=1000)(hn:(us.map (·.1)).Nodup):∀n i,i<=us.length->us.length<n+i->M4 us n (i:Nat) ((us.take i).map λu=>(u.1,u.1))=some (us.map λu=>(u.1,u.1))
 |0,i,h1,h2=>by omega
 |n+1,i,h1,h2=>by
  rw[M4];by_cases e:i=us.length
  ·subst e;rw[CT,cF,Wq]
  ·have hi:i<us.length:=by omega
   rw[Ch hi,cT,Cq hi,bS];simp only;rw[Aa (by unfold Ab;omega),Wo,<-ns]
   ·have:=gL1 hl hn n (i+1) (by omega) (by omega);rw[Pq hi,w9,<-Cj hi]at this;exact this
   ·rw[LB];intro hm;obtain⟨u,hu,e⟩:=tI.1 hm;obtain⟨k,hk,rfl⟩:=List.mem_take_iff_getElem.1 hu;have hp:=L6.1 hn k i (by rw[p9];omega) (by rw[p9];omega) (by omega);rw[List.getElem_map,List.getElem_map,<-Cj hi]at hp;exact hp e
section
variable{ids:List Int}(h0:∀k∈ids,0<=k/\k<=99){N:Nat}(hN:1001<=N)
include h0 hN
theorem PM.rootN{l:List (Int×Int)}(h:PM ids l){a:Int}(ha:a∈ids):BC N l a=some (rt l a):=(h.root (λk hk=>(h0 k hk).1) ha).1 N (by have:=h0 a ha;omega)
theorem gL2{cs:List Ct}(hc:cs.length<=1000)(hi:CI ids cs):∀n i l,i<=cs.length->cs.length<n+i->PM ids l->GR ids (PD (cs.take i)) (rt l)->∃l2,LR N cs n (i:Nat) l=some l2/\PM ids l2/\GR ids (PD cs) (rt l2)
 |0,i,l,h1,h2,_,_=>by omega
 |n+1,i,l,h1,h2,hp,hg=>by
  rw[LR];by_cases e:i=cs.length
  ·subst e;rw[CT,cF];rw[Wq]at hg;exact⟨l,rfl,hp,hg⟩
  ·have hk:i<cs.length:=by omega
   have ca:=hi.a _ (S7 hk);have cb:=hi.b _ (S7 hk);have et:PD (cs.take (i+1))=PD (cs.take i)++(if cs[i].2.1= -1 then none else some (cs[i].1,cs[i].2.1)).toList:=by rw[Pq hk];unfold PD;rw[List.filterMap_append,List.filterMap_cons,List.filterMap_nil];split<;>simp_all
   have hsub:CI ids (cs.take i):=⟨λc hc=>hi.a c (Q1 hc),λc hc=>hi.b c (Q1 hc)⟩
   rw[Ch hk,cT,C7,eV hk,bS];generalize cs[i]=c at*;obtain⟨x1,x2,x3,x4,x5,x6,x7,x8⟩:=c;simp only at ca cb et⊢;by_cases g:x2= -1
   ·rw[Az _ (by rw[dC g];rfl),Aa (by unfold Ab;omega),<-ns];rw[eX g]at et;refine gL2 hc hi n (i+1) l (by omega) (by omega) hp ?_;rw[et,Option.toList_none,qF];exact hg
   ·have cb:=cb.resolve_left g;have hz:=λk hk=>(h0 k hk).1
    have ra:=hp.root hz ca;have rb:=hp.root hz cb;obtain⟨u1,u2⟩:=hp.union hz ra.2.1 rb.2.1 ra.2.2.2 rb.2.2.2;rw[AG _ (by rw[dJ g];rfl),hp.rootN h0 hN ca,bS,hp.rootN h0 hN cb,bS,Aa (by unfold Ab;omega),<-ns];rw[eW g]at et;refine gL2 hc hi n (i+1) _ (by omega) (by omega) u1 ?_;rw[et];exact hg.union ca cb u2 (uR hsub)
theorem gL3{l:List (Int×Int)}(hp:PM ids l):SE N l=some (l.map λp=>(p.1,rt l p.1)):=by
 have k:∀p∈l,BC N l p.1=some (rt l p.1):=λp hp'=>hp.rootN h0 hN (by rw[<-hp.keys];exact L1 hp')
 unfold SE;rw[AG _ (by rw[Ft];intro p hp';rw[k p hp'];rfl)];congr 1;exact Mq λp hp'=>by rw[k p hp'];rfl
omit h0 hN in
theorem gL4{cs:List Ct}(hc:cs.length<=1000)(l:List (Int×Int)):∀n i g,i<=cs.length->cs.length<n+i->∃g2,OF cs l n (i:Nat) g=some g2/\∀r,Bg g2 r false=true↔Bg g r false=true\/∃c∈cs.drop i,c.2.1= -1/\Bg l c.1 0=r
 |0,i,g,h1,h2=>by omega
 |n+1,i,g,h1,h2=>by
  rw[OF];by_cases e:i=cs.length
  ·subst e;rw[CT,cF,w5];exact⟨g,rfl,λr=>by simp⟩
  ·have hk:i<cs.length:=by omega
   rw[Ch hk,cT,C7,eV hk,bS,mL hk];generalize cs[i]=c at*;obtain⟨x1,x2,x3,x4,x5,x6,x7,x8⟩:=c;simp only;by_cases gg:x2= -1
   ·rw[AG _ (dC gg),Aa (by unfold Ab;omega),<-ns];obtain⟨g2,e1,e2⟩:=gL4 hc l n (i+1) (Dk g (Bg l x1 0) true) (by omega) (by omega);refine⟨g2,e1,λr=>?_⟩;rw[e2 r];by_cases q:r=Bg l x1 0
    ·rw[q,Lu];exact⟨λ_=>.inr ⟨_,zW,gg,rfl⟩,λ_=>.inl rfl⟩
    ·rw[Qh q];refine or_congr Iff.rfl ⟨λ⟨c,c1,c2⟩=>⟨c,tO _ c1,c2⟩,λ⟨c,c1,c2,c3⟩=>?_⟩;rcases lJ.1 c1 with rfl|c1
     ·exact absurd c3.symm q
     ·exact⟨c,c1,c2,c3⟩
   ·rw[Az _ (dJ gg),Aa (by unfold Ab;omega),<-ns];obtain⟨g2,e1,e2⟩:=gL4 hc l n (i+1) g (by omega) (by omega);refine⟨g2,e1,λr=>?_⟩;rw[e2 r];refine or_congr Iff.rfl ⟨λ⟨c,c1,c2⟩=>⟨c,tO _ c1,c2⟩,λ⟨c,c1,c2,c3⟩=>?_⟩;rcases lJ.1 c1 with rfl|c1
    ·exact absurd c2 gg
    ·exact⟨c,c1,c2,c3⟩
end
section
variable{ids:List Int}{R:Int->Int}{gm:List (Int×Int)}
theorem fB{us:List Un}{i:Nat}(hi:i<us.length):(us.map (·.1)).take (i+1)=(us.map (·.1)).take i++[(Ao us i).1]:=by rw[Pq (by rw[p9];exact hi),List.getElem_map,<-Cj hi]
theorem qG{us:List Un}(hl:us.length<=1000)(hm:∀x∈us.map (·.1),Bg gm x 0=R x)(g:List (Int×Bool)):∀n i,i<=us.length->us.length<n+i->He us gm g n (i:Nat) (((us.map (·.1)).take i).filter λx=> !Bg g (R x) false)=some ((us.map (·.1)).filter λx=> !Bg g (R x) false)
 |0,i,h1,h2=>by omega
 |n+1,i,h1,h2=>by
  rw[He];by_cases e:i=us.length
  ·subst e;rw[CT,cF,List.take_of_length_le (by rw[p9];exact fA _)]
  ·have hi:i<us.length:=by omega
   have ih:=qG hl hm g n (i+1) (by omega) (by omega);have fl:=Oy (λx=> !Bg g (R x) false) ((us.map (·.1)).take i);have tl:=List.length_take_le i (us.map (·.1));rw[fB hi,CW,zM,Q8]at ih;rw[Ch hi,cT,Cq hi,bS];simp only;rw[hm _ (L1 (Bi hi))];cases hg:Bg g (R (Ao us i).1) false with
   |true=>rw[hg,T8,eW (by decide),qF]at ih;rw[T8,cF,Aa (by unfold Ab;omega),<-ns];exact ih
   |false=>rw[hg,S4,eX rfl]at ih;rw[S4,cT,Aa (by omega),Aa (by unfold Ab;omega),<-ns];exact ih
def jS(R:Int->Int)(p:List Int):List (List Int):=(p.filter λx=>decide (R x=x)).map λr=>p.filter λx=>decide (R x=r)
theorem qH{us:List Un}(hl:us.length<=1000)(hs:us.Pairwise λu v=>u.1<v.1)(hm:∀x∈us.map (·.1),Bg gm x 0=R x){P:List (Int×Int)}(hR:GR (us.map (·.1)) P R):∀n i ix,i<=us.length->us.length<n+i->(∀r,FB ix r=true↔r∈((us.map (·.1)).take i).filter λx=>decide (R x=x))->(∀(j:Nat) r,(((us.map (·.1)).take i).filter λx=>decide (R x=x))[j]? =some r->Bg ix r 0=(j:Int))->HJ us gm n (i:Nat) (jS R ((us.map (·.1)).take i)) ix=some (jS R (us.map (·.1)))
 |0,i,ix,h1,h2,_,_=>by omega
 |n+1,i,ix,h1,h2,hh,hx=>by
  rw[HJ];by_cases e:i=us.length
  ·subst e;rw[CT,cF,List.take_of_length_le (by rw[p9];exact fA _)]
  ·have hi:i<us.length:=by omega
   have ih:=λix a b=>qH hl hs hm hR n (i+1) ix (by omega) (by omega) a b
   have hmem:(Ao us i).1∈us.map (·.1):=L1 (Bi hi);have tl:=List.length_take_le i (us.map (·.1));have plt:∀y∈(us.map (·.1)).take i,y<(Ao us i).1:=λy hy=>by rw[<-List.map_take]at hy;obtain⟨u,hu,rfl⟩:=tI.1 hy;obtain⟨k,hk,rfl⟩:=List.mem_take_iff_getElem.1 hu;rw[Cj hi];exact L6.1 hs k i (by omega) hi (by omega)
   have pin:∀y∈us.map (·.1),y<(Ao us i).1->y∈(us.map (·.1)).take i:=λy hy hlt=>by
    obtain⟨u,hu,rfl⟩:=tI.1 hy;obtain⟨k,hk,rfl⟩:=Ic hu;have:k<i:=by
     by_cases c:k<i
     ·exact c
     ·by_cases c2:k=i
      ·subst c2;omega
      ·have:=GP.1 hs i k (by omega) hk;omega
    rw[<-List.map_take];exact L1 (List.mem_take_iff_getElem.2 ⟨k,by omega,(Cj hk).symm⟩)
   have pm:∀y∈(us.map (·.1)).take i,y∈us.map (·.1):=λy hy=>Q1 hy
   rw[fB hi]at ih;have lx:=hR.le _ hmem;have mx:=hR.mem _ hmem;have ixx:=hR.idem _ hmem;rw[Ch hi,cT,Cq hi,bS];simp only;rw[hm _ hmem];generalize (us.map (·.1)).take i=p at*;generalize (Ao us i).1=x at*;have jl:(jS R p).length<=p.length:=by unfold jS;rw[p9];exact Oy _ _
   have pnd:x∉p:=λhp=>by have:=plt x hp;omega
   by_cases c:R x=x
   ·have hno:FB ix (R x)=false:=by rw[w6];intro hq;rw[c]at hq;exact pnd (uQ.1 ((hh x).1 hq)).1
    have ef:(p++[x]).filter (λx=>decide (R x=x))=(p.filter λx=>decide (R x=x))++[x]:=by rw[CW,zM,Q8,eX (dC c)]
    have ej:jS R (p++[x])=jS R p++[[x]]:=by
     unfold jS;rw[ef,w9,eZ,w7];congr 1
     ·refine Mq λr hr=>?_
      have hr':=(uQ.1 hr).1;rw[CW,zM,Q8,eW (by rw[eR,c];intro q;rw[q]at pnd;exact pnd hr'),qF]
     ·congr 1;rw[CW,zM,Q8,eX (dC c),List.filter_eq_nil_iff.2 λy hy=>?_]
      ·rfl
      ·have:=hR.le y (pm y hy);have:=plt y hy;rw[eR];omega
    rw[hno,S4,cT,Aa (by omega),Aa (by unfold Ab;omega),<-ns,<-ej];refine ih _ (λr=>?_) (λj r hj=>?_)
    ·rw[ef,Wn,hh r,c,lO,y9,or_comm]
    ·rw[ef]at hj;have jlen:(jS R p).length=(p.filter λx=>decide (R x=x)).length:=by unfold jS;rw[p9]
     by_cases cj:j<(p.filter λx=>decide (R x=x)).length
     ·rw[z8 cj]at hj;have hr':=(uQ.1 (tU hj)).1;rw[c,Qh (λq=>by rw[q]at hr';exact pnd hr')];exact hx j r hj
     ·rw[Ja (by omega)]at hj;have:j-(p.filter λx=>decide (R x=x)).length=0:=by
       cases hz:j-(p.filter λx=>decide (R x=x)).length with
       |zero=>rfl
       |succ k=>rw[hz]at hj;simp at hj
      rw[this]at hj;simp at hj;rw[c,<-hj,Lu,jlen];omega
   ·have hp:=pin _ mx (by omega);have hf:R x∈p.filter λx=>decide (R x=x):=uQ.2 ⟨hp,dC ixx⟩
    obtain⟨j,hj,hje⟩:=List.mem_iff_getElem.1 hf;have hj':(p.filter λx=>decide (R x=x))[j]? =some (R x):=by rw[eV hj,hje]
    have nd:(p.filter λx=>decide (R x=x)).Nodup->∀k,(p.filter λx=>decide (R x=x))[k]? =some (R x)->k=j:=λnd k hk=>by obtain⟨hk1,hk2⟩:=i5.1 hk;exact(List.getElem_inj nd).1 (hk2.trans hje.symm)
    have ef:(p++[x]).filter (λx=>decide (R x=x))=p.filter λx=>decide (R x=x):=by rw[CW,zM,Q8,eW (by rw[eR];exact c),qF]
    have hw:(jS R p)[j]? =some (p.filter λy=>decide (R y=R x)):=by unfold jS;rw[qX,hj'];rfl
    have uq:∀k,(p.filter λx=>decide (R x=x))[k]? =some (R x)->k=j:=λk hk=>by have a:=hx j _ hj';have b:=hx k _ hk;omega
    have ej:jS R (p++[x])=(jS R p).set j ((p.filter λy=>decide (R y=R x))++[x]):=by
     refine List.ext_getElem? λk=>?_
     rw[List.getElem?_set];unfold jS;rw[ef,qX,qX,p9];by_cases ck:j=k
     ·subst ck;rw[eX rfl,eX hj,hj',t8,CW,zM,Q8,eX (dC rfl)]
     ·rw[eW ck];cases hk:(p.filter λx=>decide (R x=x))[k]? with
      |none=>rfl
      |some r=>rw[t8,t8,CW,zM,Q8,eW,qF];rw[eR];intro q;exact ck (uq k (by rw[hk,q])).symm
    have fl:=Oy (λy=>decide (R y=R x)) p;rw[(hh _).2 hf,T8,cF,hx j _ hj',C7,hw,bS,Aa (by omega),Aa (by unfold Ab;omega),uS,<-ns,<-ej];refine ih _ (λr=>?_) (λk r hk=>?_)
    ·rw[ef];exact hh r
    ·rw[ef]at hk;exact hx k r hk
end
def A4(f:List Un):List Int:=f.map (·.1)
noncomputable def KS(f:List Un):List (Int×Int):=PD ((BX f).map Ie)
def Ju(f:List Un)(R:Int->Int)(r:Int):Prop:=∃u∈f,(EW u).isSome=true/\R u.1=r
theorem FV.nd{f:List Un}(h:FV f):(A4 f).Nodup:=by unfold A4;rw[List.Nodup,List.pairwise_map];exact h.srt.imp λh e=>by omega
theorem FV.id99{f:List Un}(h:FV f):∀k∈A4 f,0<=k/\k<=99:=λk hk=>by obtain⟨u,hu,rfl⟩:=tI.1 hk;exact(h.val u hu).a
theorem PE{f:List Un}{c:EX}:c∈BX f↔(∃u∈f,EW u=some c)\/∃i k,i<k/\k<f.length/\Ey (Ao f i) (Ao f k)=some c:=by
 rw[<-(I9 f).mem_iff];unfold KR;rw[lO,List.mem_filterMap,List.mem_filterMap];refine or_congr Iff.rfl ?_;have h:(∀e∈B1 f,(λu v=>Ey u v≠some c) e.1 e.2)↔f.Pairwise λu v=>Ey u v≠some c:=Lr (R:=λu v=>Ey u v≠some c)
 rw[GP]at h;constructor
 ·rintro⟨e,he,hc⟩;exact Classical.byContradiction λhn=>(h.2 λi k hik hk q=>hn ⟨i,k,hik,hk,q⟩) e he hc
 ·rintro⟨i,k,hik,hk,hc⟩;exact Classical.byContradiction λhn=>(h.1 λe he q=>hn ⟨e,he,q⟩) i k hik hk hc
theorem PF{f:List Un}(h:FV f):CI (A4 f) ((BX f).map Ie):=by
 constructor
 ·intro c hc;obtain⟨d,hd,rfl⟩:=tI.1 hc;obtain⟨u,hu,e⟩:=Ov hd;exact tI.2 ⟨u,hu,e.symm⟩
 ·intro c hc;obtain⟨d,hd,rfl⟩:=tI.1 hc;rcases PE.1 hd with⟨u,hu,e⟩|⟨i,k,hik,hk,e⟩
  ·exact .inl (J5 e).2
  ·exact .inr (tI.2 ⟨_,Bi hk,(F7 e).2.symm⟩)
theorem KT{f:List Un}(h:FV f):(BX f).length<=1000:=by have hl:=h.len;have pl:=M1 f;have q:f.length*f.length<=12*12:=Nat.mul_le_mul hl hl;have fl:=Lk EW f;have:=Lk (λe:Un×Un=>Ey e.1 e.2) (B1 f);rw[<-(I9 f).length_eq];unfold KR;rw[fF];omega
theorem Yu{f:List Un}(h:FV f){R:Int->Int}{r:Int}:(∃c∈(BX f).map Ie,c.2.1= -1/\R c.1=r)↔Ju f R r:=by
 constructor
 ·rintro⟨c,hc,c1,c2⟩;obtain⟨d,hd,rfl⟩:=tI.1 hc;rcases PE.1 hd with⟨u,hu,e⟩|⟨i,k,hik,hk,e⟩
  ·exact⟨u,hu,by rw[e];rfl,by rw[<-(J5 e).1];exact c2⟩
  ·have:=(F7 e).2;have:=h.id0 _ (Bi hk);have c1:d.2.1= -1:=c1;omega
 ·rintro⟨u,hu,u1,u2⟩;obtain⟨c,hc⟩:=yX u1;have k:=J5 hc;exact⟨Ie c,L1 (PE.2 (.inl ⟨u,hu,hc⟩)),k.2,by show R c.1=r;rw[k.1];exact u2⟩
open Classical in
theorem Qi{N:Nat}(hN:1001<=N){f:List Un}(h:FV f):∃R,GR (A4 f) (KS f) R/\C3 Dv N f=some ((A4 f).filter λx=>decide (¬Ju f R (R x)))/\E4 Dv N f=some (jS R (A4 f)):=by
 have hl:=h.len;have hz:=λk hk=>(h.id99 k hk).1
 have e1:=gL1 (us:=f) (by omega) h.nd N 0 (by omega) (by omega);rw[Ws,w7,mK]at e1;have pm0:PM (A4 f) (f.map λu=>(u.1,u.1)):=by
  have g:∀k∈A4 f,Bg (f.map λu:Un=>(u.1,u.1)) k 0=k:=λk hk=>by have:=Oz (g:=λx=>x) (k:=k) (d:=0) (l:=f.map λu=>(u.1,u.1)) (by rw[LB];exact hk);rw[LB]at this;exact this
  exact⟨by rw[LB];rfl,λk hk=>by rw[g k hk];exact hk,λk hk=>by rw[g k hk];exact Int.le_refl _⟩
 have g0:GR (A4 f) (PD (((BX f).map Ie).take 0)) (rt (f.map λu=>(u.1,u.1))):=GR.start λx hx=>by refine pm0.fix hx ?_;have:=Oz (g:=λx=>x) (k:=x) (d:=0) (l:=f.map λu=>(u.1,u.1)) (by rw[LB];exact hx);rw[LB]at this;exact this
 have cl:=KT h;obtain⟨l2,e2,p2,g2⟩:=gL2 h.id99 hN (cs:=(BX f).map Ie) (by rw[p9];exact cl) (PF h) N 0 _ (by omega) (by rw[p9];omega) pm0 g0;rw[mK]at e2;have e3:=gL3 h.id99 hN p2;obtain⟨g,e4,k4⟩:=gL4 (cs:=(BX f).map Ie) (by rw[p9];exact cl) (l2.map λp=>(p.1,rt l2 p.1)) N 0 [] (by omega) (by rw[p9];omega);rw[mK]at e4;have hm:∀x∈f.map (·.1),Bg (l2.map λp=>(p.1,rt l2 p.1)) x 0=rt l2 x:=λx hx=>Oz (g:=rt l2) (by rw[p2.keys];exact hx)
 have hg:∀r,Bg g r false=true↔Ju f (rt l2) r:=λr=>by
  rw[k4 r,<-Yu h,uP];constructor
  ·rintro(q|⟨c,c1,c2,c3⟩)
   ·cases q
   ·exact⟨c,c1,c2,by rw[<-hm _ ((PF h).a c c1)];exact c3⟩
  ·rintro⟨c,c1,c2,c3⟩;exact .inr ⟨c,c1,c2,by rw[hm _ ((PF h).a c c1)];exact c3⟩
 have gr:KW Dv N f=some (l2.map (λp=>(p.1,rt l2 p.1)),g):=by unfold KW Dv;rw[e1,bS,ZQ hN h,t8,bS,e2,bS,e3,bS,e4,bS]
 refine⟨rt l2,g2,?_,?_⟩
 ·unfold C3;have L:=qG (R:=rt l2) (us:=f) (by omega) hm g N 0 (by omega) (by omega);rw[Ws,Q8,mK]at L;rw[Jy hN,bS,dC h,Az _ (by rfl),gr,bS];refine L.trans (congrArg some (List.filter_congr λx hx=>?_));rw[Sw,zT,eR,<-hg,XZ]
 ·unfold E4;have L:=qH (R:=rt l2) (us:=f) (by omega) h.srt hm g2 N 0 [] (by omega) (by omega) (by simp[FB]) (by simp);rw[Ws,mK]at L;rw[Jy hN,bS,dC h,Az _ (by rfl),gr,bS];exact L
