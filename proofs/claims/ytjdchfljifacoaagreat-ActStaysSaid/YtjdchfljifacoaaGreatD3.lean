import Derived.Test.YtjdchfljifacoaaGreatMQ
set_option linter.all false
set_option maxRecDepth 100000
set_option maxHeartbeats 8000000
namespace Go.Proofs.YtjdchfljifacoaaGreat.Am
def mv(d p:Pt):Pt:=(p.1+d.1,p.2+d.2)
theorem Ny(d a b c:Pt):Ao (mv d a) (mv d b) (mv d c)=Ao a b c:=by unfold Ao mv;grind
theorem Aak(d:Pt){l:List Pt}{i:Nat}(hi:i<l.length)(p:Pt):α (l.map (mv d)) i (mv d p)=α l i p:=by have hm:(i+1)%l.length<l.length:=t6 _ (by omega);unfold α;rw[rC,H6 hi,H6 hm,Ny]
theorem tF(d:Pt){l:List Pt}(h:Conv l):Conv (l.map (mv d)):=by intro i k hi hk n1 n2;rw[rC]at hi hk n2⊢;have hm:(i+1)%l.length<l.length:=t6 _ (by omega);rw[H6 hi,H6 hk,H6 hm,Ny];exact h i k hi hk n1 n2
theorem AcE(d:Pt){l:List Pt}(h:VP l)(ho:∀p∈l,On (mv d p)):VP (l.map (mv d)):=⟨by rw[rC];exact h.l3,by rw[rC];exact h.l8,λp hp=>by obtain⟨q,hq,rfl⟩:=tH.1 hp;exact ho q hq,tF d h.cv⟩
theorem Aal(d:Pt){l b:List Pt}{i:Nat}(hi:i<l.length):Jg (l.map (mv d)) i (b.map (mv d))↔Jg l i b:=by
 constructor
 ·intro h p hp;have:=h (mv d p) (tH.2 ⟨p,hp,rfl⟩)
  rwa [Aak d hi]at this
 ·intro h q hq;obtain⟨p,hp,rfl⟩:=tH.1 hq;rw[Aak d hi];exact h p hp
open Classical in
theorem dW(d:Pt)(l b:List Pt):KL (l.map (mv d)) (b.map (mv d))=KL l b:=by
 unfold KL;rw[rC];have:∀xs:List Nat,(∀i∈xs,i<l.length)->xs.find? (λi=>@decide (Jg (l.map (mv d)) i (b.map (mv d))) (Classical.propDecidable _))=xs.find? (λi=>@decide (Jg l i b) (Classical.propDecidable _)):=by
  intro xs;induction xs with
  |nil=>intro _;rfl
  |cons x xs ih=>
   intro h;have e:(@decide (Jg (l.map (mv d)) x (b.map (mv d))) (Classical.propDecidable _))=(@decide (Jg l x b) (Classical.propDecidable _)):=by rw[Gv,bK,bK];exact Aal d (h x (by simp))
   rw[List.find?_cons,List.find?_cons,e,ih λi hi=>h i (by simp[hi])]
 exact this _ λi hi=>by simpa using hi
theorem tG(d:Pt)(a b:List Pt):IK (a.map (mv d)) (b.map (mv d))=IK a b:=by unfold IK;rw[dW,dW]
theorem Aez(d:Pt)(a b:List Pt):apart (a.map (mv d)) (b.map (mv d))↔apart a b:=by rw[<-QU,<-QU,tG]
theorem Uj(N:Nat){l:List Pt}(hl:l.length<=1000)(hs:∀p∈l,CD p){d:Pt}(hd:CD d):∀(n i:Nat),i<=l.length->l.length<n+i->GF N l d.1 d.2 n i ((l.take i).map (mv d)++l.drop i)=some (l.map (mv d))
 |0,i,hi,hn=>by omega
 |n+1,i,hi,hn=>by
  rw[GF];by_cases he:i=l.length
  ·subst he;rw[F2,cF,uO,ID,sF]
  have hi':i<l.length:=by omega
  have hp:=hs _ (Bo hi');have hd':=hd;unfold CD at hp hd';have e1:A7 ((l.take i).map (mv d)++l.drop i) (i:Int)=some ((pa l i).1,(pa l i).2):=by rw[YD hi',WC hi']
  rw[Dq hi',cT,e1,bS];simp only;rw[Ae (by unfold Af;omega),t9,jX hi',WC hi',bS];simp only;rw[Ae (by unfold Af;omega),Ae (by unfold Af;omega),dR hi',<-ns,show((pa l i).1+d.1,(pa l i).2+d.2)=mv d (pa l i)from rfl,jY hi'];exact Uj N hl hs hd n (i+1) (by omega) (by omega)
def Qg(d:Pt):Prop:=(-40<=d.1/\d.1<=40)/\-40<=d.2/\d.2<=40
open Classical in
theorem YJ{N:Nat}(hN:100<=N){l:List Pt}(h:VP l){d:Pt}(hd:Qg d):FT N l d.1 d.2=some (if∀p∈l,On (mv d p)then(l.map (mv d),0)else([],70)):=by
 unfold FT;have l3:=h.l3;have l8:=h.l8;unfold Qg at hd;have hc:=Uj N (by omega) h.sml (d:=d) (by unfold CD;omega) N 0 (by omega) (by omega);rw[show((0:Nat):Int)=0 from rfl,t7,List.take_zero,u7,rA]at hc;rw[KT hN h,bS,A1 _ (by simp;omega),Ae (by rintro rfl;simp at l3),Ae (by omega),hc,bS,WA hN (by simp;omega),bS];by_cases ho:∀p∈l,On (mv d p)
 ·rw[fU ho,A1 _ (bJ (by rintro⟨p,hp,hn⟩;obtain⟨q,hq,rfl⟩:=tH.1 hp;exact hn (ho q hq)))]
 ·rw[eG ho,AU _ (aB (by
   by_cases hx:∃p∈l.map (mv d),¬On p
   ·exact hx
   ·exact absurd (λp hp=>by
     by_cases hq:On (mv d p)
     ·exact hq
     ·exact absurd ⟨_,tH.2 ⟨p,hp,rfl⟩,hq⟩ hx) ho))]
theorem Ae5(d:Pt)(l:List Pt):(l.map (mv d)).map (mv (-d.1,-d.2))=l:=by
 rw[List.map_map];have:(mv (-d.1,-d.2)∘mv d)=id:=by funext p;unfold mv;simp only[Function.comp,id];exact Gb (by simp only;omega) (by simp only;omega)
 rw[this,List.map_id]
section
open Go
attribute [local irreducible] Ax BO BB Bj BC Bk AY BD BK Cq
def EE(N:Nat)(l368:List (Int×Int))(ab:Int)(aa:Int):Nat->Int->(List (Int×Int))->Option ((List (Int×Int)))|0,_,_=>none|n+1,ae,l384=>bif decide (ae<(l368.length:Int))then((A7 l368 ae).bind λ(ai,ah)=>gd (Af (ai+ab))<|gd (Af (ah+aa))<|gd ((l384.length+1)*16<=140737488355328)<|gd (Af (ae+1))<|EE N l368 ab aa n (ae+1) (l384++[(ai+ab,ah+aa)]))else(some l384)
def EL(N:Nat)(l368:List (Int×Int))(ab:Int)(aa:Int):Option ((List (Int×Int))×Int):=(Cj N l368).bind λam=>bif ((((!am)||(decide (ab<(-40))))||(decide (40<ab)))||(decide (aa<(-40))))||(decide (40<aa))then(some ([],70))else((EE N l368 ab aa N 0 []).bind λaj=>(Cj N aj).bind λak=>bif !ak then(some ([],70))else(some (aj,0)))
@[go_sem] def s98(N:Nat):Spec:=p0<|pS Aq λl368=>pI λab=>pI λaa=>pE<|pF (EL N l368 ab aa) ([],0) λr=>.tup [BP r.1,.i r.2]
theorem AbX(N:Nat):AG Tryz.prog 98 (s98 N):=by
 refine Ar x98.ok<|AF λl368=>Aa λab=>Aa λaa=>Ad<|As λr h=>wx x98 (Ab (SB N)<|Aj) λ_ hS F=>?_
 dsimp only[x98,Ah,Aq];unfold EL at h;obtain⟨am,aq,h⟩:=un h;replace F:=fc aq F;refine An hS F h (λ_ h=>?_) (λ_ h=>?_)
 ·exact Ai hS F h
 ·refine go hS F ?_;refine DT 1000001 8 2 [.i 0,.i 0] (by show(8:Nat)<57;omega) (by omega) (ev F) ?_;obtain⟨aw,az,h⟩:=un h;refine go hS F ?_;refine Bz aw (λz:(List (Int×Int))×Nat=>⟨[(8,.own (1000001,5) z.1.length)],[(.a (1000001,5),LK z.1)],z.2⟩) (λz=>(z.1:(List (Int×Int)))) (.x 0) ?_ ?_
  ·refine Bp (λn (y:Int×(List (Int×Int))×Nat)=>EE N l368 ab aa n y.1 y.2.1) (λy=>⟨[(0,BP l368),(1,.i ab),(2,.i aa),(8,.own (1000001,5) y.2.1.length),(9,.i y.1)],[(.a (1000001,5),LK y.2.1)],y.2.2⟩) (0,[],5) az (Ch F) ?_;rintro n ⟨ae,l384,av⟩ af;simp only[EE]at af;refine An hS F af (λ_ af=>?_) (λ_ af=>?_)
   ·obtain⟨⟨ai,ah⟩,au,af⟩:=un af;obtain⟨ay,F⟩:=Cb Cz au F;obtain⟨bg,bf,be,bb,af⟩:=un af;exact Cd hS F (n,ae+1,l384++[(ai+ab,ah+aa)],av+1+1+1) af
   ·exact B4 hS F (l384,av+1) af
  ·rintro⟨aj,ba⟩ rfl;obtain⟨ak,an,h⟩:=un h;replace F:=fc an F;refine An hS F h (λ_ h=>?_) (λ_ h=>?_)
   ·exact Ai hS F h
   ·exact Ai hS F h
end
def rs(f:Nat->Int)(n:Nat):Int:=((List.range n).map f).sum
def cs(F:Pt×Pt->Int)(l:List Pt):Int:=((Co l).map F).sum
theorem SW(N:Nat){l:List Pt}(hl:l.length<=1000)(hs:∀p∈l,CD p){d:Pt}(hd:CD d):∀(n i:Nat)(out:List Pt),i<=l.length->l.length<n+i->out=(l.take i).map (mv d)->EE N l d.1 d.2 n i out=some (l.map (mv d))
 |0,i,out,h1,h2,_=>by omega
 |n+1,i,out,h1,h2,ho=>by
  rw[EE];by_cases he:i=l.length
  ·subst he;rw[F2,cF,ho,ID]
  have hi:i<l.length:=by omega
  have hp:=hs _ (Bo hi);have ol:out.length=i:=by rw[ho];simp;omega
  have hd':=hd;unfold CD at hp hd';rw[Dq hi,cT,F1 hi,bS];simp only;rw[Ae (by unfold Af;omega),Ae (by unfold Af;omega),Ae (by omega),Ae (by unfold Af;omega),<-ns];refine SW N hl hs hd n (i+1) _ (by omega) (by omega) ?_;rw[List.take_succ_eq_append_getElem hi,vE,List.map_singleton,<-De hi,ho];rfl
open Classical in
theorem eH{N:Nat}(hN:100<=N)(l:List Pt)(dx dy:Int):∃r,FT N l dx dy=some r/\EL N l dx dy=some r/\r.1.length<=8:=by
 by_cases h:VP l
 ·have l8:=h.l8;by_cases hd:Qg (dx,dy)
  ·refine⟨_,YJ hN h hd,?_,?_⟩
   ·unfold EL;unfold Qg at hd;simp only at hd;have hc:=SW N (by omega) h.sml (d:=(dx,dy)) (by unfold CD;simp only;omega) N 0 [] (by omega) (by omega) (by simp);rw[oL]at hc;simp only at hc;rw[F7 hN,Li.2 h,bS,A1 _ (by simp;omega),hc,bS,F7 hN,bS];by_cases ho:∀p∈l,On (mv (dx,dy) p)
    ·rw[fU ho,Li.2 (AcE (dx,dy) h ho),A1 _ (by rfl)]
    ·rw[eG ho,KK.2 (λq=>ho λp hp=>q.on _ (tH.2 ⟨p,hp,rfl⟩)),AU _ (by rfl)]
   ·split
    ·simp only[rC];exact l8
    ·simp
  ·unfold Qg at hd;simp only at hd;refine⟨([],70),?_,?_,by simp⟩
   ·unfold FT;rw[KT hN h,bS,AU _ (by simp;omega)]
   ·unfold EL;rw[F7 hN,Li.2 h,bS,AU _ (by simp;omega)]
 ·refine⟨([],70),?_,?_,by simp⟩
  ·unfold FT;rw[IJ hN,KK.2 h,bS,AU _ (by rfl)]
  ·unfold EL;rw[F7 hN,KK.2 h,bS,AU _ (by rfl)]
open Go
attribute [local irreducible] Ax BO BB Bj BC Bk AY BD BK Cq
def Ij(x:Int×Int×Int):List AV:=[.i x.1,.i x.2.1,.i x.2.2]
def UW:List AV->Int×Int×Int|[.v (.int _ a1),.v (.int _ a2),.v (.int _ a3)]=>(a1,a2,a3)|_=>(0,0,0)
theorem cD(R:List (Int×Int×Int))(i:Nat):A6 (R.map Ij) [.i 0,.i 0,.i 0] i=Ij (R.getD i (0,0,0)):=by unfold A6;rw[dQ,dQ,sH];cases R[i]? <;>rfl
theorem sD(A B:List (Int×Int×Int))(i:Nat):A6 (A.map Ij++B.map Ij) [.i 0,.i 0,.i 0] i=Ij ((A++B).getD i (0,0,0)):=by rw[<-vE];exact cD _ _
def AbT:Rw (Int×Int×Int):=⟨3,Ij,UW,[.i 0,.i 0,.i 0]⟩
def AbU(l:List (Int×Int×Int)):AV:=.sl 3 false (l.map Ij) [.i 0,.i 0,.i 0]
def Fi(l:List (Int×Int×Int)):AV:=.sl 3 true (l.map Ij) [.i 0,.i 0,.i 0]
attribute [go_sem] AbT AbU Fi Ij UW cD sD
def DM(N:Nat)(a502:List (Int×Int)):Nat->Int->(List (Int×Int×Int))->Option ((List (Int×Int×Int)))|0,_,_=>none|n+1,ci,l523=>bif decide (ci<(a502.length:Int))then((A7 a502 ci).bind λ(bh,bg)=>(CU N a502 ci).bind λ(b7,bz)=>gd (Af (bg-bz))<|gd (Af (b7-bh))<|gd (Af (bz-bg))<|gd (Af ((bz-bg)*bh))<|gd (Af (b7-bh))<|gd (Af ((b7-bh)*bg))<|gd (Af (((bz-bg)*bh)-((b7-bh)*bg)))<|gd ((l523.length+1)*24<=140737488355328)<|gd (Af (ci+1))<|DM N a502 n (ci+1) (l523++[(bg-bz,b7-bh,((bz-bg)*bh)-((b7-bh)*bg))]))else(some l523)
def DN(N:Nat)(b503:List (Int×Int)):Nat->Int->(List (Int×Int×Int))->Option ((List (Int×Int×Int)))|0,_,_=>none|n+1,ce,l553=>bif decide (ce<(b503.length:Int))then((A7 b503 ce).bind λ(bf,be)=>(CU N b503 ce).bind λ(bw,bv)=>gd (Af (be-bv))<|gd (Af (bw-bf))<|gd (Af (bv-be))<|gd (Af ((bv-be)*bf))<|gd (Af (bw-bf))<|gd (Af ((bw-bf)*be))<|gd (Af (((bv-be)*bf)-((bw-bf)*be)))<|gd ((l553.length+1)*24<=140737488355328)<|gd (Af (ce+1))<|DN N b503 n (ce+1) (l553++[(be-bv,bw-bf,((bv-be)*bf)-((bw-bf)*be))]))else(some l553)
def DG(N:Nat)(l534:List (Int×Int×Int))(l564:List (Int×Int×Int))(az:Int)(ay:Int)(bi:Int):Nat->Bool->Int->Option Bool|0,_,_=>none|n+1,ae,n838=>bif decide (n838<((l534++l564).length:Int))then(gd (ae=true->(0<=n838/\n838<((l534++l564).length:Int)))<|gd (ae=true->(0<=n838/\n838<((l534++l564).length:Int)))<|gd (ae=true->(Af ((((l534++l564).getD n838.toNat (0,0,0)).1)*az)))<|gd (ae=true->(0<=n838/\n838<((l534++l564).length:Int)))<|gd (ae=true->(0<=n838/\n838<((l534++l564).length:Int)))<|gd (ae=true->(Af ((((l534++l564).getD n838.toNat (0,0,0)).2.1)*ay)))<|gd (ae=true->(Af (((((l534++l564).getD n838.toNat (0,0,0)).1)*az)+((((l534++l564).getD n838.toNat (0,0,0)).2.1)*ay))))<|gd (ae=true->(0<=n838/\n838<((l534++l564).length:Int)))<|gd (ae=true->(0<=n838/\n838<((l534++l564).length:Int)))<|gd (ae=true->(Af ((((l534++l564).getD n838.toNat (0,0,0)).2.2)*bi)))<|gd (ae=true->(Af ((((((l534++l564).getD n838.toNat (0,0,0)).1)*az)+((((l534++l564).getD n838.toNat (0,0,0)).2.1)*ay))+((((l534++l564).getD n838.toNat (0,0,0)).2.2)*bi))))<|gd (Af (n838+1))<|DG N l534 l564 az ay bi n (ae&&(decide (0<=(((((l534++l564).getD n838.toNat (0,0,0)).1)*az)+((((l534++l564).getD n838.toNat (0,0,0)).2.1)*ay))+((((l534++l564).getD n838.toNat (0,0,0)).2.2)*bi)))) (n838+1))else(some ae)
def Cx(N:Nat)(l534:List (Int×Int×Int))(l564:List (Int×Int×Int))(af:Int):Nat->Int->(List (Int×Int×Int))->Option ((List (Int×Int×Int)))|0,_,_=>none|n+1,aw,l803=>bif decide (aw<((l534++l564).length:Int))then((A7 (l534++l564) af).bind λ(an,am,av)=>(A7 (l534++l564) aw).bind λ(ak,aj,au)=>gd (Af (am*au))<|gd (Af (aj*av))<|gd (Af ((am*au)-(aj*av)))<|gd (Af (av*ak))<|gd (Af (au*an))<|gd (Af ((av*ak)-(au*an)))<|gd (Af (an*aj))<|gd (Af (ak*am))<|gd (Af ((an*aj)-(ak*am)))<|bif decide ((an*aj)-(ak*am)=0)then(gd (Af (aw+1))<|Cx N l534 l564 af n (aw+1) l803)else((bif decide ((an*aj)-(ak*am)<0)then(gd (Af (-((am*au)-(aj*av))))<|gd (Af (-((av*ak)-(au*an))))<|gd (Af (-((an*aj)-(ak*am))))<|some (-((am*au)-(aj*av)),-((av*ak)-(au*an)),-((an*aj)-(ak*am))))else(some ((am*au)-(aj*av),(av*ak)-(au*an),(an*aj)-(ak*am))):Option (Int×Int×Int)).bind λ(az,ay,bi)=>(DG N l534 l564 az ay bi N true 0).bind λda=>bif da then(gd ((l803.length+1)*24<=140737488355328)<|gd (Af (aw+1))<|Cx N l534 l564 af n (aw+1) (l803++[(az,ay,bi)]))else(gd (Af (aw+1))<|Cx N l534 l564 af n (aw+1) l803)))else(some l803)
def DH(N:Nat)(l534:List (Int×Int×Int))(l564:List (Int×Int×Int)):Nat->Int->(List (Int×Int×Int))->Option ((List (Int×Int×Int)))|0,_,_=>none|n+1,af,cr=>bif decide (af<((l534++l564).length:Int))then(gd (Af (af+1))<|(Cx N l534 l564 af N (af+1) cr).bind λdl=>gd (Af (af+1))<|DH N l534 l564 n (af+1) dl)else(some cr)
def BL(N:Nat)(bj:Int)(l855:List (Int×Int×Int))(ai:Int):Nat->Int->Option (Sum Unit Bool)|0,_=>none|n+1,ck=>bif decide (ck<bj)then((A7 l855 ai).bind λ(cq,co,cy)=>(A7 l855 bj).bind λ(bo,bn,bb)=>(A7 l855 ck).bind λ(bm,bl,ba)=>gd (Af (bn*ba))<|gd (Af (bb*bl))<|gd (Af ((bn*ba)-(bb*bl)))<|gd (Af (cq*((bn*ba)-(bb*bl))))<|gd (Af (bo*ba))<|gd (Af (bb*bm))<|gd (Af ((bo*ba)-(bb*bm)))<|gd (Af (co*((bo*ba)-(bb*bm))))<|gd (Af ((cq*((bn*ba)-(bb*bl)))-(co*((bo*ba)-(bb*bm)))))<|gd (Af (bo*bl))<|gd (Af (bn*bm))<|gd (Af ((bo*bl)-(bn*bm)))<|gd (Af (cy*((bo*bl)-(bn*bm))))<|gd (Af (((cq*((bn*ba)-(bb*bl)))-(co*((bo*ba)-(bb*bm))))+(cy*((bo*bl)-(bn*bm)))))<|bif decide (((cq*((bn*ba)-(bb*bl)))-(co*((bo*ba)-(bb*bm))))+(cy*((bo*bl)-(bn*bm)))≠0)then(some (.inr true))else(gd (Af (ck+1))<|BL N bj l855 ai n (ck+1)))else(some (.inl ()))
def Ce(N:Nat)(ai:Int)(l855:List (Int×Int×Int)):Nat->Int->Option (Sum Unit Bool)|0,_=>none|n+1,bj=>bif decide (bj<ai)then((BL N bj l855 ai N 0).bind λdh=>match dh with|.inl ()=>(gd (Af (bj+1))<|Ce N ai l855 n (bj+1))|.inr fh=>(some (.inr fh)))else(some (.inl ()))
def Cg(N:Nat)(l855:List (Int×Int×Int)):Nat->Int->Option (Sum Unit Bool)|0,_=>none|n+1,ai=>bif decide (ai<(l855.length:Int))then((Ce N ai l855 N 0).bind λdg=>match dg with|.inl ()=>(gd (Af (ai+1))<|Cg N l855 n (ai+1))|.inr fg=>(some (.inr fg)))else(some (.inl ()))
def CM(N:Nat)(a502:List (Int×Int))(b503:List (Int×Int)):Option Bool:=(Cj N a502).bind λdb=>gd ((!(!db))=true->((Cj N b503).isSome=true))<|bif (!db)||(!((Cj N b503).getD false))then(some false)else((DM N a502 N 0 []).bind λl534=>(DN N b503 N 0 []).bind λl564=>gd ((l534.length+l564.length)*24<=140737488355328)<|(DH N l534 l564 N 0 []).bind λl855=>(Cg N l855 N 0).bind λde=>match de with|.inl ()=>(some false)|.inr e9=>(some e9))
@[go_sem] def RG(N:Nat):Spec:=p0<|pS Aq λa502=>pS Aq λb503=>pE<|pF (CM N a502 b503) false λr=>.b r
theorem xX(N:Nat):AG Tryz.prog 128 (RG N):=by
 refine Ar x128.ok<|AF λa502=>AF λb503=>Ad<|As λr h=>wx x128 (Ab (SB N)<|Ab (cC N)<|Aj) λ_ hS F=>?_
 dsimp only[x128,Ah,Aq];unfold CM at h;obtain⟨db,dt,lr,h⟩:=un h;replace F:=fc dt F;refine An hS F h (λ_ h=>?_) (λ_ h=>?_)
 ·exact Ai hS F h
 ·refine go hS F ?_;refine TR hS 1 3 (by decide) x185.hf x185.hc x185.hn x185.ok x185.hf x185.hc x185.hn x185.ok rfl rfl (ev F) (ev F) (ev F) ?_ rfl (ev F) (qZ rfl) λhb=>?_
  ·exact Bl hS F
  dsimp only[x185,Ah];refine go hS F ?_;refine DT 1000001 3 3 [.i 0,.i 0,.i 0] (by show(3:Nat)<52;omega) (by omega) (ev F) ?_;obtain⟨gc,kz,h⟩:=un h;refine go hS F ?_;refine Bz gc (λz:(List (Int×Int×Int))×Nat=>⟨[(3,.own (1000001,7) z.1.length)],[(.a (1000001,7),Fi z.1)],z.2⟩) (λz=>(z.1:(List (Int×Int×Int)))) (.x 0) ?_ ?_
  ·refine Bp (λn (y:Int×(List (Int×Int×Int))×Nat)=>DM N a502 n y.1 y.2.1) (λy=>⟨[(0,BP a502),(3,.own (1000001,7) y.2.1.length),(4,.i y.1)],[(.a (1000001,7),Fi y.2.1)],y.2.2⟩) (0,[],7) kz (Ch F) ?_;rintro n ⟨ci,l523,e8⟩ cn;simp only[DM]at cn;refine An hS F cn (λ_ cn=>?_) (λ_ cn=>?_)
   ·obtain⟨⟨bh,bg⟩,d8,cn⟩:=un cn;obtain⟨ii,F⟩:=Cb Cz d8 F;obtain⟨⟨b7,bz⟩,dq,cn⟩:=un cn;obtain⟨lq,lm,lj,li,lh,lg,kw,kv,kr,cn⟩:=un cn;exact Cd hS (fc dq F) (n,ci+1,l523++[(bg-bz,b7-bh,((bz-bg)*bh)-((b7-bh)*bg))],e8+1+1+1+1+1) cn
   ·exact B4 hS F (l523,e8+1) cn
  ·rintro⟨l534,cu⟩ rfl;refine go hS F ?_
   first|refine Vt (ev F) (ev F) ?_ ?_ rfl (ev F) (by simp) λhb=>?_|refine Vs (ev F) (ev F) ?_ ?_ rfl (ev F) (by simp) λhb=>?_
   ·exact Bl hS F
   ·exact Bl hS F
   try dsimp only[x185,Ah]
   refine go hS F ?_;refine DT 1000002 3 3 [.i 0,.i 0,.i 0] (by show(3:Nat)<52;omega) (by omega) (ev F) ?_;obtain⟨fr,gt,h⟩:=un h;refine go hS F ?_;refine Bz fr (λz:(List (Int×Int×Int))×Nat=>⟨[(3,.own (1000002,cu+1+1+1+1+1+1) z.1.length)],[(.a (1000001,7),Fi l534),(.a (1000002,cu+1+1+1+1+1+1),Fi z.1)],z.2⟩) (λz=>(z.1:(List (Int×Int×Int)))) (.x 0) ?_ ?_
   ·refine Bp (λn (y:Int×(List (Int×Int×Int))×Nat)=>DN N b503 n y.1 y.2.1) (λy=>⟨[(0,BP b503),(3,.own (1000002,cu+1+1+1+1+1+1) y.2.1.length),(4,.i y.1)],[(.a (1000001,7),Fi l534),(.a (1000002,cu+1+1+1+1+1+1),Fi y.2.1)],y.2.2⟩) (0,[],cu+1+1+1+1+1+1) gt (Ch F) ?_;rintro n ⟨ce,l553,ez⟩ bq;simp only[DN]at bq;refine An hS F bq (λ_ bq=>?_) (λ_ bq=>?_)
    ·obtain⟨⟨bf,be⟩,d7,bq⟩:=un bq;obtain⟨ig,F⟩:=Cb Cz d7 F;obtain⟨⟨bw,bv⟩,dm,bq⟩:=un bq;obtain⟨kq,km,kl,kj,ki,kh,kg,kf,ke,bq⟩:=un bq;exact Cd hS (fc dm F) (n,ce+1,l553++[(be-bv,bw-bf,((bv-be)*bf)-((bw-bf)*be))],ez+1+1+1+1+1) bq
    ·exact B4 hS F (l553,ez+1) bq
   ·rintro⟨l564,ab⟩ rfl;obtain⟨ka,h⟩:=un h;refine go hS F ?_;refine DT 1000004 6 3 [.i 0,.i 0,.i 0] (by show(6:Nat)<245;omega) (by omega) (ev F) ?_;obtain⟨fj,gr,h⟩:=un h;refine go hS F ?_;refine Bz fj (λz:(List (Int×Int×Int))×Nat=>⟨[(6,.own (1000004,ab+1+1+1+1+1) z.1.length)],[(.a (1000004,ab+1+1+1+1+1),Fi z.1)],z.2⟩) (λz=>(z.1:(List (Int×Int×Int)))) (.x 0) ?_ ?_
    ·refine Bp (λn (y:Int×(List (Int×Int×Int))×Nat)=>DH N l534 l564 n y.1 y.2.1) (λy=>⟨[(5,.own (1000001,7) (l534++l564).length),(6,.own (1000004,ab+1+1+1+1+1) y.2.1.length),(7,.i y.1)],[(.a (1000004,ab+1+1+1+1+1),Fi y.2.1),(.a (1000001,7),Fi (l534++l564))],y.2.2⟩) (0,[],ab+1+1+1+1+1) gr (Ch F) ?_;rintro n ⟨af,cr,eu⟩ bp;simp only[DH]at bp;refine An hS F bp (λ_ bp=>?_) (λ_ bp=>?_)
     ·obtain⟨j9,bp⟩:=un bp;obtain⟨fo,gm,bp⟩:=un bp;refine go hS F ?_;refine Bz fo (λz:(List (Int×Int×Int))×Nat=>⟨[(5,.own (1000001,7) (l534++l564).length),(6,.own (1000004,ab+1+1+1+1+1) z.1.length),(7,.i af)],[(.a (1000004,ab+1+1+1+1+1),Fi z.1),(.a (1000001,7),Fi (l534++l564))],z.2⟩) (λz=>(z.1:(List (Int×Int×Int)))) (.x 2) ?_ ?_
      ·refine Bp (λn (y:Int×(List (Int×Int×Int))×Nat)=>Cx N l534 l564 af n y.1 y.2.1) (λy=>⟨[(5,.own (1000001,7) (l534++l564).length),(6,.own (1000004,ab+1+1+1+1+1) y.2.1.length),(7,.i af),(8,.i y.1)],[(.a (1000004,ab+1+1+1+1+1),Fi y.2.1),(.a (1000001,7),Fi (l534++l564))],y.2.2⟩) (af+1,cr,eu+1+1) gm (Ch F) ?_;rintro n ⟨aw,l803,aq⟩ aa;simp only[Cx]at aa;refine An hS F aa (λ_ aa=>?_) (λ_ aa=>?_)
       ·obtain⟨⟨an,am,av⟩,d6,aa⟩:=un aa;obtain⟨ic,F⟩:=Cb Ij d6 F;obtain⟨⟨ak,aj,au⟩,d5,aa⟩:=un aa;obtain⟨ib,F⟩:=Cb Ij d5 F;obtain⟨j8,j7,j6,j5,j4,jz,jy,jx,jw,aa⟩:=un aa;refine An hS F aa (λ_ aa=>?_) (λ_ aa=>?_)
        ·obtain⟨jv,aa⟩:=un aa;exact Cd hS F (n,aw+1,l803,aq+1+1+1+1) aa
        ·obtain⟨fq,cj,aa⟩:=un aa;refine go hS F ?_;refine Bz fq (λz:Int×Int×Int×Nat=>⟨[(5,.own (1000001,7) (l534++l564).length),(6,.own (1000004,ab+1+1+1+1+1) l803.length),(7,.i af),(8,.i aw),(9,.box (1170,aq+1+1) 0)],[(.c (1170,aq+1+1) 0,.i z.1),(.c (1170,aq+1+1) 1,.i z.2.1),(.c (1170,aq+1+1) 2,.i z.2.2.1),(.a (1000004,ab+1+1+1+1+1),Fi l803),(.a (1000001,7),Fi (l534++l564))],z.2.2.2⟩) (λz=>((z.1,z.2.1,z.2.2.1):Int×Int×Int)) .n ?_ ?_
         ·refine An hS F cj (λ_ cj=>?_) (λ_ cj=>?_)
          ·obtain⟨ju,jt,js,cj⟩:=un cj;exact B4 hS F (-((am*au)-(aj*av)),-((av*ak)-(au*an)),-((an*aj)-(ak*am)),aq+1+1+1+1+1) cj
          ·exact B4 hS F ((am*au)-(aj*av),(av*ak)-(au*an),(an*aj)-(ak*am),aq+1+1+1+1) cj
         ·rintro⟨az,ay,bi,gy⟩ rfl;obtain⟨fp,gj,aa⟩:=un aa;refine go hS F ?_;refine Bz fp (λz:Bool×Nat=>⟨[(5,.own (1000001,7) (l534++l564).length),(6,.own (1000004,ab+1+1+1+1+1) l803.length),(7,.i af),(8,.i aw),(9,.box (1170,aq+1+1) 0),(10,.b z.1)],[(.c (1170,aq+1+1) 0,.i az),(.c (1170,aq+1+1) 1,.i ay),(.c (1170,aq+1+1) 2,.i bi),(.a (1000004,ab+1+1+1+1+1),Fi l803),(.a (1000001,7),Fi (l534++l564))],z.2⟩) (λz=>(z.1:Bool)) (.x 4) ?_ ?_
          ·refine Bp (λn (y:Bool×Int×Nat)=>DG N l534 l564 az ay bi n y.1 y.2.1) (λy=>⟨[(5,.own (1000001,7) (l534++l564).length),(6,.own (1000004,ab+1+1+1+1+1) l803.length),(7,.i af),(8,.i aw),(9,.box (1170,aq+1+1) 0),(10,.b y.1),(11,.i y.2.1)],[(.c (1170,aq+1+1) 0,.i az),(.c (1170,aq+1+1) 1,.i ay),(.c (1170,aq+1+1) 2,.i bi),(.a (1000004,ab+1+1+1+1+1),Fi l803),(.a (1000001,7),Fi (l534++l564))],y.2.2⟩) (true,0,gy+1+1) gj (Ch F) ?_;rintro n ⟨ae,n838,ej⟩ b9;simp only[DG]at b9;refine An hS F b9 (λ_ b9=>?_) (λ_ b9=>?_)
           ·obtain⟨jr,jq,jp,jo,jn,jm,jl,jk,jj,ji,jh,jg,b9⟩:=un b9;exact Cd hS F (n,ae&&(decide (0<=(((((l534++l564).getD n838.toNat (0,0,0)).1)*az)+((((l534++l564).getD n838.toNat (0,0,0)).2.1)*ay))+((((l534++l564).getD n838.toNat (0,0,0)).2.2)*bi))),n838+1,ej+1+1+1) b9
           ·exact B4 hS F (ae,ej+1) b9
          ·rintro⟨da,ei⟩ rfl;refine An hS F aa (λ_ aa=>?_) (λ_ aa=>?_)
           ·obtain⟨jf,je,aa⟩:=un aa;exact Cd hS F (n,aw+1,l803++[(az,ay,bi)],ei+1+1+1) aa
           ·obtain⟨jd,aa⟩:=un aa;exact Cd hS F (n,aw+1,l803,ei+1+1) aa
       ·exact B4 hS F (l803,aq+1) aa
      ·rintro⟨dl,gx⟩ rfl;obtain⟨jc,bp⟩:=un bp;exact Cd hS F (n,af+1,dl,gx+1) bp
     ·exact B4 hS F (cr,eu+1) bp
    ·rintro⟨l855,gw⟩ rfl;obtain⟨de,gi,h⟩:=un h;refine go hS F ?_;refine Bz de (λz:Nat=>⟨[],[],z⟩) (λz=>(.inl ():Sum Unit Bool)) (.x 6) ?_ ?_
     ·refine Bp (λn (y:Int×Nat)=>Cg N l855 n y.1) (λy=>⟨[(6,.own (1000004,ab+1+1+1+1+1) l855.length),(12,.i y.1)],[(.a (1000004,ab+1+1+1+1+1),Fi l855)],y.2⟩) (0,gw+1) gi (Ch F) ?_;rintro n ⟨ai,eh⟩ bu;simp only[Cg]at bu;refine An hS F bu (λ_ bu=>?_) (λ_ bu=>?_)
      ·obtain⟨dg,gh,bu⟩:=un bu;refine go hS F ?_;refine Bz dg (λz:Nat=>⟨[(6,.own (1000004,ab+1+1+1+1+1) l855.length),(12,.i ai)],[(.a (1000004,ab+1+1+1+1+1),Fi l855)],z⟩) (λz=>(.inl ():Sum Unit Bool)) (.x 8) ?_ ?_
       ·refine Bp (λn (y:Int×Nat)=>Ce N ai l855 n y.1) (λy=>⟨[(6,.own (1000004,ab+1+1+1+1+1) l855.length),(12,.i ai),(13,.i y.1)],[(.a (1000004,ab+1+1+1+1+1),Fi l855)],y.2⟩) (0,eh+1+1) gh (Ch F) ?_;rintro n ⟨bj,ee⟩ br;simp only[Ce]at br;refine An hS F br (λ_ br=>?_) (λ_ br=>?_)
        ·obtain⟨dh,gg,br⟩:=un br;refine go hS F ?_;refine Bz dh (λz:Nat=>⟨[(6,.own (1000004,ab+1+1+1+1+1) l855.length),(12,.i ai),(13,.i bj)],[(.a (1000004,ab+1+1+1+1+1),Fi l855)],z⟩) (λz=>(.inl ():Sum Unit Bool)) (.x 10) ?_ ?_
         ·refine Bp (λn (y:Int×Nat)=>BL N bj l855 ai n y.1) (λy=>⟨[(6,.own (1000004,ab+1+1+1+1+1) l855.length),(12,.i ai),(13,.i bj),(14,.i y.1)],[(.a (1000004,ab+1+1+1+1+1),Fi l855)],y.2⟩) (0,ee+1+1) gg (Ch F) ?_;rintro n ⟨ck,d9⟩ ah;simp only[BL]at ah;refine An hS F ah (λ_ ah=>?_) (λ_ ah=>?_)
          ·obtain⟨⟨cq,co,cy⟩,dz,ah⟩:=un ah;obtain⟨g9,F⟩:=Cb Ij dz F;obtain⟨⟨bo,bn,bb⟩,dw,ah⟩:=un ah;obtain⟨g8,F⟩:=Cb Ij dw F;obtain⟨⟨bm,bl,ba⟩,du,ah⟩:=un ah;obtain⟨gz,F⟩:=Cb Ij du F;obtain⟨jb,ja,i9,i8,i7,i6,i5,i4,iz,iy,iw,iv,ir,iq,ah⟩:=un ah;refine An hS F ah (λ_ ah=>?_) (λ_ ah=>?_)
           ·obtain rfl:=yJ ah;obtain rfl:=yJ br;obtain rfl:=yJ bu;exact Ai hS F h
           ·obtain⟨ip,ah⟩:=un ah;exact Cd hS F (n,ck+1,d9+1+1+1+1+1+1) ah
          ·exact B4 hS F (d9+1) ah
         ·rintro gv rfl;obtain⟨im,br⟩:=un br;exact Cd hS F (n,bj+1,gv+1) br
        ·exact B4 hS F (ee+1) br
       ·rintro gu rfl;obtain⟨ij,bu⟩:=un bu;exact Cd hS F (n,ai+1,gu+1) bu
      ·exact B4 hS F (eh+1) bu
     ·rintro lf rfl;exact Ai hS F h
