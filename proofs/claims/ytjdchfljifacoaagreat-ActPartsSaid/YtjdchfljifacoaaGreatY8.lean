import Derived.Test.YtjdchfljifacoaaGreatY7
set_option linter.all false
set_option maxRecDepth 100000
set_option maxHeartbeats 8000000
namespace Go.Proofs.YtjdchfljifacoaaGreat.Am
section
open Go
attribute [local irreducible] Ax BO BB Bj BC Bk AY BD BK Cq
def Fe(N:Nat)(ak:List (Int×Int×Int×Int×Int×Int))(aj:List (Int×Int×Int×Int))(ai:List (Int×Int×Int×Int×Int×Int))(ae:Int):Option Bool:=(H5 N).bind λbf=>bif !bf then(some false)else((Dp N ak aj ai).bind λ(ba,az)=>(GA N ak aj ai).bind λ(r576,ah)=>gd (Af ((r576.length:Int)+1))<|(Gz N ae ((r576.length:Int)+1)).bind λr579=>(Hb N ba az r576).bind λ((ay,aw),af,aa)=>gd (0<=0/\0<=r579/\r579<=(r576.length:Int))<|(Hb N ba az (r576.take (r579.toNat-0))).bind λ((be,bb),ab,av)=>bif decide (av≠0)then(some (((((decide (aa=170))&&(decide (av=aa)))&&(decide (ab=af)))&&(decide (ab<r579)))&&(decide (ab=ah))))else(gd (0<=r579/\r579<=(r576.length:Int))<|(Hb N be bb (r576.drop r579.toNat)).bind λ((au,aq),an,am)=>gd (((decide (aa=am))&&(decide (ab=r579)))=true->(Af (r579+an)))<|gd ((((((decide (aa=am))&&(decide (ab=r579)))&&(decide (af=r579+an)))&&(decide (af=ah)))&&((decide (aa=0))==(decide (ah=(r576.length:Int)))))=true->((CG N ay aw au aq).isSome=true))<|some ((((((decide (aa=am))&&(decide (ab=r579)))&&(decide (af=r579+an)))&&(decide (af=ah)))&&((decide (aa=0))==(decide (ah=(r576.length:Int)))))&&((CG N ay aw au aq).getD false))))
theorem MT(N:Nat)(ak:List (Int×Int×Int×Int×Int×Int))(aj:List (Int×Int×Int×Int))(ai:List (Int×Int×Int×Int×Int×Int))(ae:Int)(r:Bool)(h:Fe N ak aj ai ae=some r):PCall Tryz.prog 7 [.agg [GS ak,Ov aj,GS ai],.i ae] (.b r):=by
 refine wx x7 (Ab (Acu N)<|Ab (ZI N)<|Ab (Aco N)<|Ab (Acj N)<|Ab (pY N)<|Ab (oC N)<|Aj) λ_ hS F=>?_
 dsimp only[x7,Ah];unfold Fe at h;obtain⟨bf,bn,h⟩:=un h;replace F:=fc bn F;refine An hS F h (λ_ h=>?_) (λ_ h=>?_)
 ·exact Ai hS F h
 ·obtain⟨⟨ba,az⟩,bm,h⟩:=un h;obtain⟨⟨r576,ah⟩,bl,h⟩:=un h;obtain⟨bu,r579,bj,⟨⟨ay,aw⟩,af,aa⟩,bi,h⟩:=un h;obtain⟨br,⟨⟨be,bb⟩,ab,av⟩,bh,h⟩:=un h;replace F:=fc bh (fc bi (fc bj (fc bl (fc bm F))));refine An hS F h (λ_ h=>?_) (λ_ h=>?_)
  ·exact Ai hS F h
  ·obtain⟨bq,⟨⟨au,aq⟩,an,am⟩,bg,h⟩:=un h;obtain⟨bp,bo,h⟩:=un h;exact Ai hS (fc bg F) h
end
theorem AbE:SV [] []:=⟨eS,fS []⟩
theorem fW(x1:List (Int×Int×Int×Int×Int×Int))(x2:List (Int×Int×Int×Int))(x3:List (Int×Int×Int×Int×Int×Int))(c:Int)(h1:I6 x1)(h2:I4 x2)(h3:I6 x3)(hc:Af c):Fe 2000 x1 x2 x3 c=some true:=by
 have hN:1001<=2000:=by omega
 have h9:2000<=100000:=by omega
 obtain⟨f,ms,em,hs⟩:=AbA (N:=2000) hN x3 h1 h2;obtain⟨l,el,l8,fl⟩:=AbC (N:=2000) hN h9 h3 em hs;have pb:=DI (c:=c) (n:=(l.length:Int)+1) (by omega);obtain⟨k,hk⟩:∃k:Nat,pk c ((l.length:Int)+1)=k:=⟨(pk c ((l.length:Int)+1)).toNat,by omega⟩
 have pb':0<=(k:Int)/\(k:Int)<(l.length:Int)+1:=by rw[<-hk];exact pb
 have hk2:k<=l.length:=by omega
 have ha:=λ(m:List Ac)(q:m.length<=40)=>AbB (N:=2000) hN h9 (s:=(f,ms)) hs q
 simp only at ha;have tl:(l.take k).length=k:=by rw[w7];omega
 have ap:=Px (l.take k) (l.drop k) (f,ms);rw[G3]at ap;have rl:=NF (l.take k) (f,ms);obtain⟨n,o1,hr⟩:∃n o1,C4 (f,ms) (l.take k)=(n,o1):=⟨_,_,rfl⟩
 rw[hr]at rl ap;have key:∀w,C4 (f,ms) l=w->Fe 2000 x1 x2 x3 c=(gd (0<=0/\0<=(k:Int)/\(k:Int)<=(l.length:Int))<|(Hb 2000 f ms (l.take k)).bind λ((r586,r587),r588,r589)=>
  bif decide (r589≠0)then(
   some (((((decide ((If w).2.2=170)&&(decide (r589=(If w).2.2)))&&(decide (r588=(If w).2.1)))&&(decide (r588<(k:Int))))&&(decide (r588=(w.1:Int))))))
  else(
   gd (0<=(k:Int)/\(k:Int)<=(l.length:Int))<|(Hb 2000 r586 r587 (l.drop k)).bind λ((r591,r592),r593,r594)=>
   gd (((decide ((If w).2.2=r594))&&(decide (r588=(k:Int))))=true->(Af ((k:Int)+r593)))<|gd ((((((decide ((If w).2.2=r594))&&(decide (r588=(k:Int))))&&(decide ((If w).2.1=(k:Int)+r593)))&&(decide ((If w).2.1=(w.1:Int))))&&((decide ((If w).2.2=0))==(decide ((w.1:Int)=(l.length:Int)))))=true->((CG 2000 (If w).1.1 (If w).1.2 r591 r592).isSome=true))<|some ((((((decide ((If w).2.2=r594))&&(decide (r588=(k:Int))))&&(decide ((If w).2.1=(k:Int)+r593)))&&(decide ((If w).2.1=(w.1:Int))))&&((decide ((If w).2.2=0))==(decide ((w.1:Int)=(l.length:Int)))))&&((CG 2000 (If w).1.1 (If w).1.2 r591 r592).getD false)))):=by
  rintro w rfl;unfold Fe;rw[AbD,bS,A1 _ (by rfl),em,bS];simp only;rw[el,bS];simp only;rw[Ae (by unfold Af;omega),lpk hc (by omega),bS,hk,ha l (by omega),bS,vF,Ki]
 cases o1 with
 |none=>
  simp only at ap;have hn:n<k:=by have:=rl.2;simp only[Jz,yF,false_iff]at this;have:=rl.1;simp only at this;omega
  rw[key _ ap,Ae (by omega),ha (l.take k) (by omega),hr,bS];simp only[If];rw[AU _ (by simp)];simp[hn]
 |some t=>
  have hn:n=k:=by have:=rl.2.1 rfl;rw[tl]at this;exact this
  subst hn;have ht:=TJ _ hs hr;have rl2:=NF (l.drop n) t;have dl:(l.drop n).length=l.length-n:=tG;have e2:=AbB (N:=2000) hN h9 ht (l:=l.drop n) (by omega);obtain⟨j,o2,hq⟩:∃j o2,C4 t (l.drop n)=(j,o2):=⟨_,_,rfl⟩
  simp only at ap;rw[hq]at rl2 e2 ap;rw[key _ ap,Ae (by omega),ha (l.take n) (by omega),hr,bS];cases o2 with
  |none=>
   have hj:n+j<l.length:=by have:=rl2.2;simp only[Jz,yF,false_iff]at this;have:=rl2.1;simp only at this;omega
   simp only[If]at e2⊢;have sm:=fU (N:=2000) hN h9 (s:=([],[])) AbE ([],[]);simp only at sm;rw[A1 _ (by simp),Ae (by omega),e2,bS];simp only;rw[Ae (λ_=>by unfold Af;omega),sm,BR (λ_=>nK),qZ];simp;omega
  |some u=>
   have hj:n+j=l.length:=by have:=rl2.2.1 rfl;simp only at this;omega
   have hu:=TJ _ ht hq;simp only[If]at e2⊢;rw[A1 _ (by simp),Ae (by omega),e2,bS];simp only;rw[Ae (λ_=>by unfold Af;omega),fU (N:=2000) hN h9 hu u,BR (λ_=>nK),qZ];simp;omega
