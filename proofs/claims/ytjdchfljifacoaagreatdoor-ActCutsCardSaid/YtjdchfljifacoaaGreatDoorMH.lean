import Derived.Test.YtjdchfljifacoaaGreatDoorP2
set_option linter.all false
set_option maxRecDepth 100000
set_option maxHeartbeats 8000000
namespace Go.Proofs.YtjdchfljifacoaaGreatDoor.Am
section
open Go
attribute [local irreducible] Aq BD Bv A8 Bq Ba AQ Bw By Ck
attribute [local go_sem] XT
def AG(N:Nat)(x323:List (Int×Int)):Nat->Int->Int->Int->Option (Int×Int)|0,_,_,_=>none|n+1,ae,ay,aw=>bif decide (ae<(x323.length:Int))then((Bz x323 ae).bind λ(be,bb)=>(Dh N be bb ay aw).bind λcu=>bif decide (0<cu)then(gd (Ai (ae+1))<|AG N x323 n (ae+1) be bb)else(gd (Ai (ae+1))<|AG N x323 n (ae+1) ay aw))else(some (ay,aw))
def A4(N:Nat)(x323:List (Int×Int)):Option (Int×Int):=gd ((decide ((x323.length:Int)<1))=false)<|(Bz x323 0).bind λ(bi,bh)=>(AG N x323 N 1 bi bh).bind λ(de,db)=>some (de,db)
@[go_sem] def Vs(N:Nat):Spec:=p0<|(qS Aj<|qL 68<|qE<|qE<|qF (0,0) λr=>.agg [.i r.1,.i r.2]) (A4 N)
theorem SR(N:Nat):Au Tryz.prog 90 (Vs N):=by
 refine fk (wX x90 (Aa (Pg N)<|Ae)) ?_;intro x323 r h _ hS F;dsimp only[x90,Ad,Aj];unfold A4 at h;obtain⟨el,h⟩:=un h;refine go hS F ?_;refine cb F (decide ((x323.length:Int)<1)) (λhc2=>?_) (λhc2=>?_)
 ·exact Bool.noConfusion (hc2.symm.trans el)
 obtain⟨⟨bi,bh⟩,eh,h⟩:=un h;obtain⟨fo,F⟩:=V4 0 Ce eh F;obtain⟨ez,e8,h⟩:=un h;refine go hS F ?_;refine BU ez (λz:Int×Int×Nat=>⟨[(4,.box (0,1) 0),(5,.box (303,3) 0)],[(.c (303,3) 0,.i z.1),(.c (303,3) 1,.i z.2.1),(.c (0,1) 0,.i 0),(.c (0,1) 1,.i 0)],z.2.2⟩) (λz=>((z.1,z.2.1):Int×Int)) (.x 0) ?_ ?_
 ·refine BO (λn (y:Int×Int×Int×Nat)=>AG N x323 n y.1 y.2.1 y.2.2.1) (λy=>⟨[(0,BK x323),(1,.clo (.func 68) [] []),(4,.box (0,1) 0),(5,.box (303,3) 0),(6,.i y.1)],[(.c (303,3) 0,.i y.2.1),(.c (303,3) 1,.i y.2.2.1),(.c (0,1) 0,.i 0),(.c (0,1) 1,.i 0)],y.2.2.2⟩) (1,bi,bh,4) e8 (CB F) ?_;rintro n ⟨ae,ay,aw,bl⟩ aa;simp only[AG]at aa;refine An hS F aa (λ_ aa=>?_) (λ_ aa=>?_)
  ·obtain⟨⟨be,bb⟩,ee,aa⟩:=un aa;obtain⟨fm,F⟩:=CH Ce ee F;obtain⟨cu,d7,aa⟩:=un aa;replace F:=fc d7 F;refine An hS F aa (λ_ aa=>?_) (λ_ aa=>?_)
   ·obtain⟨fg,aa⟩:=un aa;exact CS hS F (n,ae+1,be,bb,bl+1+1+1+1) aa
   ·obtain⟨e9,aa⟩:=un aa;exact CS hS F (n,ae+1,ay,aw,bl+1+1+1) aa
  ·exact Cu hS F (ay,aw,bl+1) aa
 ·rintro⟨de,db,fq⟩ rfl;exact Ah hS F h
def AH(N:Nat)(x350:List (Int×Int)):Nat->Int->Int->Int->Option (Int×Int)|0,_,_,_=>none|n+1,ab,av,au=>bif decide (ab<(x350.length:Int))then((Bz x350 ab).bind λ(ba,az)=>(Dh N ba az av au).bind λcr=>bif decide (cr<0)then(gd (Ai (ab+1))<|AH N x350 n (ab+1) ba az)else(gd (Ai (ab+1))<|AH N x350 n (ab+1) av au))else(some (av,au))
def A5(N:Nat)(x350:List (Int×Int)):Option (Int×Int):=gd ((decide ((x350.length:Int)<1))=false)<|(Bz x350 0).bind λ(bg,bf)=>(AH N x350 N 1 bg bf).bind λ(da,cy)=>some (da,cy)
@[go_sem] def Vt(N:Nat):Spec:=p0<|(qS Aj<|qL 68<|qE<|qE<|qF (0,0) λr=>.agg [.i r.1,.i r.2]) (A5 N)
theorem SS(N:Nat):Au Tryz.prog 91 (Vt N):=by
 refine fk (wX x91 (Aa (Pg N)<|Ae)) ?_;intro x350 r h _ hS F;dsimp only[x91,Ad,Aj];unfold A5 at h;obtain⟨el,h⟩:=un h;refine go hS F ?_;refine cb F (decide ((x350.length:Int)<1)) (λhc2=>?_) (λhc2=>?_)
 ·exact Bool.noConfusion (hc2.symm.trans el)
 obtain⟨⟨bg,bf⟩,d9,h⟩:=un h;obtain⟨fj,F⟩:=V4 0 Ce d9 F;obtain⟨eu,e8,h⟩:=un h;refine go hS F ?_;refine BU eu (λz:Int×Int×Nat=>⟨[(4,.box (0,1) 0),(5,.box (303,3) 0)],[(.c (303,3) 0,.i z.1),(.c (303,3) 1,.i z.2.1),(.c (0,1) 0,.i 0),(.c (0,1) 1,.i 0)],z.2.2⟩) (λz=>((z.1,z.2.1):Int×Int)) (.x 0) ?_ ?_
 ·refine BO (λn (y:Int×Int×Int×Nat)=>AH N x350 n y.1 y.2.1 y.2.2.1) (λy=>⟨[(0,BK x350),(1,.clo (.func 68) [] []),(4,.box (0,1) 0),(5,.box (303,3) 0),(6,.i y.1)],[(.c (303,3) 0,.i y.2.1),(.c (303,3) 1,.i y.2.2.1),(.c (0,1) 0,.i 0),(.c (0,1) 1,.i 0)],y.2.2.2⟩) (1,bg,bf,4) e8 (CB F) ?_;rintro n ⟨ab,av,au,bj⟩ aa;simp only[AH]at aa;refine An hS F aa (λ_ aa=>?_) (λ_ aa=>?_)
  ·obtain⟨⟨ba,az⟩,d8,aa⟩:=un aa;obtain⟨fh,F⟩:=CH Ce d8 F;obtain⟨cr,d6,aa⟩:=un aa;replace F:=fc d6 F;refine An hS F aa (λ_ aa=>?_) (λ_ aa=>?_)
   ·obtain⟨fg,aa⟩:=un aa;exact CS hS F (n,ab+1,ba,az,bj+1+1+1+1) aa
   ·obtain⟨e9,aa⟩:=un aa;exact CS hS F (n,ab+1,av,au,bj+1+1+1) aa
  ·exact Cu hS F (av,au,bj+1) aa
 ·rintro⟨da,cy,fp⟩ rfl;exact Ah hS F h
def GZ(N:Nat)(aq:Int)(an:Int)(am:Int)(ak:Int)(aj:Int)(ai:Int)(ah:Int)(af:Int):Option ((Int×Int)×(Int×Int)):=gd (0<=IntKind.wrap .u64 2)<|gd (IntKind.wrap .u64 2<=1000000)<|(some ((Lib.bitLen (IntKind.wrap .u64 2:Int).toNat:Int))).bind λep=>(Dh N am ak aq an).bind λcq=>bif decide (cq<0)then(gd (0<=IntKind.wrap .u64 2)<|gd (IntKind.wrap .u64 2<=1000000)<|(Dh N ah af aj ai).bind λco=>bif decide (co<0)then((A4 N [(am,ak),(ah,af)]).bind λ(cn,ck)=>(A5 N [(aq,an),(aj,ai)]).bind λ(cj,ci)=>some ((cn,ck),(cj,ci)))else((A4 N [(am,ak),(aj,ai)]).bind λ(ce,b9)=>(A5 N [(aq,an),(ah,af)]).bind λ(b7,bz)=>some ((ce,b9),(b7,bz))))else(gd (0<=IntKind.wrap .u64 2)<|gd (IntKind.wrap .u64 2<=1000000)<|(Dh N ah af aj ai).bind λbw=>bif decide (bw<0)then((A4 N [(aq,an),(ah,af)]).bind λ(bv,bu)=>(A5 N [(am,ak),(aj,ai)]).bind λ(br,bq)=>some ((bv,bu),(br,bq)))else((A4 N [(aq,an),(aj,ai)]).bind λ(bp,bo)=>(A5 N [(am,ak),(ah,af)]).bind λ(bn,bm)=>some ((bp,bo),(bn,bm))))
@[go_sem] def Aar(N:Nat):Spec:=p0<|(qG<|qI<|qI<|qE<|qG<|qI<|qI<|qE<|qG<|qI<|qI<|qE<|qG<|qI<|qI<|qE<|qE<|qF ((0,0),(0,0)) λr=>.tup [.agg [.i r.1.1,.i r.1.2],.agg [.i r.2.1,.i r.2.2]]) (GZ N)
theorem mS(N:Nat):Au Tryz.prog 67 (Aar N):=by
 refine fk (wX x67 (Aa fB<|Aa (Pg N)<|Aa (SR N)<|Aa (SS N)<|Ae)) ?_;intro aq an am ak aj ai ah af r h _ hS F;dsimp only[x67,Ad];unfold GZ at h;refine go hS F ?_;refine C3 hS 1 x89.hf x89.hc x89.hn x89.ok rfl (ev F) (ev F) ?_ rfl (ev F) (A01 rfl) λhb=>?_
 ·exact AS hS F
 dsimp only[x89,Ad];obtain⟨el,fy,ep,d5,h⟩:=un h;have ej:=yJ d5;replace F:=fc ej F;refine go hS F ?_;refine C3 hS 6 x145.hf x145.hc x145.hn x145.ok rfl (ev F) (ev F) ?_ rfl (ev F) (A01 rfl) λhb=>?_
 ·exact AS hS F
 dsimp only[x145,Ad];refine go hS F ?_;refine Es 30 ?_;refine Jg hS F ?_;refine go hS F ?_;refine C3 hS 4 x165.hf x165.hc x165.hn x165.ok rfl (ev F) (ev F) ?_ rfl (ev F) (A01 rfl) λhb=>?_
 ·exact AS hS F
 dsimp only[x165,Ad];refine go hS F ?_;refine Es 30 ?_;refine Jg hS F ?_;refine go hS F ?_;refine Es 30 ?_;obtain⟨cq,dz,h⟩:=un h;replace F:=fc dz F;refine An hS F h (λ_ h=>?_) (λ_ h=>?_)
 ·refine Gn hS F ?_;refine Gn hS F ?_;refine go hS F ?_;refine C3 hS 1 x89.hf x89.hc x89.hn x89.ok rfl (ev F) (ev F) ?_ rfl (ev F) (A01 rfl) λhb=>?_
  ·exact AS hS F
  dsimp only[x89,Ad];obtain⟨fx,fr,h⟩:=un h;refine go hS F ?_;refine C3 hS 6 x145.hf x145.hc x145.hn x145.ok rfl (ev F) (ev F) ?_ rfl (ev F) (A01 rfl) λhb=>?_
  ·exact AS hS F
  dsimp only[x145,Ad];refine go hS F ?_;refine Es 30 ?_;refine Jg hS F ?_;refine go hS F ?_;refine C3 hS 4 x165.hf x165.hc x165.hn x165.ok rfl (ev F) (ev F) ?_ rfl (ev F) (A01 rfl) λhb=>?_
  ·exact AS hS F
  dsimp only[x165,Ad];refine go hS F ?_;refine Es 30 ?_;refine Jg hS F ?_;refine go hS F ?_;refine Es 30 ?_;obtain⟨co,dy,h⟩:=un h;replace F:=fc dy F;refine An hS F h (λ_ h=>?_) (λ_ h=>?_)
  ·refine Gn hS F ?_;refine Gn hS F ?_;obtain⟨⟨cn,ck⟩,dx,h⟩:=un h;obtain⟨⟨cj,ci⟩,dw,h⟩:=un h;exact Ah hS (fc dw (fc dx F)) h
  ·refine Gn hS F ?_;obtain⟨⟨ce,b9⟩,du,h⟩:=un h;obtain⟨⟨b7,bz⟩,dt,h⟩:=un h;exact Ah hS (fc dt (fc du F)) h
 ·refine Gn hS F ?_;refine go hS F ?_;refine C3 hS 1 x89.hf x89.hc x89.hn x89.ok rfl (ev F) (ev F) ?_ rfl (ev F) (A01 rfl) λhb=>?_
  ·exact AS hS F
  dsimp only[x89,Ad];obtain⟨fg,e9,h⟩:=un h;refine go hS F ?_;refine C3 hS 6 x145.hf x145.hc x145.hn x145.ok rfl (ev F) (ev F) ?_ rfl (ev F) (A01 rfl) λhb=>?_
  ·exact AS hS F
  dsimp only[x145,Ad];refine go hS F ?_;refine Es 30 ?_;refine Jg hS F ?_;refine go hS F ?_;refine C3 hS 4 x165.hf x165.hc x165.hn x165.ok rfl (ev F) (ev F) ?_ rfl (ev F) (A01 rfl) λhb=>?_
  ·exact AS hS F
  dsimp only[x165,Ad];refine go hS F ?_;refine Es 30 ?_;refine Jg hS F ?_;refine go hS F ?_;refine Es 30 ?_;obtain⟨bw,dq,h⟩:=un h;replace F:=fc dq F;refine An hS F h (λ_ h=>?_) (λ_ h=>?_)
  ·refine Gn hS F ?_;refine Gn hS F ?_;obtain⟨⟨bv,bu⟩,dm,h⟩:=un h;obtain⟨⟨br,bq⟩,dl,h⟩:=un h;exact Ah hS (fc dl (fc dm F)) h
  ·refine Gn hS F ?_;obtain⟨⟨bp,bo⟩,dh,h⟩:=un h;obtain⟨⟨bn,bm⟩,dg,h⟩:=un h;exact Ah hS (fc dg (fc dh F)) h
end
section
open Go
theorem jX{U σ':Cf}{b:Nat}(hw:σ'.w.heap[b]? =U.w.heap[b]?):∀(l:List Pt)(o:Nat),RepRows U 2 b o (l.map Ce)->RepRows σ' 2 b o (l.map Ce)
 |[],o,h=>by simp[RepRows]
 |p::l,o,h=>by
  simp only[w5,RepRows,Ce,RepCells,Rep,A03,A33]at h⊢;obtain⟨_,⟨⟨x,h1,h2,h3⟩,⟨y,h4,h5,h6⟩,_⟩,h7⟩:=h;refine⟨trivial,⟨⟨x,?_,h2,h3⟩,⟨y,?_,h5,h6⟩,trivial⟩,jX hw l (o+2) h7⟩
  ·rw[cell_of_heap hw];exact h1
  ·rw[cell_of_heap hw];exact h4
theorem fC(l:List Pt)(f:Bool)(d:List AV):TrL []/\TrL [.ro [.sl 2 f (l.map Ce) d] 0]:=by
 refine⟨TrL.nil,λU σ' hf hw vs h=>?_⟩;simp only[RepL,Rep,RepCells]at h⊢;obtain⟨y,ys,rfl,⟨b,o,h1,h2,h3,⟨x,h4,h5,base,cap,h6,h7,h8,h9,h10⟩,_⟩,rfl⟩:=h;have hb:=hf b h2 (Np h4);refine⟨y,[],rfl,⟨b,o,h1,hb,h3,⟨x,by rw[cell_of_heap (hw b h2)];exact h4,h5,base,cap,h6,h7,h8,h9,?_⟩,trivial⟩,rfl⟩;rcases h10 with h10|⟨b',o',rfl,k1,k2⟩
 ·exact .inl h10
 ·cases l with
  |nil=>exact .inl rfl
  |cons p l=>have k3:=k2;simp only[w5,RepRows,Ce,RepCells]at k3;obtain⟨_,⟨⟨z,k4,_⟩,_⟩,_⟩:=k3;exact .inr ⟨b',o',rfl,hf b' k1 (Np k4),jX (hw b' k1) _ _ k2⟩
end
section
open Go
attribute [local irreducible] Aq BD Bv A8 Bq Ba AQ Bw By Ck
attribute [local go_sem] Rj
def D3(N:Nat)(ah:Int)(af:Int)(ae:Int)(ab:Int):List ((Int×Int)×(Int×Int))->Option (Sum Unit ((((Int×Int)×(Int×Int))×Bool)))|[]=>some (.inl ())|((be,bb),(av,au))::ys=>(DH N ah af ae ab be bb).bind λbf=>gd ((!(decide (bf≠0)))=true->((DH N ah af ae ab av au).isSome=true))<|bif (decide (bf≠0))||(decide ((DH N ah af ae ab av au).getD 0≠0))then(D3 N ah af ae ab ys)else((GZ N ah af ae ab be bb av au).bind λ((an,am),(ak,aj))=>gd ((!(decide (an=ak)&&decide (am=aj)))=true->((Dh N an am ak aj).isSome=true))<|bif (decide (an=ak)&&decide (am=aj))||(decide (0<(Dh N an am ak aj).getD 0))then(D3 N ah af ae ab ys)else((Dh N ah af ae ab).bind λbg=>bif decide (0<bg)then(some (.inr (((ak,aj),(an,am)),true)))else(some (.inr (((an,am),(ak,aj)),true)))))
def Ek(N:Nat)(b420:List (Int×Int)):List ((Int×Int)×(Int×Int))->Option (Sum Unit ((((Int×Int)×(Int×Int))×Bool)))|[]=>some (.inl ())|((ah,af),(ae,ab))::ys=>gd (b420.length<=1000000000)<|(D3 N ah af ae ab (BA b420)).bind λaz=>match az with|.inl ()=>(Ek N b420 ys)|.inr bp=>(some (.inr bp))
def HT(N:Nat)(a419:List (Int×Int))(b420:List (Int×Int)):Option (((Int×Int)×(Int×Int))×Bool):=(Bt N a419).bind λaw=>gd ((!(!aw))=true->((Bt N b420).isSome=true))<|gd ((!((!aw)||(!((Bt N b420).getD false))))=true->((CX N a419 b420).isSome=true))<|bif ((!aw)||(!((Bt N b420).getD false)))||((CX N a419 b420).getD false)then(some (((0,0),(0,0)),false))else(gd (a419.length<=1000000000)<|(Ek N b420 (BA a419)).bind λay=>match ay with|.inl ()=>(some (((0,0),(0,0)),false))|.inr bo=>(some bo))
@[go_sem] def Aas(N:Nat):Spec:=p0<|(qS Aj<|qS Aj<|qE<|qF (((0,0),(0,0)),false) λr=>.tup [.agg [.i r.1.1.1,.i r.1.1.2,.i r.1.2.1,.i r.1.2.2],.b r.2]) (HT N)
theorem mT(N:Nat):Au Tryz.prog 38 (Aas N):=by
 refine fk (wX T8 (Aa (Kw N)<|Aa (Zb N)<|Aa Mi<|Aa (Ok N)<|Aa (mS N)<|Aa (Pg N)<|Ae)) ?_;intro a419 b420 r h _ hS F;dsimp only[T8,Ad,Aj];unfold HT at h;obtain⟨aw,bm,ck,cj,h⟩:=un h;replace F:=fc bm F;refine An hS F h (λ_ h=>?_) (λ_ h=>?_)
 ·exact Ah hS F h
 ·obtain⟨ci,h⟩:=un h;obtain⟨ay,b7,h⟩:=un h;refine go hS F ?_;refine BU ay (λz:Nat=>⟨[(4,.box (1,1) 0),(5,.box (2,1) 0)],[(.c (2,1) 0,.b false),(.c (1,1) 0,.i 0),(.c (1,1) 1,.i 0),(.c (1,1) 2,.i 0),(.c (1,1) 3,.i 0)],z⟩) (λz=>(.inl ():Sum Unit ((((Int×Int)×(Int×Int))×Bool)))) .n ?_ ?_
  ·refine X6 (λy:Nat×Nat=>([(.c (2,1) 0,.b false),(.c (1,1) 0,.i 0),(.c (1,1) 1,.i 0),(.c (1,1) 2,.i 0),(.c (1,1) 3,.i 0),(.c (0,1) 0,BK b420)],y.2)) (λy=>Ek N b420 ((BA a419).drop y.1)=some ay/\y.1<=(BA a419).length) (λy=>y.1) (0,3) (ev F) (LR a419 false (by assumption)) x88.ok ⟨rfl,rfl⟩ (by simp[T8,Ad]) (by intro a ha;obtain⟨y,_,rfl⟩:=List.mem_map.1 ha;exact⟨rfl,rfl⟩) ⟨b7,A16 _⟩ rfl ?_ ?_ ?_
   ·exact CB F
   ·rintro l ⟨n,ai⟩ ⟨aq,hle⟩ args bu;obtain⟨⟨⟨ah,af⟩,⟨ae,ab⟩⟩,br,rfl,hlt⟩:=JZ bu;simp only[br,Ek]at aq;clear bu br;simp only[SH,Gq];obtain⟨ce,aq⟩:=un aq;obtain⟨az,bz,aq⟩:=un aq;refine go hS F ?_;refine BU az (λz:Nat=>⟨[(3,.box (0,1) 0),(4,.box (1,1) 0),(5,.box (2,1) 0),(6,.box (400,ai+1) 0),(7,.box (500,ai+1+1) 0),(27,.clo (.func 88) [] [.ro [BK a419] 0]),(28,.agg [.i ah,.i af]),(29,.agg [.i ae,.i ab])],[(.c (500,ai+1+1) 0,.i ae),(.c (500,ai+1+1) 1,.i ab),(.c (400,ai+1) 0,.i ah),(.c (400,ai+1) 1,.i af),(.c (2,1) 0,.b false),(.c (1,1) 0,.i 0),(.c (1,1) 1,.i 0),(.c (1,1) 2,.i 0),(.c (1,1) 3,.i 0),(.c (0,1) 0,BK b420)],z⟩) (λz=>(.inl ():Sum Unit ((((Int×Int)×(Int×Int))×Bool)))) .n ?_ ?_
    ·refine X7 (λy:Nat×Nat=>([(.c (500,ai+1+1) 0,.i ae),(.c (500,ai+1+1) 1,.i ab),(.c (400,ai+1) 0,.i ah),(.c (400,ai+1) 1,.i af),(.c (2,1) 0,.b false),(.c (1,1) 0,.i 0),(.c (1,1) 1,.i 0),(.c (1,1) 2,.i 0),(.c (1,1) 3,.i 0),(.c (0,1) 0,BK b420)],y.2)) (λy=>D3 N ah af ae ab ((BA b420).drop y.1)=some az/\y.1<=(BA b420).length) (λy=>y.1) (0,ai+1+1+1) (ev F) (LR b420 false (by assumption)) x88.ok ⟨rfl,rfl⟩ (by simp[T8,Ad]) (by intro a ha;obtain⟨y,_,rfl⟩:=List.mem_map.1 ha;exact⟨rfl,rfl⟩) (fC b420 false _) ⟨bz,A16 _⟩ rfl ?_ ?_ ?_
     ·exact CB F
     ·rintro l ⟨n,ba⟩ ⟨aa,hle⟩ args bn;obtain⟨⟨⟨be,bb⟩,⟨av,au⟩⟩,bh,rfl,hlt⟩:=JZ bn;simp only[bh,D3]at aa;clear bn bh;simp only[SH,Gq];obtain⟨bf,bl,bw,aa⟩:=un aa;replace F:=fc bl F;refine An hS F aa (λ_ aa=>?_) (λ_ aa=>?_)
      ·exact TP hS F (n+1,ba+1+1+1) aa
      ·obtain⟨⟨⟨an,am⟩,⟨ak,aj⟩⟩,bj,aa⟩:=un aa;obtain⟨bv,aa⟩:=un aa;replace F:=fc bj F;refine An hS F aa (λ_ aa=>?_) (λ_ aa=>?_)
       ·exact TP hS F (n+1,ba+1+1+1+1+1) aa
       ·obtain⟨bg,bi,aa⟩:=un aa;replace F:=fc bi F;refine An hS F aa (λ_ aa=>?_) (λ_ aa=>?_)
        ·obtain rfl:=yJ aa;obtain rfl:=yJ aq;exact Ah hS F h
        ·obtain rfl:=yJ aa;obtain rfl:=yJ aq;exact Ah hS F h
     ·rintro⟨n,ba⟩ ⟨aa,hle⟩ hk;rw[show n=_ from hk,J0]at aa;simp only[D3]at aa;exact Cu hS F ba aa
    ·rintro bq rfl;exact TP hS F (n+1,bq) aq
   ·rintro⟨n,ai⟩ ⟨aq,hle⟩ hk;rw[show n=_ from hk,J0]at aq;simp only[Ek]at aq;exact Cu hS F ai aq
  ·rintro b9 rfl;exact Ah hS F h
end
section
open Go
attribute [local irreducible] Aq BD Bv A8 Bq Ba AQ Bw By Ck
attribute [local go_sem] vA
def Dp(N:Nat)(n1:Int)(bp:Int)(ak:Int):Option Bool:=some ((decide (bp<=n1))&&(decide (n1<=ak)))
@[go_sem] def XC(N:Nat):Spec:=p0<|(qI<|qI<|qI<|qE<|qF false .b) (Dp N)
theorem Uj(N:Nat):Au Tryz.prog 80 (XC N):=by refine fk (wX YZ (Ae)) ?_;intro n1 bp ak r h _ hS F;dsimp only[YZ,Ad];unfold Dp at h;exact Ah hS F h
def BG(N:Nat)(u4:Int)(u5:Int)(u6:Int)(u7:List (Int×Int))(u8:Int)(u9:Int):Option Bool:=(Dp N u4 0 99).bind λbo=>gd (bo=true->((Dp N u5 1 8).isSome=true))<|gd ((bo&&((Dp N u5 1 8).getD false))=true->((Dp N u6 0 7).isSome=true))<|gd ((((((bo&&((Dp N u5 1 8).getD false))&&((Dp N u6 0 7).getD false))&&(decide (0<=u8)))&&(decide (u8<u9)))&&(decide (u9<=8)))=true->((Bt N u7).isSome=true))<|some ((((((bo&&((Dp N u5 1 8).getD false))&&((Dp N u6 0 7).getD false))&&(decide (0<=u8)))&&(decide (u8<u9)))&&(decide (u9<=8)))&&((Bt N u7).getD false))
@[go_sem] def Wp(N:Nat):Spec:=p0<|(qG<|qI<|qI<|qI<|qS Aj<|qI<|qI<|qE<|qE<|qF false .b) (BG N)
theorem Md(N:Nat):Au Tryz.prog 59 (Wp N):=by refine fk (wX T9 (Aa (Uj N)<|Aa (Kw N)<|Ae)) ?_;intro u4 u5 u6 u7 u8 u9 r h _ hS F;dsimp only[T9,Ad,Aj];unfold BG at h;obtain⟨bo,fo,aj,eh,jd,h⟩:=un h;exact Ah hS (fc fo F) h
def Jp(N:Nat)(material12:Int):Option ((Int×Int×Int×Int×Int)×Int):=(Dp N material12 0 7).bind λgx=>bif !gx then(some ((0,0,0,0,0),80))else(gd (0<=material12/\material12<8)<|some (((GT 0).getD (material12.toNat*5) 0,(GT 0).getD (material12.toNat*5+1) 0,(GT 0).getD (material12.toNat*5+1+1) 0,(GT 0).getD (material12.toNat*5+1+1+1) 0,(GT 0).getD (material12.toNat*5+1+1+1+1) 0),0))
@[go_sem] def Aav(N:Nat):Spec:=p0<|(qI<|qE<|qF ((0,0,0,0,0),0) λr=>.tup [.agg [.i r.1.1,.i r.1.2.1,.i r.1.2.2.1,.i r.1.2.2.2.1,.i r.1.2.2.2.2],.i r.2]) (Jp N)
theorem mU(N:Nat):Au Tryz.prog 71 (Aav N):=by
 refine fk (wX iY (Aa (Uj N)<|Ae)) ?_;intro material12 r h _ hS F;dsimp only[iY,Ad];unfold Jp at h;obtain⟨gx,fm,h⟩:=un h;replace F:=fc fm F;refine An hS F h (λ_ h=>?_) (λ_ h=>?_)
 ·exact Ah hS F h
 ·obtain⟨aj,h⟩:=un h;exact Ah hS F h
def G0(N:Nat)(gt:Int)(u16:Int)(gr:Int)(gm:List (Int×Int))(ck:Int)(cj:Int):Option Int:=(BG N gt u16 gr gm ck cj).bind λgw=>bif !gw then(some 0)else(gd (Ai (cj-ck))<|some (cj-ck))
@[go_sem] def Aaw(N:Nat):Spec:=p0<|(qG<|qI<|qI<|qI<|qS Aj<|qI<|qI<|qE<|qE<|qF 0 .i) (G0 N)
theorem Wq(N:Nat):Au Tryz.prog 43 (Aaw N):=by
 refine fk (wX YV (Aa (Md N)<|Ae)) ?_;intro gt u16 gr gm ck cj r h _ hS F;dsimp only[YV,Ad,Aj];unfold G0 at h;obtain⟨gw,fj,h⟩:=un h;replace F:=fc fj F;refine An hS F h (λ_ h=>?_) (λ_ h=>?_)
 ·exact Ah hS F h
 ·obtain⟨aj,h⟩:=un h;exact Ah hS F h
def FW(N:Nat)(gj:Int)(gi:Int)(gh:Int)(d5:List (Int×Int))(gg:Int)(ge:Int):Option Int:=(Hn N d5).bind λee=>(G0 N gj gi gh d5 gg ge).bind λd9=>gd (Ai (ee*d9))<|some (ee*d9)
@[go_sem] def Aax(N:Nat):Spec:=p0<|(qG<|qI<|qI<|qI<|qS Aj<|qI<|qI<|qE<|qE<|qF 0 .i) (FW N)
theorem Wr(N:Nat):Au Tryz.prog 40 (Aax N):=by refine fk (wX YT (Aa (mQ N)<|Aa (Wq N)<|Ae)) ?_;intro gj gi gh d5 gg ge r h _ hS F;dsimp only[YT,Ad,Aj];unfold FW at h;obtain⟨ee,fh,d9,fg,aj,h⟩:=un h;exact Ah hS (fc fg (fc fh F)) h
def FX(N:Nat)(i4:Int)(iz:Int)(gc:Int)(iy:List (Int×Int))(iw:Int)(iv:Int):Option Int:=(Jp N gc).bind λ((gu,jc,jb,ja,i9),i8)=>some gu
@[go_sem] def Aay(N:Nat):Spec:=p0<|(qG<|qI<|qI<|qI<|qS Aj<|qI<|qI<|qE<|qE<|qF 0 .i) (FX N)
theorem Ws(N:Nat):Au Tryz.prog 41 (Aay N):=by refine fk (wX YU (Aa (mU N)<|Ae)) ?_;intro i4 iz gc iy iw iv r h _ hS F;dsimp only[YU,Ad,Aj];unfold FX at h;obtain⟨⟨⟨gu,jc,jb,ja,i9⟩,i8⟩,e9,h⟩:=un h;exact Ah hS (fc e9 F) h
def A9(N:Nat)(dz:Int)(dy:Int)(dx:Int)(dw:List (Int×Int))(du:Int)(dt:Int):Option Int:=(FW N dz dy dx dw du dt).bind λcq=>gd (Ai (3*cq))<|(FX N dz dy dx dw du dt).bind λd8=>gd (Ai ((3*cq)*d8))<|some ((3*cq)*d8)
@[go_sem] def Aaz(N:Nat):Spec:=p0<|(qG<|qI<|qI<|qI<|qS Aj<|qI<|qI<|qE<|qE<|qF 0 .i) (A9 N)
theorem mV(N:Nat):Au Tryz.prog 13 (Aaz N):=by refine fk (wX x13 (Aa (Wr N)<|Aa (Ws N)<|Ae)) ?_;intro dz dy dx dw du dt r h _ hS F;dsimp only[x13,Ad,Aj];unfold A9 at h;obtain⟨cq,e8,aj,d8,ez,eh,h⟩:=un h;exact Ah hS (fc ez (fc e8 F)) h
def CV(N:Nat)(dq:Int)(dm:Int)(dl:Int)(ci:List (Int×Int))(dh:Int)(dg:Int):Option Int:=(Gw N ci).bind λ(co,i7)=>(G0 N dq dm dl ci dh dg).bind λcn=>gd (Ai (co*cn))<|(FX N dq dm dl ci dh dg).bind λd7=>gd (Ai ((co*cn)*d7))<|some ((co*cn)*d7)
@[go_sem] def AaA(N:Nat):Spec:=p0<|(qG<|qI<|qI<|qI<|qS Aj<|qI<|qI<|qE<|qE<|qF 0 .i) (CV N)
theorem mW(N:Nat):Au Tryz.prog 14 (AaA N):=by refine fk (wX x14 (Aa (mR N)<|Aa (Wq N)<|Aa (Ws N)<|Ae)) ?_;intro dq dm dl ci dh dg r h _ hS F;dsimp only[x14,Ad,Aj];unfold CV at h;obtain⟨⟨co,i7⟩,eu,h⟩:=un h;obtain⟨cn,ep,aj,d7,el,eh,h⟩:=un h;exact Ah hS (fc el (fc ep (fc eu F))) h
def E1(N:Nat)(de:Int)(db:Int)(da:Int)(cy:List (Int×Int))(au:Int)(aq:Int)(fx:Int)(fr:Int)(fq:Int)(fp:List (Int×Int))(ay:Int)(aw:Int):Option (Int×Int×Bool):=gd ((decide (max au ay<min aq aw))=true->((BG N de db da cy au aq).isSome=true))<|gd (((decide (max au ay<min aq aw))&&((BG N de db da cy au aq).getD false))=true->((BG N fx fr fq fp ay aw).isSome=true))<|some (max au ay,min aq aw,((decide (max au ay<min aq aw))&&((BG N de db da cy au aq).getD false))&&((BG N fx fr fq fp ay aw).getD false))
@[go_sem] def Acj(N:Nat):Spec:=p0<|(qG<|qI<|qI<|qI<|qS Aj<|qI<|qI<|qE<|qG<|qI<|qI<|qI<|qS Aj<|qI<|qI<|qE<|qE<|qF (0,0,false) λr=>.tup [.i r.1,.i r.2.1,.b r.2.2]) (E1 N)
theorem Zc(N:Nat):Au Tryz.prog 37 (Acj N):=by refine fk (wX YR (Aa (Md N)<|Ae)) ?_;intro de db da cy au aq fx fr fq fp ay aw r h _ hS F;dsimp only[YR,Ad,Aj];unfold E1 at h;obtain⟨aj,eh,h⟩:=un h;exact Ah hS F h
def CW(N:Nat)(iq:Int)(ip:Int)(im:Int)(cu:List (Int×Int))(ij:Int)(ii:Int)(ib:Int)(g9:Int)(g8:Int)(cr:List (Int×Int))(gz:Int)(gy:Int):Option Bool:=(E1 N iq ip im cu ij ii ib g9 g8 cr gz gy).bind λ(i6,i5,d6)=>gd (d6=true->((CX N cu cr).isSome=true))<|some (d6&&((CX N cu cr).getD false))
@[go_sem] def Ack(N:Nat):Spec:=p0<|(qG<|qI<|qI<|qI<|qS Aj<|qI<|qI<|qE<|qG<|qI<|qI<|qI<|qS Aj<|qI<|qI<|qE<|qE<|qF false .b) (CW N)
theorem Uk(N:Nat):Au Tryz.prog 11 (Ack N):=by refine fk (wX YO (Aa (Zc N)<|Aa (Zb N)<|Ae)) ?_;intro iq ip im cu ij ii ib g9 g8 cr gz gy r h _ hS F;dsimp only[YO,Ad,Aj];unfold CW at h;obtain⟨⟨i6,i5,d6⟩,ej,h⟩:=un h;obtain⟨aj,h⟩:=un h;exact Ah hS (fc ej F) h
def HU(N:Nat)(fy:Int)(ig:Int)(ic:Int)(bb:List (Int×Int))(ce:Int)(b9:Int)(ba:Int)(b7:Int)(bz:Int)(az:List (Int×Int))(bw:Int)(bv:Int):Option ((Int×Int×((Int×Int)×(Int×Int))×Int×Int)×Bool):=(E1 N fy ig ic bb ce b9 ba b7 bz az bw bv).bind λ(bn,bm,bl)=>bif !bl then(some ((0,0,((0,0),(0,0)),0,0),false))else((HT N bb az).bind λ(((bj,bi),(bh,bg)),bf)=>bif !bf then(some ((0,0,((0,0),(0,0)),0,0),false))else(some ((fy,ba,((bj,bi),(bh,bg)),bn,bm),true)))
@[go_sem] def AaB(N:Nat):Spec:=p0<|(qG<|qI<|qI<|qI<|qS Aj<|qI<|qI<|qE<|qG<|qI<|qI<|qI<|qS Aj<|qI<|qI<|qE<|qE<|qF ((0,0,((0,0),(0,0)),0,0),false) λr=>.tup [.agg [.i r.1.1,.i r.1.2.1,.i r.1.2.2.1.1.1,.i r.1.2.2.1.1.2,.i r.1.2.2.1.2.1,.i r.1.2.2.1.2.2,.i r.1.2.2.2.1,.i r.1.2.2.2.2],.b r.2]) (HU N)
theorem mX(N:Nat):Au Tryz.prog 10 (AaB N):=by
 refine fk (wX x10 (Aa (Zc N)<|Aa (mT N)<|Ae)) ?_;intro fy ig ic bb ce b9 ba b7 bz az bw bv r h _ hS F;dsimp only[x10,Ad,Aj];unfold HU at h;obtain⟨⟨bn,bm,bl⟩,bu,h⟩:=un h;replace F:=fc bu F;refine An hS F h (λ_ h=>?_) (λ_ h=>?_)
 ·exact Ah hS F h
 ·obtain⟨⟨⟨⟨bj,bi⟩,⟨bh,bg⟩⟩,bf⟩,br,h⟩:=un h;replace F:=fc br F;refine An hS F h (λ_ h=>?_) (λ_ h=>?_)
  ·exact Ah hS F h
  ·exact Ah hS F h
def GJ(N:Nat)(ai:Int)(ah:Int)(af:Int)(ae:List (Int×Int))(ab:Int)(aa:Int)(an:Int)(am:Int):Option ((Int×Int×Int×(List (Int×Int))×Int×Int)×Int):=(GY N ae an am).bind λ(be,av)=>gd ((!(decide (av≠0)))=true->((BG N ai ah af ae ab aa).isSome=true))<|bif (decide (av≠0))||(!((BG N ai ah af ae ab aa).getD false))then(some ((0,0,0,[],0,0),80))else(some ((ai,ah,af,be,ab,aa),0))
@[go_sem] def s45(N:Nat):Spec:=p0<|(qG<|qI<|qI<|qI<|qS Aj<|qI<|qI<|qE<|qI<|qI<|qE<|qF ((0,0,0,[],0,0),0) λr=>.tup [.agg [.i r.1.1,.i r.1.2.1,.i r.1.2.2.1,BK r.1.2.2.2.1,.i r.1.2.2.2.2.1,.i r.1.2.2.2.2.2],.i r.2]) (GJ N)
theorem AaC(N:Nat):Au Tryz.prog 122 (s45 N):=by
 refine fk (wX Oj (Aa (Aaq N)<|Aa (Md N)<|Ae)) ?_;intro ai ah af ae ab aa an am r h _ hS F;dsimp only[Oj,Ad,Aj];unfold GJ at h;obtain⟨⟨be,av⟩,bq,h⟩:=un h;obtain⟨aj,h⟩:=un h;replace F:=fc bq F;refine An hS F h (λ_ h=>?_) (λ_ h=>?_)
 ·exact Ah hS F h
 ·exact Ah hS F h
end
section
open Go
attribute [local irreducible] Aq BD Bv A8 Bq Ba AQ Bw By Ck
def Fv(N:Nat)(a582:List (Int×Int))(b588:List (Int×Int)):Nat->Int->Option (Sum Unit Bool)|0,_=>none|n+1,ab=>bif decide (ab<(a582.length:Int))then((Bz a582 ab).bind λ(ba,az)=>(Bz b588 ab).bind λ(ay,aw)=>bif !(decide (ba=ay)&&decide (az=aw))then(some (.inr false))else(gd (Ai (ab+1))<|Fv N a582 b588 n (ab+1)))else(some (.inl ()))
def Eb(N:Nat)(av:Int)(au:Int)(aq:Int)(a582:List (Int×Int))(an:Int)(am:Int)(ak:Int)(aj:Int)(ai:Int)(b588:List (Int×Int))(ah:Int)(af:Int):Option Bool:=bif (((((decide (av≠ak))||(decide (au≠aj)))||(decide (aq≠ai)))||(decide (an≠ah)))||(decide (am≠af)))||(decide ((a582.length:Int)≠(b588.length:Int)))then(some false)else((Fv N a582 b588 N 0).bind λae=>match ae with|.inl ()=>(some true)|.inr bg=>(some bg))
@[go_sem] def s40(N:Nat):Spec:=p0<|(qG<|qI<|qI<|qI<|qS Aj<|qI<|qI<|qE<|qG<|qI<|qI<|qI<|qS Aj<|qI<|qI<|qE<|qE<|qF false .b) (Eb N)
theorem XD(N:Nat):Au Tryz.prog 22 (s40 N):=by
 refine fk (wX iW (Ae)) ?_;intro av au aq a582 an am ak aj ai b588 ah af r h _ hS F;dsimp only[iW,Ad,Aj];unfold Eb at h;refine An hS F h (λ_ h=>?_) (λ_ h=>?_)
 ·exact Ah hS F h
 ·obtain⟨ae,bj,h⟩:=un h;refine go hS F ?_;refine BU ae (λz:Nat=>⟨[],[],z⟩) (λz=>(.inl ():Sum Unit Bool)) (.x 0) ?_ ?_
  ·refine BO (λn (y:Int×Nat)=>Fv N a582 b588 n y.1) (λy=>⟨[(2,.box (0,1) 0),(3,.box (1,1) 0),(5,.i y.1)],[(.c (1,1) 0,.i ak),(.c (1,1) 1,.i aj),(.c (1,1) 2,.i ai),(.c (1,1) 3,BK b588),(.c (1,1) 4,.i ah),(.c (1,1) 5,.i af),(.c (0,1) 0,.i av),(.c (0,1) 1,.i au),(.c (0,1) 2,.i aq),(.c (0,1) 3,BK a582),(.c (0,1) 4,.i an),(.c (0,1) 5,.i am)],y.2⟩) (0,3) bj (CB F) ?_;rintro n ⟨ab,bf⟩ aa;simp only[Fv]at aa;refine An hS F aa (λ_ aa=>?_) (λ_ aa=>?_)
   ·obtain⟨⟨ba,az⟩,be,aa⟩:=un aa;obtain⟨bi,F⟩:=CH Ce be F;obtain⟨⟨ay,aw⟩,bb,aa⟩:=un aa;obtain⟨bh,F⟩:=CH Ce bb F;refine An hS F aa (λ_ aa=>?_) (λ_ aa=>?_)
    ·obtain rfl:=yJ aa;exact Ah hS F h
    ·obtain⟨bm,aa⟩:=un aa;exact CS hS F (n,ab+1,bf+1+1+1) aa
   ·exact Cu hS F (bf+1) aa
  ·rintro bl rfl;exact Ah hS F h
end
structure UP(a b c:Int)(l:List Pt)(p q:Int):Prop where
 a:0<=a/\a<=99
 b:1<=b/\b<=8
 c:0<=c/\c<=7
 d:0<=p/\p<q/\q<=8
 l:VP l
theorem NH(N:Nat)(n lo hi:Int):Dp N n lo hi=some (decide (lo<=n)&&decide (n<=hi)):=rfl
def IJ(a b c p q:Int):Bool:=(((((decide (0<=a)&&decide (a<=99))&&(decide (1<=b)&&decide (b<=8)))&&(decide (0<=c)&&decide (c<=7)))&&decide (0<=p))&&decide (p<q))&&decide (q<=8)
theorem KE{N:Nat}(hN:100<=N)(a b c:Int)(l:List Pt)(p q:Int):BG N a b c l p q=some (IJ a b c p q&&vB l):=by unfold BG IJ;rw[NH,NH,NH,IQ hN,bS,BY (λ_=>w8),BY (λ_=>w8),BY (λ_=>w8)];rfl
theorem HA{a b c:Int}{l:List Pt}{p q:Int}:(IJ a b c p q&&vB l)=true↔UP a b c l p q:=by
 unfold IJ;simp only[y8,s7,Ox];constructor
 ·rintro⟨⟨⟨⟨⟨⟨h1,h2⟩,h3⟩,h4⟩,h5⟩,h6⟩,h7⟩;exact⟨h1,h2,h3,⟨h4,h5,h6⟩,h7⟩
 ·rintro⟨h1,h2,h3,⟨h4,h5,h6⟩,h7⟩;exact⟨⟨⟨⟨⟨⟨h1,h2⟩,h3⟩,h4⟩,h5⟩,h6⟩,h7⟩
theorem NI{N:Nat}(hN:100<=N){a b c:Int}{l:List Pt}{p q:Int}(h:UP a b c l p q):BG N a b c l p q=some true:=by rw[KE hN,HA.2 h]
theorem U0{N:Nat}(hN:100<=N){a b c:Int}{l:List Pt}{p q:Int}(h:UP a b c l p q):G0 N a b c l p q=some (q-p):=by have:=h.d;unfold G0;rw[NI hN h,bS,BL _ (by rfl),Ab (by unfold Ai;omega)]
def JL(c:Int):Int:=(GT 0).getD (c.toNat*5) 0
theorem U1{c:Int}(h:0<=c/\c<=7):1<=JL c/\JL c<=10:=by
 unfold JL;have:∀n,n<8->1<=(GT 0).getD (n*5) 0/\(GT 0).getD (n*5) 0<=10:=by decide
 exact this c.toNat (by omega)
theorem Rp(N:Nat){a b c:Int}{l:List Pt}{p q:Int}(h:0<=c/\c<=7):FX N a b c l p q=some (JL c):=by unfold FX Jp;rw[NH,bS,BL _ (by simp;omega),Ab (by omega),bS];rfl
theorem GF{x y A B:Int}(hx: -A<=x/\x<=A)(hy:0<=y/\y<=B)(hA:0<=A): -(A*B)<=x*y/\x*y<=A*B:=by have h1:0<=(A-x)*y:=z8 (by omega) hy.1;have h2:0<=(A+x)*y:=z8 (by omega) hy.1;have h3:0<=A*(B-y):=z8 hA (by omega);rw[Int.sub_mul]at h1;rw[Int.add_mul]at h2;rw[Int.mul_sub]at h3;omega
theorem aK{N:Nat}(hN:100<=N){a b c:Int}{l:List Pt}{p q:Int}(h:UP a b c l p q):FW N a b c l p q=some (E8 l*(q-p)):=by have hd:=h.d;have h1:=GF (OA h.l) (y:=q-p) (B:=8) (by omega) (by omega);unfold FW;rw[nS hN h.l,bS,U0 hN h,bS,Ab (by unfold Ai;omega)]
theorem OP{N:Nat}(hN:100<=N){a b c:Int}{l:List Pt}{p q:Int}(h:UP a b c l p q):A9 N a b c l p q=some ((3*(E8 l*(q-p)))*JL c):=by have hd:=h.d;have h1:=GF (OA h.l) (y:=q-p) (B:=8) (by omega) (by omega);have h3:=U1 h.c;have h2:=GF (x:=3*(E8 l*(q-p))) (A:=400000000) (y:=JL c) (B:=10) (by omega) (by omega) (by omega);unfold A9;rw[aK hN h,bS,Ab (by unfold Ai;omega),Rp N h.c,bS,Ab (by unfold Ai;omega)]
theorem OQ{N:Nat}(hN:100<=N){a b c:Int}{l:List Pt}{p q:Int}(h:UP a b c l p q):CV N a b c l p q=some ((IR l*(q-p))*JL c):=by have hd:=h.d;have h1:=GF (XJ h.l).1 (y:=q-p) (B:=8) (by omega) (by omega);have h3:=U1 h.c;have h2:=GF (x:=IR l*(q-p)) (A:=170000000000) (y:=JL c) (B:=10) (by omega) (by omega) (by omega);unfold CV;rw[wL hN h.l,bS];simp only;rw[U0 hN h,bS,Ab (by unfold Ai;omega),Rp N h.c,bS,Ab (by unfold Ai;omega)]
def NC(x y:Int):Int:=if x<y then-1 else if y<x then 1 else 0
def EE(p q:Pt):Int:=if NC p.1 q.1≠0 then NC p.1 q.1 else NC p.2 q.2
theorem JX{N:Nat}(hN:100<=N)(p q:Pt):Dh N p.1 p.2 q.1 q.2=some (EE p q):=by
 unfold Dh;rw[Lf,bS,Lf,bS];unfold Jo;obtain⟨n,rfl⟩:∃n,N=n+1+1+1:=⟨N-3,by omega⟩
 have c1:(if p.1<q.1 then-1 else if q.1<p.1 then 1 else 0:Int)=NC p.1 q.1:=rfl;have c2:(if p.2<q.2 then-1 else if q.2<p.2 then 1 else 0:Int)=NC p.2 q.2:=rfl;rw[c1,c2];unfold EE;generalize NC p.1 q.1=a;generalize NC p.2 q.2=b;rw[EU,Ca _ (by rfl),show Bz [a,b] 0=some a from rfl,bS];by_cases h:a=0
 ·subst h;rw[BL _ (by decide),Ab (by decide),t7 (by simp),EU,Ca _ (by rfl),show Bz [(0:Int),b] (0+1)=some b from rfl,bS];by_cases h2:b=0
  ·subst h2;rw[BL _ (by decide),Ab (by decide),EU,BL _ (by decide),bS];simp only;rw[bS]
  ·rw[Ca _ (q9 h2),bS];simp only;rw[bS]
 ·rw[Ca _ (q9 h),t8 h,bS];simp only;rw[bS]
theorem Kz{p q:Pt}:EE p q<0↔p.1<q.1\/(p.1=q.1/\p.2<q.2):=by
 unfold EE NC
 repeat' split
 all_goals omega
theorem MN{p q:Pt}:0<EE p q↔q.1<p.1\/(q.1=p.1/\q.2<p.2):=by
 unfold EE NC
 repeat' split
 all_goals omega
theorem jN{p q:Pt}:EE p q=0↔p=q:=by
 constructor
 ·intro h;have h1:¬(EE p q<0):=by omega
  have h2:¬(0<EE p q):=by omega
  rw[Kz]at h1;rw[MN]at h2;exact Prod.ext (by omega) (by omega)
 ·intro h;subst h;have h1:¬(EE p p<0):=by rw[Kz];omega
  have h2:¬(0<EE p p):=by rw[MN];omega
  omega
def OB(u v:Pt):Pt:=if 0<EE v u then v else u
def OC(u v:Pt):Pt:=if EE v u<0 then v else u
theorem wM{N:Nat}(hN:100<=N)(u v:Pt)(n:Nat):AG N [(u.1,u.2),(v.1,v.2)] (n+1+1) 1 u.1 u.2=some ((OB u v).1,(OB u v).2):=by
 rw[AG,Ca _ (by rfl),show Bz [(u.1,u.2),(v.1,v.2)] 1=some (v.1,v.2)from rfl,bS];simp only;rw[JX hN,bS];unfold OB;by_cases h:0<EE v u
 ·rw[Ca _ (q9 h),Ab (by decide),t8 h,AG,BL _ (by rfl)]
 ·rw[BL _ (s6 h),Ab (by decide),t7 h,AG,BL _ (by rfl)]
theorem Q5{N:Nat}(hN:100<=N)(u v:Pt):A4 N [(u.1,u.2),(v.1,v.2)]=some ((OB u v).1,(OB u v).2):=by
 unfold A4;have h:=λn=>wM hN u v n
 obtain⟨n,e⟩:∃n,N=n+1+1:=⟨N-2,by omega⟩
 have h':=h n;rw[<-e]at h';rw[Ab (by rfl),show Bz [(u.1,u.2),(v.1,v.2)] 0=some (u.1,u.2)from rfl,bS];simp only;rw[h',bS]
theorem wN{N:Nat}(hN:100<=N)(u v:Pt)(n:Nat):AH N [(u.1,u.2),(v.1,v.2)] (n+1+1) 1 u.1 u.2=some ((OC u v).1,(OC u v).2):=by
 rw[AH,Ca _ (by rfl),show Bz [(u.1,u.2),(v.1,v.2)] 1=some (v.1,v.2)from rfl,bS];simp only;rw[JX hN,bS];unfold OC;by_cases h:EE v u<0
 ·rw[Ca _ (q9 h),Ab (by decide),t8 h,AH,BL _ (by rfl)]
 ·rw[BL _ (s6 h),Ab (by decide),t7 h,AH,BL _ (by rfl)]
theorem Q6{N:Nat}(hN:100<=N)(u v:Pt):A5 N [(u.1,u.2),(v.1,v.2)]=some ((OC u v).1,(OC u v).2):=by
 unfold A5;have h:=λn=>wN hN u v n
 obtain⟨n,e⟩:∃n,N=n+1+1:=⟨N-2,by omega⟩
 have h':=h n;rw[<-e]at h';rw[Ab (by rfl),show Bz [(u.1,u.2),(v.1,v.2)] 0=some (u.1,u.2)from rfl,bS];simp only;rw[h',bS]
def lo(p q:Pt):Pt:=if EE q p<0 then q else p
def hi(p q:Pt):Pt:=if EE q p<0 then p else q
def F9(p q r s:Pt):Pt×Pt:=(OB (lo p q) (lo r s),OC (hi p q) (hi r s))
theorem ZE{N:Nat}(hN:100<=N)(p q r s:Pt):GZ N p.1 p.2 q.1 q.2 r.1 r.2 s.1 s.2=some (F9 p q r s):=by
 unfold GZ F9 lo hi;rw[bS,JX hN,bS,JX hN];by_cases h1:EE q p<0
 ·rw[Ca _ (q9 h1),t8 h1,t8 h1,bS];by_cases h2:EE s r<0
  ·rw[Ca _ (q9 h2),t8 h2,t8 h2,Q5 hN,bS];simp only;rw[Q6 hN,bS,Ab (by decide),Ab (by decide),Ab (by decide),Ab (by decide)]
  ·rw[BL _ (s6 h2),t7 h2,t7 h2,Q5 hN,bS];simp only;rw[Q6 hN,bS,Ab (by decide),Ab (by decide),Ab (by decide),Ab (by decide)]
 ·rw[BL _ (s6 h1),t7 h1,t7 h1,bS];by_cases h2:EE s r<0
  ·rw[Ca _ (q9 h2),t8 h2,t8 h2,Q5 hN,bS];simp only;rw[Q6 hN,bS,Ab (by decide),Ab (by decide),Ab (by decide),Ab (by decide)]
  ·rw[BL _ (s6 h2),t7 h2,t7 h2,Q5 hN,bS];simp only;rw[Q6 hN,bS,Ab (by decide),Ab (by decide),Ab (by decide),Ab (by decide)]
def H1(e f:Pt×Pt):Option (Pt×Pt):=if Aw e.1 e.2 f.1≠0\/Aw e.1 e.2 f.2≠0 then none else if(F9 e.1 e.2 f.1 f.2).1=(F9 e.1 e.2 f.1 f.2).2\/0<EE (F9 e.1 e.2 f.1 f.2).1 (F9 e.1 e.2 f.1 f.2).2 then none else if 0<EE e.1 e.2 then some ((F9 e.1 e.2 f.1 f.2).2,(F9 e.1 e.2 f.1 f.2).1)else some (F9 e.1 e.2 f.1 f.2)
theorem WB{N:Nat}(hN:100<=N){e:Pt×Pt}(he:CN e.1/\CN e.2):∀(es:List (Pt×Pt)),(∀f∈es,CN f.1/\CN f.2)->D3 N e.1.1 e.1.2 e.2.1 e.2.2 es=some (match es.findSome? (H1 e)with|some s=>.inr (s,true)|none=>.inl ())
 |[],_=>by simp[D3]
 |f::es,h=>by
  have hf:=h f (by simp);have ih:=WB hN he es λx hx=>h x (by simp[hx])
  rw[show f=((f.1.1,f.1.2),(f.2.1,f.2.2))from rfl,D3,Lo he.1 he.2 hf.1,bS,Lo he.1 he.2 hf.2,Ab (λ_=>w8),A00,List.findSome?_cons];rw[show((f.1.1,f.1.2),(f.2.1,f.2.2))=f from rfl,ih];by_cases h1:Aw e.1 e.2 f.1≠0\/Aw e.1 e.2 f.2≠0
  ·rw[Ca _ (by simpa using h1),show H1 e f=none from t8 h1]
  ·rw[BL _ (by rw[A21];simpa using h1),ZE hN,show F9 e.1 e.2 f.1 f.2=(((F9 e.1 e.2 f.1 f.2).1.1,(F9 e.1 e.2 f.1 f.2).1.2),((F9 e.1 e.2 f.1 f.2).2.1,(F9 e.1 e.2 f.1 f.2).2.2))from rfl,bS];simp only;rw[JX hN,Ab (λ_=>w8),A00,ptE];by_cases h2:(F9 e.1 e.2 f.1 f.2).1=(F9 e.1 e.2 f.1 f.2).2\/0<EE (F9 e.1 e.2 f.1 f.2).1 (F9 e.1 e.2 f.1 f.2).2
   ·rw[Ca _ (by simpa using h2),show H1 e f=none by unfold H1;rw[t7 h1,t8 h2]]
   ·rw[BL _ (by rw[A21];simpa using h2),JX hN,bS];by_cases h3:0<EE e.1 e.2
    ·rw[Ca _ (q9 h3),show H1 e f=some ((F9 e.1 e.2 f.1 f.2).2,(F9 e.1 e.2 f.1 f.2).1) by unfold H1;rw[t7 h1,t7 h2,t8 h3]]
    ·rw[BL _ (s6 h3),show H1 e f=some (F9 e.1 e.2 f.1 f.2) by unfold H1;rw[t7 h1,t7 h2,t7 h3]]
def Q7(a b:List Pt):Option (Pt×Pt):=(BA a).findSome? λe=>(BA b).findSome? (H1 e)
theorem WC{N:Nat}(hN:100<=N){b:List Pt}(hb:VP b):∀(es:List (Pt×Pt)),(∀f∈es,CN f.1/\CN f.2)->Ek N b es=some (match es.findSome? (λe=>(BA b).findSome? (H1 e))with|some s=>.inr (s,true)|none=>.inl ())
 |[],_=>by simp[Ek]
 |e::es,h=>by
  have he:=h e (by simp);have b8:=hb.l8;rw[show e=((e.1.1,e.1.2),(e.2.1,e.2.2))from rfl,Ek,Ab (by omega),WB hN he _ (HZ hb.sml),bS,List.findSome?_cons];rw[show((e.1.1,e.1.2),(e.2.1,e.2.2))=e from rfl];cases(BA b).findSome? (H1 e)with
  |some s=>rfl
  |none=>exact WC hN hb es λx hx=>h x (by simp[hx])
open Classical in
noncomputable def Im(a b:List Pt):(Pt×Pt)×Bool:=if apart a b then(match Q7 a b with|some s=>(s,true)|none=>(((0,0),(0,0)),false))else(((0,0),(0,0)),false)
theorem nT{N:Nat}(hN:1001<=N){a b:List Pt}(ha:VP a)(hb:VP b):HT N a b=some (Im a b):=by
 unfold HT Im;have a8:=ha.l8;rw[G2 (by omega) ha,G2 (by omega) hb,bS,Ab (λ_=>w8),Lg hN ha hb,Ab (λ_=>w8),A00,A00];by_cases h:apart a b
 ·rw[MM.2 h,BL _ (by rfl),Ab (by omega),t8 h,WC (by omega) hb _ (HZ ha.sml),bS,show(BA a).findSome? (λe=>(BA b).findSome? (H1 e))=Q7 a b from rfl];cases Q7 a b<;>rfl
 ·have e:(Hg a b).2.2=false:=by rw[A21];intro q;exact h (MM.1 q)
  rw[e,Ca _ (by rfl),t7 h]
theorem AcM{l:List Pt}(hl:0<l.length){i:Nat}(hi:i<l.length)(p:Pt):α l i p=Aw (qa l i) (qa l (i+1)) p:=by rw[wJ hl,A13 hi]
theorem AcN{l:List Pt}(h:VP l)(s t:Nat):0<=Aw (qa l s) (qa l (s+1)) (qa l t):=by
 have l3:=h.l3;have hn:0<l.length:=by omega
 have hs:=wH (n:=l.length) (i:=s%l.length) (k:=t%l.length) hn;have ha:=Oy (A17 s hn) (A17 t hn);rw[A51]at ha;have e:qa l t=qa l (s+CA l.length (s%l.length) (t%l.length)):=by show pa l (t%l.length)=pa l ((s+CA l.length (s%l.length) (t%l.length))%l.length);rw[ha]
 rw[e];generalize CA l.length (s%l.length) (t%l.length)=a at*;by_cases h0:a=0
 ·subst h0;show 0<=Aw (qa l s) (qa l (s+1)) (qa l s);rw[Kx];omega
 by_cases h1:a=1
 ·subst h1;rw[HY];omega
 exact A29 (Iw h.cv (by omega) hs)
def dd(P Q x:Pt):Int:=(Q.1-P.1)*(x.1-P.1)+(Q.2-P.2)*(x.2-P.2)
def S9(p q:Pt):Prop:=p.1<q.1\/(p.1=q.1/\p.2<=q.2)
def btw(P Q x:Pt):Prop:=(S9 P x/\S9 x Q)\/(S9 Q x/\S9 x P)
theorem ZK{P Q:Pt}(h:P≠Q):0<dd P Q Q:=by have:=Pi h;grind[dd,dst]
theorem Q8(P Q u w x:Pt)(hu:Aw P Q u=0)(hw:Aw P Q w=0):Aw u w x*dd P Q Q=Aw P Q x*(dd P Q w-dd P Q u):=by
 have:Aw u w x*dd P Q Q-Aw P Q x*(dd P Q w-dd P Q u)=Aw P Q w*(dd P Q u-dd P Q x)+Aw P Q u*(dd P Q x-dd P Q w):=by unfold Aw dd;grind
 rw[hu,hw]at this;omega
theorem OF{l:List Pt}(h:VP l){j:Nat}(hj:j<l.length){x:Pt}(hx:x∈l):0<=α l j x:=by
 obtain⟨t,ht,rfl⟩:=NA hx;have:=AcN h j t
 rwa [Il ht,wJ (by omega),A13 hj]at this
theorem RN{l:List Pt}(h:VP l){j:Nat}(hj:j<l.length):∃x∈l,0<α l j x:=by
 have l3:=h.l3;obtain⟨k,hk,n1,n2⟩:∃k,k<l.length/\k≠j/\k≠(j+1)%l.length:=by
  by_cases h0:0≠j/\0≠(j+1)%l.length
  ·exact⟨0,by omega,h0.1,h0.2⟩
  by_cases h1:1≠j/\1≠(j+1)%l.length
  ·exact⟨1,by omega,h1.1,h1.2⟩
  exact⟨2,by omega,by omega,by omega⟩
 exact⟨_,B4 hk,h.cv j k hj hk n1 n2⟩
section
variable{a b:List Pt}
structure SeamOK(a b:List Pt)(s:Pt×Pt):Prop where
 ne:s.1≠s.2
 on:∀p,(clo a p/\¬inn a p)/\(clo b p/\¬inn b p)↔Aw s.1 s.2 p=0/\btw s.1 s.2 p
 left:∀x∈a,0<=Aw s.1 s.2 x
end
