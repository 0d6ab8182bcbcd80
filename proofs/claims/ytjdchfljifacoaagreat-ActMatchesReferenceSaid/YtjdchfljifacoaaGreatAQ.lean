import Derived.Test.YtjdchfljifacoaaGreatH1
set_option linter.all false
set_option maxRecDepth 100000
set_option maxHeartbeats 8000000
namespace Go.Proofs.YtjdchfljifacoaaGreat.Am
open Go
section
attribute [local irreducible] Ax BO BB Bj BC Bk AY BD BK Cq
def AH(N:Nat)(d9:Int)(b7:Int)(br:Int):Option Bool:=some ((decide (b7<=d9))&&(decide (d9<=br)))
@[go_sem] def s73(N:Nat):Spec:=p0<|(Aoi<|Aoi<|Aoi<|Aof<|Aog false .b) (AH N)
theorem ZH(N:Nat):AG Tryz.prog 73 (s73 N):=by refine fk (Aoq x73 (Aj)) ?_;intro d9 b7 br r h _ hS F;dsimp only[x73,Ah];unfold AH at h;exact Ai hS F h
def FF(N:Nat)(i6:Int)(bq:Int)(bz:Int)(ee:Int)(lh:Bool):Option Bool:=(AH N i6 0 99).bind λbn=>gd (bn=true->((AH N bq 0 99).isSome=true))<|gd ((bn&&((AH N bq 0 99).getD false))=true->((AH N bz (-2) 7).isSome=true))<|gd (((bn&&((AH N bq 0 99).getD false))&&((AH N bz (-2) 7).getD false))=true->((AH N ee 1 5).isSome=true))<|some (((bn&&((AH N bq 0 99).getD false))&&((AH N bz (-2) 7).getD false))&&((AH N ee 1 5).getD false))
@[go_sem] def s61(N:Nat):Spec:=p0<|(Aoh<|Aoi<|Aoi<|Aoi<|Aoi<|Aod<|Aof<|Aof<|Aog false .b) (FF N)
theorem nY(N:Nat):AG Tryz.prog 61 (s61 N):=by refine fk (Aoq x61 (Ab (ZH N)<|Aj)) ?_;intro i6 bq bz ee lh r h _ hS F;dsimp only[x61,Ah];unfold FF at h;obtain⟨bn,jo,jh,lm,j4,h⟩:=un h;exact Ai hS (fc jo F) h
def Eg(N:Nat)(s2673:List (Int×Int×Int×(List (Int×Int))×Int×Int))(ay:Int)(av:Int):Nat->Bool->Int->Option Bool|0,_,_=>none|n+1,ah,bi=>bif decide (bi<(s2673.length:Int))then((A7 s2673 bi).bind λ(da,kf,ke,x2734,ka,j9)=>gd (Af (bi+1))<|Eg N s2673 ay av n (ah||((decide (da=ay))&&(decide (av<(x2734.length:Int))))) (bi+1))else(some ah)
def C3(N:Nat)(s2674:List (Int×Int×Int×Int×Bool))(s2673:List (Int×Int×Int×(List (Int×Int))×Int×Int)):Nat->Int->Option (Sum Unit Bool)|0,_=>none|n+1,ae=>bif decide (ae<(s2674.length:Int))then((A7 s2674 ae).bind λ(bv,ay,av,de,db)=>(FF N bv ay av de db).bind λiz=>gd ((decide (0<ae))=true->(Af (ae-1)))<|gd ((decide (0<ae))=true->(0<=ae-1/\ae-1<(s2674.length:Int)))<|bif (!iz)||((decide (0<ae))&&(decide (bv<=(s2674.getD (ae-1).toNat (0,0,0,0,false)).1)))then(some (.inr false))else((Eg N s2673 ay av N false 0).bind λbh=>bif !bh then(some (.inr false))else(gd (Af (ae+1))<|C3 N s2674 s2673 n (ae+1))))else(some (.inl ()))
def Bn(N:Nat)(s2673:List (Int×Int×Int×(List (Int×Int))×Int×Int))(s2674:List (Int×Int×Int×Int×Bool)):Option Bool:=(C8 N s2673).bind λi5=>bif (!i5)||(decide (20<(s2674.length:Int)))then(some false)else((C3 N s2674 s2673 N 0).bind λd8=>match d8 with|.inl ()=>(some true)|.inr km=>(some km))
@[go_sem] def s20(N:Nat):Spec:=p0<|(Aoh<|qD Ak<|qD AA<|Aof<|Aof<|Aog false .b) (Bn N)
theorem nZ(N:Nat):AG Tryz.prog 20 (s20 N):=by
 refine fk (Aoq x20 (Ab (ZB N)<|Ab (nY N)<|Aj)) ?_;intro s2673 s2674 r h _ hS F;dsimp only[x20,Ah,AA,Ak];unfold Bn at h;obtain⟨i5,jn,h⟩:=un h;replace F:=fc jn F;refine An hS F h (λ_ h=>?_) (λ_ h=>?_)
 ·exact Ai hS F h
 ·obtain⟨d8,e8,h⟩:=un h;refine go hS F ?_;refine Bz d8 (λz:Nat=>⟨[],[],z⟩) (λz=>(.inl ():Sum Unit Bool)) (.x 0) ?_ ?_
  ·refine Bp (λn (y:Int×Nat)=>C3 N s2674 s2673 n y.1) (λy=>⟨[(1,.box (0,1) 0),(3,.i y.1)],[(.c (0,1) 0,Ap s2673),(.c (0,1) 1,AS s2674)],y.2⟩) (0,3) e8 (Ch F) ?_;rintro n ⟨ae,ba⟩ aa;simp only[C3]at aa;refine An hS F aa (λ_ aa=>?_) (λ_ aa=>?_)
   ·obtain⟨⟨bv,ay,av,de,db⟩,jw,aa⟩:=un aa;obtain⟨md,F⟩:=Cb BZ jw F;obtain⟨iz,jm,j4,jz,aa⟩:=un aa;replace F:=fc jm F;refine An hS F aa (λ_ aa=>?_) (λ_ aa=>?_)
    ·obtain rfl:=yJ aa;exact Ai hS F h
    ·obtain⟨lg,mr,aa⟩:=un aa;refine go hS F ?_;refine Bz lg (λz:Bool×Nat=>⟨[(1,.box (0,1) 0),(3,.i ae),(5,.b z.1)],[(.c (0,1) 0,Ap s2673),(.c (0,1) 1,AS s2674)],z.2⟩) (λz=>(z.1:Bool)) (.x 2) ?_ ?_
     ·refine Bp (λn (y:Bool×Int×Nat)=>Eg N s2673 ay av n y.1 y.2.1) (λy=>⟨[(1,.box (0,1) 0),(3,.i ae),(4,.box (605,ba+1+1) 0),(5,.b y.1),(6,.i y.2.1)],[(.c (605,ba+1+1) 0,.i bv),(.c (605,ba+1+1) 1,.i ay),(.c (605,ba+1+1) 2,.i av),(.c (605,ba+1+1) 3,.i de),(.c (605,ba+1+1) 4,.b db),(.c (0,1) 0,Ap s2673),(.c (0,1) 1,AS s2674)],y.2.2⟩) (false,0,ba+1+1+1+1+1) mr (Ch F) ?_;rintro n ⟨ah,bi,je⟩ ez;simp only[Eg]at ez;refine An hS F ez (λ_ ez=>?_) (λ_ ez=>?_)
      ·obtain⟨⟨da,kf,ke,x2734,ka,j9⟩,jv,ez⟩:=un ez;obtain⟨mc,F⟩:=Cb Au jv F;obtain⟨mu,ez⟩:=un ez;exact Cd hS F (n,ah||((decide (da=ay))&&(decide (av<(x2734.length:Int)))),bi+1,je+1+1+1+1) ez
      ·exact B4 hS F (ah,je+1) ez
     ·rintro⟨bh,lj⟩ rfl;refine An hS F aa (λ_ aa=>?_) (λ_ aa=>?_)
      ·obtain rfl:=yJ aa;exact Ai hS F h
      ·obtain⟨mq,aa⟩:=un aa;exact Cd hS F (n,ae+1,lj+1+1) aa
   ·exact B4 hS F (ba+1) aa
  ·rintro mo rfl;exact Ai hS F h
def Do(N:Nat)(kg:Int)(ii:Int)(ig:Int)(u2752:List (Int×Int))(ic:Int)(ib:Int):Option Bool:=some (((((decide (ii=0))&&(decide (ig=0)))&&(decide ((u2752.length:Int)=0)))&&(decide (ic=0)))&&(decide (ib=0)))
@[go_sem] def s71(N:Nat):Spec:=p0<|(Aoh<|Aoi<|Aoi<|Aoi<|Aon Aq<|Aoi<|Aoi<|Aof<|Aof<|Aog false .b) (Do N)
theorem Acg(N:Nat):AG Tryz.prog 71 (s71 N):=by refine fk (Aoq x71 (Aj)) ?_;intro kg ii ig u2752 ic ib r h _ hS F;dsimp only[x71,Ah,Aq];unfold Do at h;exact Ai hS F h
def C6(N:Nat)(l2755:List (Int×Int×Int×Int×Bool))(an:Int):Nat->Int->(List (Int×Int×Int×Int×Bool))->Option ((List (Int×Int×Int×Int×Bool)))|0,_,_=>none|n+1,az,l2774=>bif decide (az<(l2755.length:Int))then((A7 l2755 az).bind λ(cz,bu,cy,cu,cr)=>bif decide (bu≠an)then(gd ((l2774.length+1)*40<=140737488355328)<|gd (Af (az+1))<|C6 N l2755 an n (az+1) (l2774++[(cz,bu,cy,cu,cr)]))else(gd (Af (az+1))<|C6 N l2755 an n (az+1) l2774))else(some l2774)
def DQ(N:Nat)(l2755:List (Int×Int×Int×Int×Bool))(an:Int):Option (List (Int×Int×Int×Int×Bool)):=(C6 N l2755 an N 0 []).bind λi9=>some i9
@[go_sem] def s66(N:Nat):Spec:=p0<|(Aon AA<|Aoi<|Aof<|Aog [] AS) (DQ N)
theorem oA(N:Nat):AG Tryz.prog 66 (s66 N):=by
 refine fk (Aoq x66 (Aj)) ?_;intro l2755 an r h _ hS F;dsimp only[x66,Ah,AA];unfold DQ at h;refine go hS F ?_;refine DT 1000001 5 5 [.i 0,.i 0,.i 0,.i 0,.b false] (by show(5:Nat)<28;omega) (by omega) (ev F) ?_;obtain⟨lf,e8,h⟩:=un h;refine go hS F ?_;refine Bz lf (λz:(List (Int×Int×Int×Int×Bool))×Nat=>⟨[(5,.own (1000001,4) z.1.length)],[(.a (1000001,4),EH z.1)],z.2⟩) (λz=>(z.1:(List (Int×Int×Int×Int×Bool)))) (.x 0) ?_ ?_
 ·refine Bp (λn (y:Int×(List (Int×Int×Int×Int×Bool))×Nat)=>C6 N l2755 an n y.1 y.2.1) (λy=>⟨[(0,AS l2755),(1,.i an),(5,.own (1000001,4) y.2.1.length),(6,.i y.1)],[(.a (1000001,4),EH y.2.1)],y.2.2⟩) (0,[],4) e8 (Ch F) ?_;rintro n ⟨az,l2774,ei⟩ aa;simp only[C6]at aa;refine An hS F aa (λ_ aa=>?_) (λ_ aa=>?_)
  ·obtain⟨⟨cz,bu,cy,cu,cr⟩,ju,aa⟩:=un aa;obtain⟨mb,F⟩:=Cb BZ ju F;refine An hS F aa (λ_ aa=>?_) (λ_ aa=>?_)
   ·obtain⟨j4,jz,aa⟩:=un aa;exact Cd hS F (n,az+1,l2774++[(cz,bu,cy,cu,cr)],ei+1+1+1+1) aa
   ·obtain⟨me,aa⟩:=un aa;exact Cd hS F (n,az+1,l2774,ei+1+1+1) aa
  ·exact B4 hS F (l2774,ei+1) aa
 ·rintro⟨i9,mn⟩ rfl;exact Ai hS F h
def Dx(N:Nat)(l2787:List (Int×Int×Int×Int×Bool))(af:Int)(am:Int)(ak:Int)(aj:Int)(ai:Bool):Nat->Bool->Int->(List (Int×Int×Int×Int×Bool))->Option (Sum (Bool×(List (Int×Int×Int×Int×Bool))) (((List (Int×Int×Int×Int×Bool))×Bool)))|0,_,_,_=>none|n+1,aq,bg,l2815=>bif decide (bg<(l2787.length:Int))then((A7 l2787 bg).bind λ(bm,cq,co,cn,cj)=>bif decide (bm=af)then(some (.inr ([],false)))else((bif (!aq)&&(decide (af<bm))then(gd ((l2815.length+1)*40<=140737488355328)<|some (true,l2815++[(af,am,ak,aj,ai)]))else(some (aq,l2815)):Option (Bool×(List (Int×Int×Int×Int×Bool)))).bind λ(bj,l2824)=>gd ((l2824.length+1)*40<=140737488355328)<|gd (Af (bg+1))<|Dx N l2787 af am ak aj ai n bj (bg+1) (l2824++[(bm,cq,co,cn,cj)])))else(some (.inl (aq,l2815)))
def E9(N:Nat)(l2787:List (Int×Int×Int×Int×Bool))(af:Int)(am:Int)(ak:Int)(aj:Int)(ai:Bool):Option ((List (Int×Int×Int×Int×Bool))×Bool):=(Dx N l2787 af am ak aj ai N false 0 []).bind λd7=>match d7 with|.inl (bw,l2832)=>((bif !bw then(gd ((l2832.length+1)*40<=140737488355328)<|some (l2832++[(af,am,ak,aj,ai)]))else(some l2832):Option ((List (Int×Int×Int×Int×Bool)))).bind λi8=>some (i8,true))|.inr kl=>(some kl)
@[go_sem] def s52(N:Nat):Spec:=p0<|(Aon AA<|Aoh<|Aoi<|Aoi<|Aoi<|Aoi<|Aod<|Aof<|Aof<|Aog ([],false) λr=>.tup [AS r.1,.b r.2]) (E9 N)
theorem oB(N:Nat):AG Tryz.prog 52 (s52 N):=by
 refine fk (Aoq x52 (Aj)) ?_;intro l2787 af am ak aj ai r h _ hS F;dsimp only[x52,Ah,AA];unfold E9 at h;refine go hS F ?_;refine DT 1000001 6 5 [.i 0,.i 0,.i 0,.i 0,.b false] (by show(6:Nat)<53;omega) (by omega) (ev F) ?_;obtain⟨d7,e8,h⟩:=un h;refine go hS F ?_;refine Bz d7 (λz:Bool×(List (Int×Int×Int×Int×Bool))×Nat=>⟨[(3,.box (0,1) 0),(6,.own (1000001,5) z.2.1.length),(7,.b z.1)],[(.a (1000001,5),EH z.2.1),(.c (0,1) 0,.i af),(.c (0,1) 1,.i am),(.c (0,1) 2,.i ak),(.c (0,1) 3,.i aj),(.c (0,1) 4,.b ai)],z.2.2⟩) (λz=>(.inl (z.1,z.2.1):Sum (Bool×(List (Int×Int×Int×Int×Bool))) (((List (Int×Int×Int×Int×Bool))×Bool)))) (.x 0) ?_ ?_
 ·refine Bp (λn (y:Bool×Int×(List (Int×Int×Int×Int×Bool))×Nat)=>Dx N l2787 af am ak aj ai n y.1 y.2.1 y.2.2.1) (λy=>⟨[(0,AS l2787),(3,.box (0,1) 0),(6,.own (1000001,5) y.2.2.1.length),(7,.b y.1),(8,.i y.2.1)],[(.a (1000001,5),EH y.2.2.1),(.c (0,1) 0,.i af),(.c (0,1) 1,.i am),(.c (0,1) 2,.i ak),(.c (0,1) 3,.i aj),(.c (0,1) 4,.b ai)],y.2.2.2⟩) (false,0,[],5) e8 (Ch F) ?_;rintro n ⟨aq,bg,l2815,eh⟩ aa;simp only[Dx]at aa;refine An hS F aa (λ_ aa=>?_) (λ_ aa=>?_)
  ·obtain⟨⟨bm,cq,co,cn,cj⟩,jt,aa⟩:=un aa;obtain⟨ma,F⟩:=Cb BZ jt F;refine An hS F aa (λ_ aa=>?_) (λ_ aa=>?_)
   ·obtain rfl:=yJ aa;exact Ai hS F h
   ·obtain⟨kz,jy,aa⟩:=un aa;refine go hS F ?_;refine Bz kz (λz:Bool×(List (Int×Int×Int×Int×Bool))×Nat=>⟨[(0,AS l2787),(3,.box (0,1) 0),(6,.own (1000001,5) z.2.1.length),(7,.b z.1),(8,.i bg)],[(.a (1000001,5),EH z.2.1),(.c (0,1) 0,.i af),(.c (0,1) 1,.i am),(.c (0,1) 2,.i ak),(.c (0,1) 3,.i aj),(.c (0,1) 4,.b ai)],z.2.2⟩) (λz=>((z.1,z.2.1):Bool×(List (Int×Int×Int×Int×Bool)))) .n ?_ ?_
    ·refine An hS F jy (λ_ jy=>?_) (λ_ jy=>?_)
     ·obtain⟨jz,jy⟩:=un jy;exact B4 hS F (true,l2815++[(af,am,ak,aj,ai)],eh+1+1+1+1+1) jy
     ·exact B4 hS F (aq,l2815,eh+1+1+1) jy
    ·rintro⟨bj,l2824,li⟩ rfl;obtain⟨me,my,aa⟩:=un aa;exact Cd hS F (n,bj,bg+1,l2824++[(bm,cq,co,cn,cj)],li+1+1) aa
  ·exact B4 hS F (aq,l2815,eh+1) aa
 ·rintro⟨bw,l2832,jd⟩ rfl;obtain⟨kv,jx,h⟩:=un h;refine go hS F ?_;refine Bz kv (λz:(List (Int×Int×Int×Int×Bool))×Nat=>⟨[(6,.own (1000001,5) z.1.length)],[(.a (1000001,5),EH z.1)],z.2⟩) (λz=>(z.1:(List (Int×Int×Int×Int×Bool)))) .n ?_ ?_
  ·refine An hS F jx (λ_ jx=>?_) (λ_ jx=>?_)
   ·obtain⟨mq,jx⟩:=un jx;exact B4 hS F (l2832++[(af,am,ak,aj,ai)],jd+1+1) jx
   ·exact B4 hS F (l2832,jd+1) jx
  ·rintro⟨i8,mj⟩ rfl;exact Ai hS F h
def CQ(N:Nat)(l2838:List (Int×Int×Int×Int×Bool))(au:Int)(ab:Bool):Nat->Int->Option (Sum Unit (((List (Int×Int×Int×Int×Bool))×Bool)))|0,_=>none|n+1,i2849=>bif decide (i2849<(l2838.length:Int))then((A7 l2838 i2849).bind λ(ci,gw,gv,gu,gt)=>bif decide (ci=au)then(some (.inr (l2838.set i2849.toNat (ci,gw,gv,gu,ab),(gt !=ab))))else(gd (Af (i2849+1))<|CQ N l2838 au ab n (i2849+1)))else(some (.inl ()))
def ET(N:Nat)(l2838:List (Int×Int×Int×Int×Bool))(au:Int)(ab:Bool):Option ((List (Int×Int×Int×Int×Bool))×Bool):=gd ((l2838.length)*40<=140737488355328)<|(CQ N l2838 au ab N 0).bind λdz=>match dz with|.inl ()=>(some ([],false))|.inr kj=>(some kj)
@[go_sem] def s62(N:Nat):Spec:=p0<|(Aon AA<|Aoi<|Aod<|Aof<|Aog ([],false) λr=>.tup [AS r.1,.b r.2]) (ET N)
theorem Ach(N:Nat):AG Tryz.prog 62 (s62 N):=by
 refine fk (Aoq x62 (Aj)) ?_;intro l2838 au ab r h _ hS F;dsimp only[x62,Ah,AA];unfold ET at h;obtain⟨jh,h⟩:=un h;obtain⟨dz,mt,h⟩:=un h;refine go hS F ?_;refine Bz dz (λz:Nat=>⟨[],[],z⟩) (λz=>(.inl ():Sum Unit (((List (Int×Int×Int×Int×Bool))×Bool)))) (.x 0) ?_ ?_
 ·refine Bp (λn (y:Int×Nat)=>CQ N l2838 au ab n y.1) (λy=>⟨[(1,.i au),(2,.b ab),(8,.own (100,2) l2838.length),(9,.i y.1)],[(.a (100,2),EH l2838)],y.2⟩) (0,3) mt (Ch F) ?_;rintro n ⟨i2849,jc⟩ ce;simp only[CQ]at ce;refine An hS F ce (λ_ ce=>?_) (λ_ ce=>?_)
  ·obtain⟨⟨ci,gw,gv,gu,gt⟩,js,ce⟩:=un ce;obtain⟨l7,F⟩:=Cb BZ js F;refine An hS F ce (λ_ ce=>?_) (λ_ ce=>?_)
   ·obtain rfl:=yJ ce;exact Ai hS F h
   ·obtain⟨jz,ce⟩:=un ce;exact Cd hS F (n,i2849+1,jc+1+1+1) ce
  ·exact B4 hS F (jc+1) ce
 ·rintro mh rfl;exact Ai hS F h
def AN(N:Nat)(c2861:Int)(bp:Int):Option Int:=bif decide (c2861<0)then(gd (Af (c2861+1))<|gd (Af (-(c2861+1)))<|gd (bp≠0)<|some ((-(c2861+1)).tmod bp))else(gd (bp≠0)<|some (c2861.tmod bp))
@[go_sem] def s51(N:Nat):Spec:=p0<|(Aoi<|Aoi<|Aof<|Aog 0 .i) (AN N)
theorem U0(N:Nat):AG Tryz.prog 51 (s51 N):=by
 refine fk (Aoq x51 (Aj)) ?_;intro c2861 bp r h _ hS F;dsimp only[x51,Ah];unfold AN at h;refine An hS F h (λ_ h=>?_) (λ_ h=>?_)
 ·obtain⟨jh,lm,j4,h⟩:=un h;exact Ai hS F h
 ·obtain⟨jz,h⟩:=un h;exact Ai hS F h
def B9(N:Nat)(a2863:List (Int×Int×Int×Int×Bool))(b2864:List (Int×Int×Int×Int×Bool)):Nat->Int->Option (Sum Unit Bool)|0,_=>none|n+1,bf=>bif decide (bf<(a2863.length:Int))then((A7 a2863 bf).bind λ(gr,gm,gj,gi,gh)=>(A7 b2864 bf).bind λ(gg,ge,gc,fx,fr)=>bif !(decide (gr=gg)&&(decide (gm=ge)&&(decide (gj=gc)&&(decide (gi=fx)&&(gh==fr)))))then(some (.inr false))else(gd (Af (bf+1))<|B9 N a2863 b2864 n (bf+1)))else(some (.inl ()))
def D4(N:Nat)(a2863:List (Int×Int×Int×Int×Bool))(b2864:List (Int×Int×Int×Int×Bool)):Option Bool:=bif decide ((a2863.length:Int)≠(b2864.length:Int))then(some false)else((B9 N a2863 b2864 N 0).bind λdw=>match dw with|.inl ()=>(some true)|.inr ki=>(some ki))
@[go_sem] def s47(N:Nat):Spec:=p0<|(Aon AA<|Aon AA<|Aof<|Aog false .b) (D4 N)
theorem Aci(N:Nat):AG Tryz.prog 47 (s47 N):=by
 refine fk (Aoq x47 (Aj)) ?_;intro a2863 b2864 r h _ hS F;dsimp only[x47,Ah,AA];unfold D4 at h;refine An hS F h (λ_ h=>?_) (λ_ h=>?_)
 ·exact Ai hS F h
 ·obtain⟨dw,e8,h⟩:=un h;refine go hS F ?_;refine Bz dw (λz:Nat=>⟨[],[],z⟩) (λz=>(.inl ():Sum Unit Bool)) (.x 0) ?_ ?_
  ·refine Bp (λn (y:Int×Nat)=>B9 N a2863 b2864 n y.1) (λy=>⟨[(0,AS a2863),(1,AS b2864),(5,.i y.1)],[],y.2⟩) (0,3) e8 (Ch F) ?_;rintro n ⟨bf,jb⟩ aa;simp only[B9]at aa;refine An hS F aa (λ_ aa=>?_) (λ_ aa=>?_)
   ·obtain⟨⟨gr,gm,gj,gi,gh⟩,jr,aa⟩:=un aa;obtain⟨lz,F⟩:=Cb BZ jr F;obtain⟨⟨gg,ge,gc,fx,fr⟩,jq,aa⟩:=un aa;obtain⟨lr,F⟩:=Cb BZ jq F;refine An hS F aa (λ_ aa=>?_) (λ_ aa=>?_)
    ·obtain rfl:=yJ aa;exact Ai hS F h
    ·obtain⟨j4,aa⟩:=un aa;exact Cd hS F (n,bf+1,jb+1+1+1) aa
   ·exact B4 hS F (jb+1) aa
  ·rintro mg rfl;exact Ai hS F h
def CG(N:Nat)(jg:List (Int×Int×Int×(List (Int×Int))×Int×Int))(ep:List (Int×Int×Int×Int×Bool))(jf:List (Int×Int×Int×(List (Int×Int))×Int×Int))(ej:List (Int×Int×Int×Int×Bool)):Option Bool:=(Gy N jg jf).bind λdu=>gd (du=true->((D4 N ep ej).isSome=true))<|some (du&&((D4 N ep ej).getD false))
@[go_sem] def s21(N:Nat):Spec:=p0<|(Aoh<|qD Ak<|qD AA<|Aof<|Aoh<|qD Ak<|qD AA<|Aof<|Aof<|Aog false .b) (CG N)
theorem oC(N:Nat):AG Tryz.prog 21 (s21 N):=by refine fk (Aoq x21 (Ab (Ab8 N)<|Ab (Aci N)<|Aj)) ?_;intro jg ep jf ej r h _ hS F;dsimp only[x21,Ah,AA,Ak];unfold CG at h;obtain⟨du,jl,jh,h⟩:=un h;exact Ai hS (fc jl F) h
def CH(N:Nat)(ij:List (Int×Int×Int×(List (Int×Int))×Int×Int))(s2904:List (Int×Int×Int×Int×Bool)):Option ((List (Int×Int×Int×(List (Int×Int))×Int×Int))×(List (Int×Int×Int×Int×Bool))):=(HZ N ij).bind λiy=>gd ((s2904.length)*40<=140737488355328)<|some (iy,s2904)
@[go_sem] def s54(N:Nat):Spec:=p0<|(Aoh<|qD Ak<|qD AA<|Aof<|Aof<|Aog ([],[]) λr=>.agg [Ap r.1,AS r.2]) (CH N)
theorem oD(N:Nat):AG Tryz.prog 54 (s54 N):=by refine fk (Aoq x54 (Ab (Ab7 N)<|Aj)) ?_;intro ij s2904 r h _ hS F;dsimp only[x54,Ah,AA,Ak];unfold CH at h;obtain⟨iy,jk,jh,h⟩:=un h;exact Ai hS (fc jk F) h
def Gz(N:Nat)(c2907:Int)(bo:Int):Option Int:=bif decide (c2907<0)then(gd (Af (c2907+1))<|gd (Af (-(c2907+1)))<|gd (bo≠0)<|some ((-(c2907+1)).tmod bo))else(gd (bo≠0)<|some (c2907.tmod bo))
@[go_sem] def s34(N:Nat):Spec:=p0<|(Aoi<|Aoi<|Aof<|Aog 0 .i) (Gz N)
theorem Acj(N:Nat):AG Tryz.prog 34 (s34 N):=by
 refine fk (Aoq x34 (Aj)) ?_;intro c2907 bo r h _ hS F;dsimp only[x34,Ah];unfold Gz at h;refine An hS F h (λ_ h=>?_) (λ_ h=>?_)
 ·obtain⟨jh,lm,j4,h⟩:=un h;exact Ai hS F h
 ·obtain⟨jz,h⟩:=un h;exact Ai hS F h
def GH(N:Nat)(l2923:List (Int×Int×Int×Int×Bool))(bl:Int):Nat->Int->Option (Sum Unit (((Int×Int×Int×Int×Bool)×Bool)))|0,_=>none|n+1,b9=>bif decide (b9<(l2923.length:Int))then((A7 l2923 b9).bind λ(fq,j8,j7,j6,j5)=>bif decide (fq=bl)then(some (.inr ((fq,j8,j7,j6,j5),true)))else(gd (Af (b9+1))<|GH N l2923 bl n (b9+1)))else(some (.inl ()))
def Mf(N:Nat)(l2923:List (Int×Int×Int×Int×Bool))(bl:Int):Option ((Int×Int×Int×Int×Bool)×Bool):=(GH N l2923 bl N 0).bind λkr=>match kr with|.inl ()=>(some ((0,0,0,0,false),false))|.inr kh=>(some kh)
@[go_sem] def s41(N:Nat):Spec:=p0<|(Aon AA<|Aoi<|Aof<|Aog ((0,0,0,0,false),false) λr=>.tup [.agg [.i r.1.1,.i r.1.2.1,.i r.1.2.2.1,.i r.1.2.2.2.1,.b r.1.2.2.2.2],.b r.2]) (Mf N)
def Jz(N:Nat)(g9:Int)(g8:Int)(gz:Int)(u2948:List (Int×Int))(gy:Int)(gx:Int):Option (Int×Int×Int×(List (Int×Int))×Int×Int):=gd (0<=0/\0<=min (u2948.length:Int) 9/\min (u2948.length:Int) 9<=(u2948.length:Int))<|some (g9,g8,gz,u2948.take ((min (u2948.length:Int) 9).toNat-0),gy,gx)
@[go_sem] def s11(N:Nat):Spec:=p0<|(Aoh<|Aoi<|Aoi<|Aoi<|Aon Aq<|Aoi<|Aoi<|Aof<|Aof<|Aog (0,0,0,[],0,0) λr=>.agg [.i r.1,.i r.2.1,.i r.2.2.1,BP r.2.2.2.1,.i r.2.2.2.2.1,.i r.2.2.2.2.2]) (Jz N)
theorem Ack(N:Nat):AG Tryz.prog 11 (s11 N):=by refine fk (Aoq x11 (Aj)) ?_;intro g9 g8 gz u2948 gy gx r h _ hS F;dsimp only[x11,Ah,Aq];unfold Jz at h;obtain⟨jh,h⟩:=un h;exact Ai hS F h
def HA(N:Nat)(bb:Int):Option (Int×Int×Int×(List (Int×Int))×Int×Int):=gd (Af (bb+4))<|gd (Af (bb+4))<|some (3,2,0,[(bb,0),(bb+4,0),(bb+4,4),(bb,4)],0,2)
@[go_sem] def s49(N:Nat):Spec:=p0<|(Aoi<|Aof<|Aog (0,0,0,[],0,0) λr=>.agg [.i r.1,.i r.2.1,.i r.2.2.1,BP r.2.2.2.1,.i r.2.2.2.2.1,.i r.2.2.2.2.2]) (HA N)
theorem oE(N:Nat):AG Tryz.prog 49 (s49 N):=by refine fk (Aoq x49 (Aj)) ?_;intro bb r h _ hS F;dsimp only[x49,Ah];unfold HA at h;obtain⟨jh,lm,h⟩:=un h;exact Ai hS F h
def Cu(N:Nat)(fp:Int):Option ((List (Int×Int×Int×(List (Int×Int))×Int×Int))×(List (Int×Int×Int×Int×Bool))):=(HA N fp).bind λ(iw,iv,ir,iq,ip,im)=>some ([(iw,iv,ir,iq,ip,im)],[(1,3,(-1),3,true)])
@[go_sem] def s48(N:Nat):Spec:=p0<|(Aoi<|Aof<|Aog ([],[]) λr=>.agg [Ap r.1,AS r.2]) (Cu N)
theorem Acl(N:Nat):AG Tryz.prog 48 (s48 N):=by refine fk (Aoq x48 (Ab (oE N)<|Aj)) ?_;intro fp r h _ hS F;dsimp only[x48,Ah];unfold Cu at h;obtain⟨⟨iw,iv,ir,iq,ip,im⟩,jj,h⟩:=un h;exact Ai hS (fc jj F) h
def G3(N:Nat)(s2960:List (Int×Int×Int×(List (Int×Int))×Int×Int)):Nat->Int->(List (Int×Int×Int×(List (Int×Int))×Int×Int))->Option ((List (Int×Int×Int×(List (Int×Int))×Int×Int)))|0,_,_=>none|n+1,be,l2996=>bif (decide (be<(s2960.length:Int)))&&(decide (be<2))then((A7 s2960 be).bind λ(fo,fm,fj,fh,fg,e9)=>(Jz N fo fm fj fh fg e9).bind λ(dt,dq,dm,dl,dh,dg)=>gd ((l2996.length+1)*64<=140737488355328)<|gd (Af (be+1))<|G3 N s2960 n (be+1) (l2996++[(dt,dq,dm,dl,dh,dg)]))else(some l2996)
def MG(N:Nat)(s2960:List (Int×Int×Int×(List (Int×Int))×Int×Int))(s2961:List (Int×Int×Int×Int×Bool)):Option ((List (Int×Int×Int×(List (Int×Int))×Int×Int))×(List (Int×Int×Int×Int×Bool))):=(G3 N s2960 N 0 []).bind λi7=>gd (0<=0/\0<=min (s2961.length:Int) 3/\min (s2961.length:Int) 3<=(s2961.length:Int))<|some (i7,s2961.take ((min (s2961.length:Int) 3).toNat-0))
@[go_sem] def s16(N:Nat):Spec:=p0<|(Aoh<|qD Ak<|qD AA<|Aof<|Aof<|Aog ([],[]) λr=>.agg [Ap r.1,AS r.2]) (MG N)
theorem AgI(N:Nat):AG Tryz.prog 16 (s16 N):=by
 refine fk (Aoq x16 (Ab (Ack N)<|Aj)) ?_;intro s2960 s2961 r h _ hS F;dsimp only[x16,Ah,AA,Ak];unfold MG at h;refine go hS F ?_;refine Fc 1000001 (100,2) 0 6 [.i 0,.i 0,.i 0,.sl 0 true [] [],.i 0,.i 0] (by omega) (ev F) ?_;obtain⟨kq,e8,h⟩:=un h;refine go hS F ?_;refine Bz kq (λz:(List (Int×Int×Int×(List (Int×Int))×Int×Int))×Nat=>⟨[(1,.box (0,1) 0),(2,.box (1,1) 0),(3,.box (100,2) 0)],[(.c (100,2) 0,.own (1000001,4) z.1.length),(.a (1000001,4),B7 z.1),(.c (1,1) 0,.sl 0 true [] []),(.c (1,1) 1,.sl 0 true [] []),(.c (0,1) 0,Ap s2960),(.c (0,1) 1,AS s2961)],z.2⟩) (λz=>(z.1:(List (Int×Int×Int×(List (Int×Int))×Int×Int)))) (.x 0) ?_ ?_
 ·refine Bp (λn (y:Int×(List (Int×Int×Int×(List (Int×Int))×Int×Int))×Nat)=>G3 N s2960 n y.1 y.2.1) (λy=>⟨[(1,.box (0,1) 0),(2,.box (1,1) 0),(3,.box (100,2) 0),(4,.i y.1)],[(.c (100,2) 0,.own (1000001,4) y.2.1.length),(.a (1000001,4),B7 y.2.1),(.c (1,1) 0,.sl 0 true [] []),(.c (1,1) 1,.sl 0 true [] []),(.c (0,1) 0,Ap s2960),(.c (0,1) 1,AS s2961)],y.2.2⟩) (0,[],4) e8 (Ch F) ?_;rintro n ⟨be,l2996,ja⟩ aa;simp only[G3]at aa;refine An hS F aa (λ_ aa=>?_) (λ_ aa=>?_)
  ·obtain⟨⟨fo,fm,fj,fh,fg,e9⟩,jp,aa⟩:=un aa;obtain⟨lq,F⟩:=Cb Au jp F;obtain⟨⟨dt,dq,dm,dl,dh,dg⟩,ji,aa⟩:=un aa;obtain⟨j4,jz,aa⟩:=un aa;exact Cd hS (fc ji F) (n,be+1,l2996++[(dt,dq,dm,dl,dh,dg)],ja+1+1+1) aa
  ·exact B4 hS F (l2996,ja+1) aa
 ·rintro⟨i7,mf⟩ rfl;obtain⟨me,h⟩:=un h;exact Ai hS F h
end
section
attribute [local irreducible] Ax BO BB Bj BC Bk AY BD BK Cq
def Ca(N:Nat)(ah:Int)(aa:Int)(be:Int)(bb:Int)(ba:List (Int×Int))(az:Int)(ay:Int)(af:Int)(ab:Int)(ae:Int)(av:Int)(au:Int)(aq:Int)(an:Int)(am:Bool):Option Bool:=(Do N aa be bb ba az ay).bind λai=>bif decide (ah=1)then((BU N aa be bb ba az ay).bind λbq=>some (((bq&&(decide (af=0)))&&((decide (ab=0))&&(decide (ae=0))))&&(decide (av=0)&&(decide (au=0)&&(decide (aq=0)&&(decide (an=0)&&(am==false)))))))else(bif decide (ah=2)then((AH N af 0 99).bind λbp=>some (((bp&&(ai&&(decide (aa=0))))&&((decide (ab=0))&&(decide (ae=0))))&&(decide (av=0)&&(decide (au=0)&&(decide (aq=0)&&(decide (an=0)&&(am==false)))))))else(bif decide (ah=3)then((AH N af 0 99).bind λbf=>gd (bf=true->((Do N aa be bb ba az ay).isSome=true))<|gd ((bf&&((Do N aa be bb ba az ay).getD false))=true->((AH N aa 0 99).isSome=true))<|gd ((((bf&&((Do N aa be bb ba az ay).getD false))&&((AH N aa 0 99).getD false))&&(decide (aa≠af)))=true->((AH N ab 0 7).isSome=true))<|gd (((((bf&&((Do N aa be bb ba az ay).getD false))&&((AH N aa 0 99).getD false))&&(decide (aa≠af)))&&((AH N ab 0 7).getD false))=true->((AH N ae 0 7).isSome=true))<|some (((((((bf&&((Do N aa be bb ba az ay).getD false))&&((AH N aa 0 99).getD false))&&(decide (aa≠af)))&&((AH N ab 0 7).getD false))&&((AH N ae 0 7).getD false))&&(decide (ab≠ae)))&&(decide (av=0)&&(decide (au=0)&&(decide (aq=0)&&(decide (an=0)&&(am==false)))))))else(bif decide (ah=4)then((AH N af 0 99).bind λbh=>gd ((bh&&(ai&&(decide (aa=0))))=true->((AH N ab (-40) 40).isSome=true))<|gd (((bh&&(ai&&(decide (aa=0))))&&((AH N ab (-40) 40).getD false))=true->((AH N ae (-40) 40).isSome=true))<|some (((((bh&&(ai&&(decide (aa=0))))&&((AH N ab (-40) 40).getD false))&&((AH N ae (-40) 40).getD false))&&(!((decide (ab=0))&&(decide (ae=0)))))&&(decide (av=0)&&(decide (au=0)&&(decide (aq=0)&&(decide (an=0)&&(am==false)))))))else(bif decide (ah=5)then((FF N av au aq an am).bind λbo=>some (((bo&&(decide (af=0)))&&(ai&&(decide (aa=0))))&&((decide (ab=0))&&(decide (ae=0)))))else(bif decide (ah=6)then(bif decide (ah=6)then((AH N af 0 99).bind λbn=>some (((bn&&(ai&&(decide (aa=0))))&&((decide (ab=0))&&(decide (ae=0))))&&(decide (av=0)&&(decide (au=0)&&(decide (aq=0)&&(decide (an=0)&&(am==false)))))))else(some false))else(bif decide (ah=7)then((AH N af 0 99).bind λbm=>some (((bm&&(ai&&(decide (aa=0))))&&((decide (ab=0))&&(decide (ae=0))))&&(decide (av=0)&&(decide (au=0)&&(decide (aq=0)&&(decide (an=0)&&(am==false)))))))else(some false)))))))
@[go_sem] def Yx(N:Nat):Spec:=p0<|(Aoh<|Aoi<|Aoi<|Aoi<|Aoi<|Aon Aq<|Aoi<|Aoi<|Aoi<|Aoi<|Aoi<|Aoi<|Aoi<|Aoi<|Aoi<|Aod<|Aof<|Aof<|Aog false .b) (Ca N)
theorem U2(N:Nat):AG Tryz.prog 32 (Yx N):=by
 refine fk (Aoq x32 (Ab (Acg N)<|Ab (QQ N)<|Ab (ZH N)<|Ab (nY N)<|Aj)) ?_;intro ah aa be bb ba az ay af ab ae av au aq an am r h _ hS F;dsimp only[x32,Ah,Aq];unfold Ca at h;obtain⟨ai,db,h⟩:=un h;replace F:=fc db F;refine An hS F h (λ_ h=>?_) (λ_ h=>?_)
 ·obtain⟨bq,da,h⟩:=un h;exact Ai hS (fc da F) h
 ·refine An hS F h (λ_ h=>?_) (λ_ h=>?_)
  ·obtain⟨bp,cz,h⟩:=un h;exact Ai hS (fc cz F) h
  ·refine An hS F h (λ_ h=>?_) (λ_ h=>?_)
   ·obtain⟨bf,cy,dq,dm,dl,dh,h⟩:=un h;exact Ai hS (fc cy F) h
   ·refine An hS F h (λ_ h=>?_) (λ_ h=>?_)
    ·obtain⟨bh,cu,dg,de,h⟩:=un h;exact Ai hS (fc cu F) h
    ·refine An hS F h (λ_ h=>?_) (λ_ h=>?_)
     ·obtain⟨bo,cr,h⟩:=un h;exact Ai hS (fc cr F) h
     ·refine An hS F h (λ_ h=>?_) (λ_ h=>?_)
      ·refine An hS F h (λ_ h=>?_) (λ_ h=>?_)
       ·obtain⟨bn,cq,h⟩:=un h;exact Ai hS (fc cq F) h
       ·exact Ai hS F h
      ·refine An hS F h (λ_ h=>?_) (λ_ h=>?_)
       ·obtain⟨bm,co,h⟩:=un h;exact Ai hS (fc co F) h
       ·exact Ai hS F h
def HC(N:Nat)(ak:Int)(bg:Int)(cj:Int)(ci:Int)(ce:List (Int×Int))(b9:Int)(b7:Int)(aj:Int)(bz:Int)(bw:Int)(bj:Int)(bi:Int)(bv:Int)(bu:Int)(br:Bool):Option ((List Int)×(List Int)):=(Ca N ak bg cj ci ce b9 b7 aj bz bw bj bi bv bu br).bind λbl=>bif !bl then(some ([],[]))else(bif decide (ak=1)then(some ([bg],[]))else(bif decide (ak=3)then(some ([min aj bg,max aj bg],[]))else(bif decide (ak=5)then(some ([bi],[bj]))else(bif decide (ak=6)then(bif decide (ak=6)then(some ([],[aj]))else(some ([aj],[])))else(bif decide (ak=7)then(some ([],[aj]))else(some ([aj],[])))))))
@[go_sem] def Wx(N:Nat):Spec:=p0<|(Aoh<|Aoi<|Aoi<|Aoi<|Aoi<|Aon Aq<|Aoi<|Aoi<|Aoi<|Aoi<|Aoi<|Aoi<|Aoi<|Aoi<|Aoi<|Aod<|Aof<|Aof<|Aog ([],[]) λr=>.tup [FW r.1,FW r.2]) (HC N)
theorem AgO(N:Nat):AG Tryz.prog 28 (Wx N):=by
 refine fk (Aoq x28 (Ab (U2 N)<|Aj)) ?_;intro ak bg cj ci ce b9 b7 aj bz bw bj bi bv bu br r h _ hS F;dsimp only[x28,Ah,Aq];unfold HC at h;obtain⟨bl,cn,h⟩:=un h;replace F:=fc cn F;refine An hS F h (λ_ h=>?_) (λ_ h=>?_)
 ·exact Ai hS F h
 ·refine An hS F h (λ_ h=>?_) (λ_ h=>?_)
  ·exact Ai hS F h
  ·refine An hS F h (λ_ h=>?_) (λ_ h=>?_)
   ·exact Ai hS F h
   ·refine An hS F h (λ_ h=>?_) (λ_ h=>?_)
    ·exact Ai hS F h
    ·refine An hS F h (λ_ h=>?_) (λ_ h=>?_)
     ·refine An hS F h (λ_ h=>?_) (λ_ h=>?_)
      ·exact Ai hS F h
      ·exact Ai hS F h
     ·refine An hS F h (λ_ h=>?_) (λ_ h=>?_)
      ·exact Ai hS F h
      ·exact Ai hS F h
end
theorem Yo{U Z:Cf}(hf:∀b,Fz U b->Fz Z b)(hw:Z.w=U.w):∀{rows:List (List AV)}{es:List MapEntry},(∀r∈rows,AP r=true)->RepEnts U rows es->RepEnts Z rows es
 |[],_,_,h=>h
 |r::rs,_,hp,⟨e,es,h1,h2,h3⟩=>⟨e,es,h1,by grind[RepL.ofPure],Yo hf hw (by grind) h3⟩
theorem Ub{P:Program}{S:Tab}(hS:TabOK P S){f:Nat}(x:FnX P f){args:List AV}{rows:List (List AV)}(hn:args.length<=x.nt)(h:∀hb,Ax (Ctx.fn P S x.nt hb) x.c (Bk x.rv λr s=>∃n,r=.mp n/\hl s.hp (.c n 0)=some (ME rows)) ⟨BQ 0 args,[],0⟩):GCall P f args (λn=>[(.c n 0,ME rows)]) .mp:=by
 intro U hp vs nm hgl hI0 hnm hp hx;have hgt:Gl U.fresh:=λb j hj=>⟨⟨λh=>h,by rintro(h|h);exact(hgl b j hj).1.1 h;exact(hgl b j hj).1.2.1 h,(hgl b j hj).1.2.2⟩,(hgl b j hj).2⟩
 have hx':=RepL.ofPure (U:=U) (σ':=U.fresh) (λb hb=>⟨λh=>h,by rintro(h|h);exact hb.1 h;exact hb.2.1 h,hb.2.2⟩) (λ_ _=>rfl) args vs hp hx;have hI:HInv U.fresh []:=by refine⟨λn=>rfl,λn j c h=>by simp[hl]at h,by grind[hl],?_,λb h=>h.elim,λb hb=>hb.elim (hI0.lt b) (hI0.ou b),λb h=>h.elim⟩;rintro p q b (⟨_,_,j,c,h⟩|⟨_,⟨_,_,_,h⟩,_⟩) _<;>simp[hl]at h
 refine callsIn_wide.1 ((Jw hS x.hf x.hc x.hn hn hgt hI (λm hm=>hm.elim) hx' (h _)).mono ?_);rintro en w' ⟨v,Z,s,r,rfl,rfl,e,g1,g2,g3,n,rfl,k1⟩;obtain⟨m1,m2,es,m3,m4,m5,m6⟩:=MapF.of g1 k1;have hO:=e.out;have hb:U.w.heap.size<=Z.rb n:=by
  rcases Ke (Z.rb n) U.w.heap.size with hh|hh
  ·exact absurd m2 (e.fro _ _ (iW hh) (λh=>h)).2
  ·exact hh
 obtain⟨_,q1,q2⟩:=hI0.newMap hnm (λb o hb=>(e.fro b o hb (λh=>h)).1) e.io hb m3 m4 (Yo (U:=Z) (Z:=U.plus (Z.rb n) Z.w) (λb hb=>by have h1:=hb.2.1;rw[hO]at h1;exact⟨by rintro(h|rfl);exact h1 (.inl h);exact hb.1 m2,λh=>h1 (.inr h),hb.2.2⟩) rfl m4 m5) m6;refine⟨_,_,rfl,⟨q1,q2,rfl,λm hm=>hm⟩,.inr rfl,?_⟩;rw[g3.2];simp[Cf.named]
def Wj(x:AV):List AV->AV|[]=>x|l=>.agg (l++[x])
theorem Sz:∀xs ys:List AV,AP (xs++ys)=(AP xs&&AP ys)
 |[],_=>rfl
 |x::xs,ys=>by simp only[sF,AP,Sz xs ys,Bool.and_assoc]
theorem SA:∀{rows:List (List AV)},(∀r∈rows,AP r=true)->AP rows.flatten=true
 |[],_=>rfl
 |r::rs,h=>by rw[List.flatten_cons,Sz,h r (by simp),Ld];exact SA λr hr=>by grind
theorem Uc{P:Program}{S:Tab}(hS:TabOK P S){f:Nat}(x:FnX P f){args pre d:List AV}{sz:Nat}{rows:List (List AV)}(hn:args.length<=x.nt)(hro:∀r∈rows,AP r=true)(h:∀hb,Ax (Ctx.fn P S x.nt hb) x.c (Bk x.rv λr s=>∃n pr,r=Wj (.own n rows.length) pr/\hl s.hp (.a n)=some (.sl sz true rows d)/\Ej s.hp pr/\Ft pr=true/\XR n (B5 pr)/\Ib (D5 s.hp pr) pre/\AP (D5 s.hp pr)=true) ⟨BQ 0 args,[],0⟩):GCall P f args (λn=>[(.a n,.sl sz true rows d)]) (λn=>Wj (.own n rows.length) pre):=by
 intro U hpc vs nm hgl hI0 hnm hp hx;have hgt:Gl U.fresh:=λb j hj=>⟨⟨λh=>h,by rintro(h|h);exact(hgl b j hj).1.1 h;exact(hgl b j hj).1.2.1 h,(hgl b j hj).1.2.2⟩,(hgl b j hj).2⟩
 have hx':RepL U.fresh args vs:=RepL.ofPure (U:=U) (σ':=U.fresh) (λb hb=>⟨λh=>h,by rintro(h|h);exact hb.1 h;exact hb.2.1 h,hb.2.2⟩) (λ_ _=>rfl) args vs hp hx;have hI:HInv U.fresh []:=by refine⟨λn=>rfl,λn j c h=>by simp[hl]at h,λn sz live rows d h=>by simp[hl]at h,?_,λb h=>h.elim,λb hb=>hb.elim (hI0.lt b) (hI0.ou b),λb h=>h.elim⟩;rintro p q b (⟨_,_,j,c,h⟩|⟨_,⟨_,_,_,h⟩,_⟩) _<;>simp[hl]at h
 refine callsIn_wide.1 ((Jw hS x.hf x.hc x.hn hn hgt hI (cnt:=0) (λm hm=>hm.elim) hx' (h _)).mono ?_);rintro en w' ⟨v,Z,s,r,rfl,rfl,e,g1,g2,g3,n,pr,rfl,k1,k2,k0,k3,k4,k5⟩;have hO:Z.O=U.fresh.O:=e.out;have hold:∀(b:Nat)(o:Obj),U.w.heap[b]? =some o->Z.w.heap[b]? =some o:=λb o hb=>(e.fro b o hb (λh=>h)).1
 have hnew:∀b,Z.M b->U.w.heap.size<=b:=λb hb=>by
  rcases Ke b U.w.heap.size with hh|hh
  ·exact absurd hb (e.fro _ _ (iW hh) (λh=>h)).2
  ·exact hh
 obtain⟨a1,a2,a3,a4⟩:=g1.arr n sz true rows d k1;obtain⟨B,hB⟩:∃B:Nat->Prop,B=λb=>Owns Z s.hp (true,n) b:=⟨_,rfl⟩
 have hBM:∀b,B b->Z.M b:=λb hb=>by rw[hB]at hb;exact(Owns.M g1 hb).1
 let μ:Cf:={Z with M:=B}
 have e2:Evo Z μ:=⟨λ_ h=>⟨h,rfl⟩,λ_ _ l h=>⟨l,h,fW _,λ_=>rfl⟩,λb _ h hM=>⟨h,λhb=>hM (hBM b hb)⟩,rfl,fW _,SameO.refl _⟩
 let σ':Cf:=U.setArr nm (Z.ra n) (λb=>U.M b\/B b) rows.length Z.w
 have ev:Evo U σ':=Evo.setArr (.inl hnm) (λb o hb hM=>⟨hold b o hb,by
  rintro(h|h)
  ·exact hM h
  ·have:=hnew b (hBM b h);have:=(dY.1 hb).1;omega⟩) (M0 hold) e.io
 have hf:∀b,Fz μ b->Fz σ' b:=λb hb=>by have h1:=hb.2.1;rw[show μ.O=_ from hO]at h1;exact⟨by rintro(h|h);exact h1 (.inl h);exact hb.1 h,λh=>h1 (.inr h),hb.2.2⟩
 have hrows:∀b o,RepRows Z sz b o rows->RepRows σ' sz b o rows:=λb o hr=>by obtain⟨vals,v1,v2,v3,v4,v5⟩:=Im hr;exact Dl (RepL.ofPure hf (λ_ _=>rfl) _ _ (SA hro) (RepL.mono e2 _ _ v1)) v2 v3 v4
 have harr:ArrF σ' nm sz true rows:=by
  refine⟨.inr rfl,a2,λ_=>hro,?_⟩;have hra:σ'.ra nm=Z.ra n:=by simp[σ',Cf.setArr]
  rcases a4 with⟨a,a4,a5⟩|⟨b,o,cap,a4,a5,a6,a7,a8,a9⟩
  ·exact .inl ⟨a,by rw[hra];exact a4,a5⟩
  ·refine .inr ⟨b,o,cap,by rw[hra];exact a4,a5,a6,hrows b o a7,λ_=>⟨.inr ?_,(a8 rfl).2⟩,by simp⟩;rw[hB];exact .inr ⟨rfl,⟨sz,rows,d,k1⟩,o,cap,a4,a5⟩
 have hi:HInv σ' ((.a nm,.sl sz true rows d)::hpc):=by
  refine hI0.setArr ev (λx hx _=>⟨.inl hx,?_⟩) harr (λ_ b o cap h1 h2=>.inr (hnew b (hBM b ?_))) (λb hb=>?_) (M0 hold) (λb hb hn=>?_)
  ·have:=hI0.lt x hx;rw[iW this];exact hold x _ (iW this)
  ·rw[hB];exact .inr ⟨rfl,⟨sz,rows,d,k1⟩,o,cap,h1,h2⟩
  ·rcases hb with hb|hb
   ·exact tL (hI0.lt b hb) (M0 hold)
   ·exact g1.lt b (hBM b hb)
  ·rcases hb with hb|hb
   ·exact absurd hb hn
   ·exact hnew b (hBM b hb)
 have hown:∀y,Rep Z (.own n rows.length) y->Rep σ' (.own nm rows.length) y:=λy hy=>by have h1:=Hi g1 k1 hy rfl;refine⟨.inr rfl,hy.2.1,λl hl'=>?_⟩;simp[σ',Cf.setArr]at hl';subst hl';exact⟨fW _,λ_=>by rw[h1];simp[σ',Cf.setArr]⟩
 refine⟨v,σ',rfl,⟨ev,hi,rfl,λm hm=>hm⟩,?_⟩;have key:∀xs,RepL Z pr xs->RepL σ' pre xs:=λxs hxs=>by
  obtain⟨q1,q2⟩:=GY (U:=μ) (D5 s.hp pr) pre xs k4;refine RepL.ofPure (U:=μ) hf (λ_ _=>rfl) _ _ (q1 k5) (q2 (Hj g1 e2 rfl (B5 pr) (λm hm b ho hb=>?_) pr xs k2 k0 (λ_ h=>h) hxs));have hb:B b:=hb;rw[hB]at hb;have:=g1.inj (true,m) (true,n) b ho hb;cases this
  exact RA k3 hm
 cases hpr:pr with
 |nil=>
  subst hpr;have:pre=[]:=by
   cases pre with
   |nil=>rfl
   |cons y ys=>exact k4.elim
  subst this;exact hown v g3
 |cons p0 ps=>
  have hpre:∃q qs,pre=q::qs:=by
   rw[hpr]at k4;cases pre with
   |nil=>exact k4.elim
   |cons y ys=>exact⟨y,ys,rfl⟩
  obtain⟨q,qs,rfl⟩:=hpre;rw[hpr]at g3;obtain⟨xs,rfl,o1,r1⟩:=g3;obtain⟨us,zs,rfl,u1,u2⟩:=HP r1;obtain⟨y,_,rfl,hy,rfl⟩:=u2;refine⟨_,rfl,o1,Ds (key us (by rw[hpr];exact u1)) ?_⟩;exact⟨y,[],rfl,hown y hy,rfl⟩
structure LkB(hp:Hp)(cnt:Nat)(args:List AV):Prop where
 a:∀n o,AV.box n o∈args->n.2<=cnt
 h:∀n j x,hl hp (.c n j)=some x->n.2<=cnt
def LkE(hp hp':Hp):Prop:=∀l x,hl hp l=some x->hl hp' l=some x
theorem lkb{U:Cf}{hp:Hp}{cnt:Nat}{args:List AV}{xs:List Value}(hI:HInv U hp)(hal:∀m,U.al m->m.2<=cnt)(hx:RepL U args xs):LkB hp cnt args:=by refine⟨λn o hm=>?_,λn j x h=>hal _ (hI.cel n j x h).1⟩;obtain⟨i,hi⟩:=List.getElem?_of_mem hm;obtain⟨y,_,hy⟩:=Dr hx i _ hi;exact hal _ hy.1
theorem bY{P:Program}{S:Tab}(hS:TabOK P S){f:Nat}(x:FnX P f){args vs:List AV}{r:AV}(hfl:B2 r=true)(hn:args.length<=x.nt)(h:∀hb hp cnt,LkB hp cnt args->args.map (qv hp)=vs->Ax (Ctx.fn P S x.nt hb) x.c (Bk x.rv λr' s=>wk r' r/\LkE hp s.hp) ⟨BQ 0 args,hp,cnt⟩):IA P f args vs r:=by intro U hp xs gl hI hal hx hv;obtain⟨cnt,hal⟩:=hal;refine callsIn_wide.1 ((Jw hS x.hf x.hc x.hn hn gl hI hal hx (h _ hp cnt (lkb hI hal hx) hv)).mono ?_);rintro en w' ⟨v,Z,s,r',rfl,rfl,e,g1,g2,g3,g4,g5⟩;obtain⟨e2,g1⟩:=g1.sub g5;have e:=e.trans e2;exact⟨v,{Z with ln:=lenOf hp,al:=U.al},rfl,rfl,⟨λn hn=>⟨hn,(e.box n hn).2⟩,e.arr,e.fro,e.out,e.sz,e.io⟩,hI.fgt g1,λm hm=>hm,Rep.ofPure (U:=Z) (σ':={Z with ln:=lenOf hp,al:=U.al}) (λ_ h=>h) (λ_ _=>rfl) r v hfl (KH r' r v g4 g3)⟩
theorem jH{P:Program}{S:Tab}(hS:TabOK P S){f:Nat}(x:FnX P f){args vs:List AV}{v:Value}(hn:args.length<=x.nt)(h:∀hb hp cnt,LkB hp cnt args->args.map (qv hp)=vs->Ax (Ctx.fn P S x.nt hb) x.c (E3 x.rv (λ_ _=>False) λv' s=>v'=v/\LkE hp s.hp) ⟨BQ 0 args,hp,cnt⟩):QD P f args vs v:=by
 intro U hp xs gl hI hal hx hv;obtain⟨cnt,hal⟩:=hal;refine callsIn_wide.1 ((NV hS x.hf x.hc x.hn hn gl hI hal hx (h _ hp cnt (lkb hI hal hx) hv)).mono ?_);rintro en w' (⟨_,_,_,_,_,_,_,_,_,_,hF⟩|⟨v,Z,s,rfl,rfl,e,g1,g2,rfl,g5⟩)
 ·exact hF.elim
 ·obtain⟨e2,g1⟩:=g1.sub g5;have e:=e.trans e2;exact⟨{Z with ln:=lenOf hp,al:=U.al},rfl,rfl,⟨λn hn=>⟨hn,(e.box n hn).2⟩,e.arr,e.fro,e.out,e.sz,e.io⟩,hI.fgt g1,λm hm=>hm⟩
theorem BN{P:Program}{S:Tab}{nt hb:Nat}(hS:TabOK P S)(i:Nat){rid:Nat}{ops post:List AOp}{d:Option Nat}{g:Option (Nat×Bool)}{k:AK}{Q:AE->St->Prop}{e e1:Az}{h h1:Hp}{c:Nat}{vc:Prop}{f:Nat}{args:List AV}{fn:Func}{ac:AC}{rvs:List RV}{ntf:Nat}(hf:P.funcs[f]? =some fn)(hcf:Du P fn=some (ac,rvs))(hnt:fn.ntmps=ntf)(hok:Dh P f)(hyo:ops[i]? =some ⟨d,g,k⟩)(hpost:ops.drop (i+1)=post)(hex:Bg S (c+1) (100*rid) (ops.take i) e h=some (vc,e1,h1))(hvc:vc)(hg:Ei e1 g=some true)(hca:EU e1 k=some (f,args))(hn:args.length<=ntf)(hbody:∀hb,Ax (Ctx.fn P S ntf hb) ac (E3 rvs (AY S rid i d post e1 Q) λv s=>Q (.p v) ⟨e1,s.hp,s.cnt⟩) ⟨BQ 0 args,h1,c+1⟩):Ax (Ctx.fd P S nt hb) (.reg rid ops) Q ⟨e,h,c⟩:=by subst hpost;exact Wi (Ctx.fd_ok hS) i hf hcf hnt hok hyo hex hvc hg hca hn hbody
def Oa(l:List (Nat×Spec))(q:Nat->List AV->List AV->Option (Prop×AV))(k:Nat->List AV->Option (Prop×(Nm->Hp)×(Nm->AV)))(o:Nat->Nat->List (List AV)->List AV->Option (Prop×List (List AV)))(y:Nat->List AV->List AV->Option (Prop×Value)):Tab:=⟨J9 l,false,false,P6,T9,q,k,o,y⟩
section
variable{l:List (Nat×Spec)}{q:Nat->List AV->List AV->Option (Prop×AV)}{k:Nat->List AV->Option (Prop×(Nm->Hp)×(Nm->AV))}{o:Nat->Nat->List (List AV)->List AV->Option (Prop×List (List AV))}{y:Nat->List AV->List AV->Option (Prop×Value)}
theorem xE:(Oa l q k o y).f=J9 l:=rfl
theorem xF:(Oa l q k o y).w=false:=rfl
theorem xG:(Oa l q k o y).m=false:=rfl
theorem xH:(Oa l q k o y).e=P6:=rfl
theorem xI:(Oa l q k o y).p=T9:=rfl
theorem xJ:(Oa l q k o y).q=q:=rfl
theorem xK:(Oa l q k o y).k=k:=rfl
theorem xL:(Oa l q k o y).o=o:=rfl
theorem xM:(Oa l q k o y).y=y:=rfl
theorem BG{P:Program}(h:TabOK P (Gs l))(hq:∀f args vs vc r,q f args vs=some (vc,r)->vc->Dh P f/\IA P f args vs r)(hk:∀f args vc ws g,k f args=some (vc,ws,g)->vc->Dh P f/\GCall P f args ws g)(ho:∀f sz rows ax vc rows',o f sz rows ax=some (vc,rows')->vc->Dh P f/\K4 P f sz rows ax rows'/\∀r∈rows',r.length=sz/\AP r=true)(hy:∀f args vs vc v,y f args vs=some (vc,v)->vc->Dh P f/\QD P f args vs v):TabOK P (Oa l q k o y):=⟨h.f,h.e,h.p,hq,hk,hy,ho⟩
end
attribute [go_sem] xE xF xG xH xI xJ xK xL xM
