import Derived.Test.YtjdchfljifacoaaGreatH1
set_option linter.all false
set_option maxRecDepth 100000
set_option maxHeartbeats 8000000
namespace Go.Proofs.YtjdchfljifacoaaGreat.Am
open Go
section
attribute [local irreducible] Ax BO BB Bj BC Bk AY BD BK Cq
def AH(N:Nat)(bz:Int)(bg:Int)(be:Int):Option Bool:=some ((decide (bg<=bz))&&(decide (bz<=be)))
@[go_sem] def s73(N:Nat):Spec:=p0<|pI λbz=>pI λbg=>pI λbe=>pE<|pF (AH N bz bg be) false λr=>.b r
theorem ZH(N:Nat):AG Tryz.prog 73 (s73 N):=by
 refine Ar x73.ok<|Aa λbz=>Aa λbg=>Aa λbe=>Ad<|As λr h=>wx x73 (Aj) λ_ hS F=>?_
 dsimp only[x73,Ah];unfold AH at h;exact Ai hS F h
def FF(N:Nat)(da:Int)(bj:Int)(bo:Int)(b7:Int)(fg:Bool):Option Bool:=(AH N da 0 99).bind λbw=>gd (bw=true->((AH N bj 0 99).isSome=true))<|gd ((bw&&((AH N bj 0 99).getD false))=true->((AH N bo (-2) 7).isSome=true))<|gd (((bw&&((AH N bj 0 99).getD false))&&((AH N bo (-2) 7).getD false))=true->((AH N b7 1 5).isSome=true))<|some (((bw&&((AH N bj 0 99).getD false))&&((AH N bo (-2) 7).getD false))&&((AH N b7 1 5).getD false))
@[go_sem] def s61(N:Nat):Spec:=p0<|pG<|pI λda=>pI λbj=>pI λbo=>pI λb7=>pB λfg=>pE<|pE<|pF (FF N da bj bo b7 fg) false λr=>.b r
theorem nY(N:Nat):AG Tryz.prog 61 (s61 N):=by
 refine Ar x61.ok<|Aw<|Aa λda=>Aa λbj=>Aa λbo=>Aa λb7=>AX λfg=>Ad<|Ad<|As λr h=>wx x61 (Ab (ZH N)<|Aj) λ_ hS F=>?_
 dsimp only[x61,Ah];unfold FF at h;obtain⟨bw,jf,jr,kg,i9,h⟩:=un h;exact Ai hS (fc jf F) h
def Eg(N:Nat)(s2673:List (Int×Int×Int×(List (Int×Int))×Int×Int))(az:Int)(ay:Int):Nat->Bool->Int->Option Bool|0,_,_=>none|n+1,an,bp=>bif decide (bp<(s2673.length:Int))then((A7 s2673 bp).bind λ(d7,jv,ju,x2734,jt,js)=>gd (Af (bp+1))<|Eg N s2673 az ay n (an||((decide (d7=az))&&(decide (ay<(x2734.length:Int))))) (bp+1))else(some an)
def C3(N:Nat)(s2674:List (Int×Int×Int×Int×Bool))(s2673:List (Int×Int×Int×(List (Int×Int))×Int×Int)):Nat->Int->Option (Sum Unit Bool)|0,_=>none|n+1,af=>bif decide (af<(s2674.length:Int))then((A7 s2674 af).bind λ(ck,az,ay,d9,d8)=>(FF N ck az ay d9 d8).bind λir=>gd ((decide (0<af))=true->(Af (af-1)))<|gd ((decide (0<af))=true->(0<=af-1/\af-1<(s2674.length:Int)))<|bif (!ir)||((decide (0<af))&&(decide (ck<=(s2674.getD (af-1).toNat (0,0,0,0,false)).1)))then(some (.inr false))else((Eg N s2673 az ay N false 0).bind λbn=>bif !bn then(some (.inr false))else(gd (Af (af+1))<|C3 N s2674 s2673 n (af+1))))else(some (.inl ()))
def Bn(N:Nat)(s2673:List (Int×Int×Int×(List (Int×Int))×Int×Int))(s2674:List (Int×Int×Int×Int×Bool)):Option Bool:=(C8 N s2673).bind λiv=>bif (!iv)||(decide (20<(s2674.length:Int)))then(some false)else((C3 N s2674 s2673 N 0).bind λe9=>match e9 with|.inl ()=>(some true)|.inr j5=>(some j5))
@[go_sem] def s20(N:Nat):Spec:=p0<|pG<|pD Ak λs2673=>pD AA λs2674=>pE<|pE<|pF (Bn N s2673 s2674) false λr=>.b r
theorem nZ(N:Nat):AG Tryz.prog 20 (s20 N):=by
 refine Ar x20.ok<|Aw<|AM λs2673=>AM λs2674=>Ad<|Ad<|As λr h=>wx x20 (Ab (ZB N)<|Ab (nY N)<|Aj) λ_ hS F=>?_
 dsimp only[x20,Ah,AA,Ak];unfold Bn at h;obtain⟨iv,je,h⟩:=un h;replace F:=fc je F;refine An hS F h (λ_ h=>?_) (λ_ h=>?_)
 ·exact Ai hS F h
 ·obtain⟨e9,fh,h⟩:=un h;refine go hS F ?_;refine Bz e9 (λz:Nat=>⟨[],[],z⟩) (λz=>(.inl ():Sum Unit Bool)) (.x 0) ?_ ?_
  ·refine Bp (λn (y:Int×Nat)=>C3 N s2674 s2673 n y.1) (λy=>⟨[(1,.box (0,1) 0),(3,.i y.1)],[(.c (0,1) 0,Ap s2673),(.c (0,1) 1,AS s2674)],y.2⟩) (0,3) fh (Ch F) ?_;rintro n ⟨af,bf⟩ aa;simp only[C3]at aa;refine An hS F aa (λ_ aa=>?_) (λ_ aa=>?_)
   ·obtain⟨⟨ck,az,ay,d9,d8⟩,jo,aa⟩:=un aa;obtain⟨kw,F⟩:=Cb BZ jo F;obtain⟨ir,jd,i9,ka,aa⟩:=un aa;replace F:=fc jd F;refine An hS F aa (λ_ aa=>?_) (λ_ aa=>?_)
    ·obtain rfl:=yJ aa;exact Ai hS F h
    ·obtain⟨j9,lz,aa⟩:=un aa;refine go hS F ?_;refine Bz j9 (λz:Bool×Nat=>⟨[(1,.box (0,1) 0),(3,.i af),(5,.b z.1)],[(.c (0,1) 0,Ap s2673),(.c (0,1) 1,AS s2674)],z.2⟩) (λz=>(z.1:Bool)) (.x 2) ?_ ?_
     ·refine Bp (λn (y:Bool×Int×Nat)=>Eg N s2673 az ay n y.1 y.2.1) (λy=>⟨[(1,.box (0,1) 0),(3,.i af),(4,.box (605,bf+1+1) 0),(5,.b y.1),(6,.i y.2.1)],[(.c (605,bf+1+1) 0,.i ck),(.c (605,bf+1+1) 1,.i az),(.c (605,bf+1+1) 2,.i ay),(.c (605,bf+1+1) 3,.i d9),(.c (605,bf+1+1) 4,.b d8),(.c (0,1) 0,Ap s2673),(.c (0,1) 1,AS s2674)],y.2.2⟩) (false,0,bf+1+1+1+1+1) lz (Ch F) ?_;rintro n ⟨an,bp,i8⟩ fp;simp only[Eg]at fp;refine An hS F fp (λ_ fp=>?_) (λ_ fp=>?_)
      ·obtain⟨⟨d7,jv,ju,x2734,jt,js⟩,jn,fp⟩:=un fp;obtain⟨kv,F⟩:=Cb Au jn F;obtain⟨l6,fp⟩:=un fp;exact Cd hS F (n,an||((decide (d7=az))&&(decide (ay<(x2734.length:Int)))),bp+1,i8+1+1+1+1) fp
      ·exact B4 hS F (an,i8+1) fp
     ·rintro⟨bn,kf⟩ rfl;refine An hS F aa (λ_ aa=>?_) (λ_ aa=>?_)
      ·obtain rfl:=yJ aa;exact Ai hS F h
      ·obtain⟨lq,aa⟩:=un aa;exact Cd hS F (n,af+1,kf+1+1) aa
   ·exact B4 hS F (bf+1) aa
  ·rintro lm rfl;exact Ai hS F h
def Do(N:Nat)(ee:Int)(cr:Int)(cq:Int)(u2752:List (Int×Int))(co:Int)(cn:Int):Option Bool:=some (((((decide (cr=0))&&(decide (cq=0)))&&(decide ((u2752.length:Int)=0)))&&(decide (co=0)))&&(decide (cn=0)))
@[go_sem] def s71(N:Nat):Spec:=p0<|pG<|pI λee=>pI λcr=>pI λcq=>pS Aq λu2752=>pI λco=>pI λcn=>pE<|pE<|pF (Do N ee cr cq u2752 co cn) false λr=>.b r
theorem Acg(N:Nat):AG Tryz.prog 71 (s71 N):=by
 refine Ar x71.ok<|Aw<|Aa λee=>Aa λcr=>Aa λcq=>AF λu2752=>Aa λco=>Aa λcn=>Ad<|Ad<|As λr h=>wx x71 (Aj) λ_ hS F=>?_
 dsimp only[x71,Ah,Aq];unfold Do at h;exact Ai hS F h
def C6(N:Nat)(l2755:List (Int×Int×Int×Int×Bool))(am:Int):Nat->Int->(List (Int×Int×Int×Int×Bool))->Option ((List (Int×Int×Int×Int×Bool)))|0,_,_=>none|n+1,bb,l2774=>bif decide (bb<(l2755.length:Int))then((A7 l2755 bb).bind λ(d6,cj,d5,dz,dw)=>bif decide (cj≠am)then(gd ((l2774.length+1)*40<=140737488355328)<|gd (Af (bb+1))<|C6 N l2755 am n (bb+1) (l2774++[(d6,cj,d5,dz,dw)]))else(gd (Af (bb+1))<|C6 N l2755 am n (bb+1) l2774))else(some l2774)
def DQ(N:Nat)(l2755:List (Int×Int×Int×Int×Bool))(am:Int):Option (List (Int×Int×Int×Int×Bool)):=(C6 N l2755 am N 0 []).bind λiy=>some iy
@[go_sem] def s66(N:Nat):Spec:=p0<|pS AA λl2755=>pI λam=>pE<|pF (DQ N l2755 am) [] λr=>AS r
theorem oA(N:Nat):AG Tryz.prog 66 (s66 N):=by
 refine Ar x66.ok<|AF λl2755=>Aa λam=>Ad<|As λr h=>wx x66 (Aj) λ_ hS F=>?_
 dsimp only[x66,Ah,AA];unfold DQ at h;refine go hS F ?_;refine DT 1000001 5 5 [.i 0,.i 0,.i 0,.i 0,.b false] (by show(5:Nat)<28;omega) (by omega) (ev F) ?_;obtain⟨j8,fh,h⟩:=un h;refine go hS F ?_;refine Bz j8 (λz:(List (Int×Int×Int×Int×Bool))×Nat=>⟨[(5,.own (1000001,4) z.1.length)],[(.a (1000001,4),EH z.1)],z.2⟩) (λz=>(z.1:(List (Int×Int×Int×Int×Bool)))) (.x 0) ?_ ?_
 ·refine Bp (λn (y:Int×(List (Int×Int×Int×Int×Bool))×Nat)=>C6 N l2755 am n y.1 y.2.1) (λy=>⟨[(0,AS l2755),(1,.i am),(5,.own (1000001,4) y.2.1.length),(6,.i y.1)],[(.a (1000001,4),EH y.2.1)],y.2.2⟩) (0,[],4) fh (Ch F) ?_;rintro n ⟨bb,l2774,fo⟩ aa;simp only[C6]at aa;refine An hS F aa (λ_ aa=>?_) (λ_ aa=>?_)
  ·obtain⟨⟨d6,cj,d5,dz,dw⟩,jm,aa⟩:=un aa;obtain⟨kr,F⟩:=Cb BZ jm F;refine An hS F aa (λ_ aa=>?_) (λ_ aa=>?_)
   ·obtain⟨i9,ka,aa⟩:=un aa;exact Cd hS F (n,bb+1,l2774++[(d6,cj,d5,dz,dw)],fo+1+1+1+1) aa
   ·obtain⟨lr,aa⟩:=un aa;exact Cd hS F (n,bb+1,l2774,fo+1+1+1) aa
  ·exact B4 hS F (l2774,fo+1) aa
 ·rintro⟨iy,lj⟩ rfl;exact Ai hS F h
def Dx(N:Nat)(l2787:List (Int×Int×Int×Int×Bool))(ae:Int)(ak:Int)(aj:Int)(ai:Int)(ah:Bool):Nat->Bool->Int->(List (Int×Int×Int×Int×Bool))->Option (Sum (Bool×(List (Int×Int×Int×Int×Bool))) (((List (Int×Int×Int×Int×Bool))×Bool)))|0,_,_,_=>none|n+1,av,bm,l2815=>bif decide (bm<(l2787.length:Int))then((A7 l2787 bm).bind λ(bv,du,dt,dq,dm)=>bif decide (bv=ae)then(some (.inr ([],false)))else((bif (!av)&&(decide (ae<bv))then(gd ((l2815.length+1)*40<=140737488355328)<|some (true,l2815++[(ae,ak,aj,ai,ah)]))else(some (av,l2815)):Option (Bool×(List (Int×Int×Int×Int×Bool)))).bind λ(bu,l2824)=>gd ((l2824.length+1)*40<=140737488355328)<|gd (Af (bm+1))<|Dx N l2787 ae ak aj ai ah n bu (bm+1) (l2824++[(bv,du,dt,dq,dm)])))else(some (.inl (av,l2815)))
def E9(N:Nat)(l2787:List (Int×Int×Int×Int×Bool))(ae:Int)(ak:Int)(aj:Int)(ai:Int)(ah:Bool):Option ((List (Int×Int×Int×Int×Bool))×Bool):=(Dx N l2787 ae ak aj ai ah N false 0 []).bind λe8=>match e8 with|.inl (cy,l2832)=>((bif !cy then(gd ((l2832.length+1)*40<=140737488355328)<|some (l2832++[(ae,ak,aj,ai,ah)]))else(some l2832):Option ((List (Int×Int×Int×Int×Bool)))).bind λiw=>some (iw,true))|.inr j4=>(some j4)
@[go_sem] def s52(N:Nat):Spec:=p0<|pS AA λl2787=>pG<|pI λae=>pI λak=>pI λaj=>pI λai=>pB λah=>pE<|pE<|pF (E9 N l2787 ae ak aj ai ah) ([],false) λr=>.tup [AS r.1,.b r.2]
theorem oB(N:Nat):AG Tryz.prog 52 (s52 N):=by
 refine Ar x52.ok<|AF λl2787=>Aw<|Aa λae=>Aa λak=>Aa λaj=>Aa λai=>AX λah=>Ad<|Ad<|As λr h=>wx x52 (Aj) λ_ hS F=>?_
 dsimp only[x52,Ah,AA];unfold E9 at h;refine go hS F ?_;refine DT 1000001 6 5 [.i 0,.i 0,.i 0,.i 0,.b false] (by show(6:Nat)<53;omega) (by omega) (ev F) ?_;obtain⟨e8,fh,h⟩:=un h;refine go hS F ?_;refine Bz e8 (λz:Bool×(List (Int×Int×Int×Int×Bool))×Nat=>⟨[(3,.box (0,1) 0),(6,.own (1000001,5) z.2.1.length),(7,.b z.1)],[(.a (1000001,5),EH z.2.1),(.c (0,1) 0,.i ae),(.c (0,1) 1,.i ak),(.c (0,1) 2,.i aj),(.c (0,1) 3,.i ai),(.c (0,1) 4,.b ah)],z.2.2⟩) (λz=>(.inl (z.1,z.2.1):Sum (Bool×(List (Int×Int×Int×Int×Bool))) (((List (Int×Int×Int×Int×Bool))×Bool)))) (.x 0) ?_ ?_
 ·refine Bp (λn (y:Bool×Int×(List (Int×Int×Int×Int×Bool))×Nat)=>Dx N l2787 ae ak aj ai ah n y.1 y.2.1 y.2.2.1) (λy=>⟨[(0,AS l2787),(3,.box (0,1) 0),(6,.own (1000001,5) y.2.2.1.length),(7,.b y.1),(8,.i y.2.1)],[(.a (1000001,5),EH y.2.2.1),(.c (0,1) 0,.i ae),(.c (0,1) 1,.i ak),(.c (0,1) 2,.i aj),(.c (0,1) 3,.i ai),(.c (0,1) 4,.b ah)],y.2.2.2⟩) (false,0,[],5) fh (Ch F) ?_;rintro n ⟨av,bm,l2815,fj⟩ aa;simp only[Dx]at aa;refine An hS F aa (λ_ aa=>?_) (λ_ aa=>?_)
  ·obtain⟨⟨bv,du,dt,dq,dm⟩,jl,aa⟩:=un aa;obtain⟨kq,F⟩:=Cb BZ jl F;refine An hS F aa (λ_ aa=>?_) (λ_ aa=>?_)
   ·obtain rfl:=yJ aa;exact Ai hS F h
   ·obtain⟨j7,jq,aa⟩:=un aa;refine go hS F ?_;refine Bz j7 (λz:Bool×(List (Int×Int×Int×Int×Bool))×Nat=>⟨[(0,AS l2787),(3,.box (0,1) 0),(6,.own (1000001,5) z.2.1.length),(7,.b z.1),(8,.i bm)],[(.a (1000001,5),EH z.2.1),(.c (0,1) 0,.i ae),(.c (0,1) 1,.i ak),(.c (0,1) 2,.i aj),(.c (0,1) 3,.i ai),(.c (0,1) 4,.b ah)],z.2.2⟩) (λz=>((z.1,z.2.1):Bool×(List (Int×Int×Int×Int×Bool)))) .n ?_ ?_
    ·refine An hS F jq (λ_ jq=>?_) (λ_ jq=>?_)
     ·obtain⟨ka,jq⟩:=un jq;exact B4 hS F (true,l2815++[(ae,ak,aj,ai,ah)],fj+1+1+1+1+1) jq
     ·exact B4 hS F (av,l2815,fj+1+1+1) jq
    ·rintro⟨bu,l2824,ke⟩ rfl;obtain⟨lr,l7,aa⟩:=un aa;exact Cd hS F (n,bu,bm+1,l2824++[(bv,du,dt,dq,dm)],ke+1+1) aa
  ·exact B4 hS F (av,l2815,fj+1) aa
 ·rintro⟨cy,l2832,i7⟩ rfl;obtain⟨j6,jp,h⟩:=un h;refine go hS F ?_;refine Bz j6 (λz:(List (Int×Int×Int×Int×Bool))×Nat=>⟨[(6,.own (1000001,5) z.1.length)],[(.a (1000001,5),EH z.1)],z.2⟩) (λz=>(z.1:(List (Int×Int×Int×Int×Bool)))) .n ?_ ?_
  ·refine An hS F jp (λ_ jp=>?_) (λ_ jp=>?_)
   ·obtain⟨lq,jp⟩:=un jp;exact B4 hS F (l2832++[(ae,ak,aj,ai,ah)],i7+1+1) jp
   ·exact B4 hS F (l2832,i7+1) jp
  ·rintro⟨iw,li⟩ rfl;exact Ai hS F h
def CQ(N:Nat)(l2838:List (Int×Int×Int×Int×Bool))(au:Int)(ab:Bool):Nat->Int->Option (Sum Unit (((List (Int×Int×Int×Int×Bool))×Bool)))|0,_=>none|n+1,i2849=>bif decide (i2849<(l2838.length:Int))then((A7 l2838 i2849).bind λ(dl,ib,g9,g8,gz)=>bif decide (dl=au)then(some (.inr (l2838.set i2849.toNat (dl,ib,g9,g8,ab),(gz !=ab))))else(gd (Af (i2849+1))<|CQ N l2838 au ab n (i2849+1)))else(some (.inl ()))
def ET(N:Nat)(l2838:List (Int×Int×Int×Int×Bool))(au:Int)(ab:Bool):Option ((List (Int×Int×Int×Int×Bool))×Bool):=gd ((l2838.length)*40<=140737488355328)<|(CQ N l2838 au ab N 0).bind λez=>match ez with|.inl ()=>(some ([],false))|.inr jz=>(some jz)
@[go_sem] def s62(N:Nat):Spec:=p0<|pS AA λl2838=>pI λau=>pB λab=>pE<|pF (ET N l2838 au ab) ([],false) λr=>.tup [AS r.1,.b r.2]
theorem Ach(N:Nat):AG Tryz.prog 62 (s62 N):=by
 refine Ar x62.ok<|AF λl2838=>Aa λau=>AX λab=>Ad<|As λr h=>wx x62 (Aj) λ_ hS F=>?_
 dsimp only[x62,Ah,AA];unfold ET at h;obtain⟨jr,h⟩:=un h;obtain⟨ez,l5,h⟩:=un h;refine go hS F ?_;refine Bz ez (λz:Nat=>⟨[],[],z⟩) (λz=>(.inl ():Sum Unit (((List (Int×Int×Int×Int×Bool))×Bool)))) (.x 0) ?_ ?_
 ·refine Bp (λn (y:Int×Nat)=>CQ N l2838 au ab n y.1) (λy=>⟨[(1,.i au),(2,.b ab),(8,.own (100,2) l2838.length),(9,.i y.1)],[(.a (100,2),EH l2838)],y.2⟩) (0,3) l5 (Ch F) ?_;rintro n ⟨i2849,i6⟩ db;simp only[CQ]at db;refine An hS F db (λ_ db=>?_) (λ_ db=>?_)
  ·obtain⟨⟨dl,ib,g9,g8,gz⟩,jk,db⟩:=un db;obtain⟨km,F⟩:=Cb BZ jk F;refine An hS F db (λ_ db=>?_) (λ_ db=>?_)
   ·obtain rfl:=yJ db;exact Ai hS F h
   ·obtain⟨ka,db⟩:=un db;exact Cd hS F (n,i2849+1,i6+1+1+1) db
  ·exact B4 hS F (i6+1) db
 ·rintro lh rfl;exact Ai hS F h
def AN(N:Nat)(c2861:Int)(bi:Int):Option Int:=bif decide (c2861<0)then(gd (Af (c2861+1))<|gd (Af (-(c2861+1)))<|gd (bi≠0)<|some ((-(c2861+1)).tmod bi))else(gd (bi≠0)<|some (c2861.tmod bi))
@[go_sem] def s51(N:Nat):Spec:=p0<|pI λc2861=>pI λbi=>pE<|pF (AN N c2861 bi) 0 λr=>.i r
theorem U0(N:Nat):AG Tryz.prog 51 (s51 N):=by
 refine Ar x51.ok<|Aa λc2861=>Aa λbi=>Ad<|As λr h=>wx x51 (Aj) λ_ hS F=>?_
 dsimp only[x51,Ah];unfold AN at h;refine An hS F h (λ_ h=>?_) (λ_ h=>?_)
 ·obtain⟨jr,kg,i9,h⟩:=un h;exact Ai hS F h
 ·obtain⟨ka,h⟩:=un h;exact Ai hS F h
def B9(N:Nat)(a2863:List (Int×Int×Int×Int×Bool))(b2864:List (Int×Int×Int×Int×Bool)):Nat->Int->Option (Sum Unit Bool)|0,_=>none|n+1,bl=>bif decide (bl<(a2863.length:Int))then((A7 a2863 bl).bind λ(gy,gx,gw,gv,gu)=>(A7 b2864 bl).bind λ(gt,gr,gm,gj,gi)=>bif !(decide (gy=gt)&&(decide (gx=gr)&&(decide (gw=gm)&&(decide (gv=gj)&&(gu==gi)))))then(some (.inr false))else(gd (Af (bl+1))<|B9 N a2863 b2864 n (bl+1)))else(some (.inl ()))
def D4(N:Nat)(a2863:List (Int×Int×Int×Int×Bool))(b2864:List (Int×Int×Int×Int×Bool)):Option Bool:=bif decide ((a2863.length:Int)≠(b2864.length:Int))then(some false)else((B9 N a2863 b2864 N 0).bind λeu=>match eu with|.inl ()=>(some true)|.inr jy=>(some jy))
@[go_sem] def s47(N:Nat):Spec:=p0<|pS AA λa2863=>pS AA λb2864=>pE<|pF (D4 N a2863 b2864) false λr=>.b r
theorem Aci(N:Nat):AG Tryz.prog 47 (s47 N):=by
 refine Ar x47.ok<|AF λa2863=>AF λb2864=>Ad<|As λr h=>wx x47 (Aj) λ_ hS F=>?_
 dsimp only[x47,Ah,AA];unfold D4 at h;refine An hS F h (λ_ h=>?_) (λ_ h=>?_)
 ·exact Ai hS F h
 ·obtain⟨eu,fh,h⟩:=un h;refine go hS F ?_;refine Bz eu (λz:Nat=>⟨[],[],z⟩) (λz=>(.inl ():Sum Unit Bool)) (.x 0) ?_ ?_
  ·refine Bp (λn (y:Int×Nat)=>B9 N a2863 b2864 n y.1) (λy=>⟨[(0,AS a2863),(1,AS b2864),(5,.i y.1)],[],y.2⟩) (0,3) fh (Ch F) ?_;rintro n ⟨bl,i5⟩ aa;simp only[B9]at aa;refine An hS F aa (λ_ aa=>?_) (λ_ aa=>?_)
   ·obtain⟨⟨gy,gx,gw,gv,gu⟩,jj,aa⟩:=un aa;obtain⟨kl,F⟩:=Cb BZ jj F;obtain⟨⟨gt,gr,gm,gj,gi⟩,ji,aa⟩:=un aa;obtain⟨kj,F⟩:=Cb BZ ji F;refine An hS F aa (λ_ aa=>?_) (λ_ aa=>?_)
    ·obtain rfl:=yJ aa;exact Ai hS F h
    ·obtain⟨i9,aa⟩:=un aa;exact Cd hS F (n,bl+1,i5+1+1+1) aa
   ·exact B4 hS F (i5+1) aa
  ·rintro lg rfl;exact Ai hS F h
def CG(N:Nat)(dg:List (Int×Int×Int×(List (Int×Int))×Int×Int))(ce:List (Int×Int×Int×Int×Bool))(de:List (Int×Int×Int×(List (Int×Int))×Int×Int))(b9:List (Int×Int×Int×Int×Bool)):Option Bool:=(Gy N dg de).bind λeh=>gd (eh=true->((D4 N ce b9).isSome=true))<|some (eh&&((D4 N ce b9).getD false))
@[go_sem] def s21(N:Nat):Spec:=p0<|pG<|pD Ak λdg=>pD AA λce=>pE<|pG<|pD Ak λde=>pD AA λb9=>pE<|pE<|pF (CG N dg ce de b9) false λr=>.b r
theorem oC(N:Nat):AG Tryz.prog 21 (s21 N):=by
 refine Ar x21.ok<|Aw<|AM λdg=>AM λce=>Ad<|Aw<|AM λde=>AM λb9=>Ad<|Ad<|As λr h=>wx x21 (Ab (Ab8 N)<|Ab (Aci N)<|Aj) λ_ hS F=>?_
 dsimp only[x21,Ah,AA,Ak];unfold CG at h;obtain⟨eh,jc,jr,h⟩:=un h;exact Ai hS (fc jc F) h
def CH(N:Nat)(cu:List (Int×Int×Int×(List (Int×Int))×Int×Int))(s2904:List (Int×Int×Int×Int×Bool)):Option ((List (Int×Int×Int×(List (Int×Int))×Int×Int))×(List (Int×Int×Int×Int×Bool))):=(HZ N cu).bind λiq=>gd ((s2904.length)*40<=140737488355328)<|some (iq,s2904)
@[go_sem] def s54(N:Nat):Spec:=p0<|pG<|pD Ak λcu=>pD AA λs2904=>pE<|pE<|pF (CH N cu s2904) ([],[]) λr=>.agg [Ap r.1,AS r.2]
theorem oD(N:Nat):AG Tryz.prog 54 (s54 N):=by
 refine Ar x54.ok<|Aw<|AM λcu=>AM λs2904=>Ad<|Ad<|As λr h=>wx x54 (Ab (Ab7 N)<|Aj) λ_ hS F=>?_
 dsimp only[x54,Ah,AA,Ak];unfold CH at h;obtain⟨iq,jb,jr,h⟩:=un h;exact Ai hS (fc jb F) h
def Gz(N:Nat)(c2907:Int)(bh:Int):Option Int:=bif decide (c2907<0)then(gd (Af (c2907+1))<|gd (Af (-(c2907+1)))<|gd (bh≠0)<|some ((-(c2907+1)).tmod bh))else(gd (bh≠0)<|some (c2907.tmod bh))
@[go_sem] def s34(N:Nat):Spec:=p0<|pI λc2907=>pI λbh=>pE<|pF (Gz N c2907 bh) 0 λr=>.i r
theorem Acj(N:Nat):AG Tryz.prog 34 (s34 N):=by
 refine Ar x34.ok<|Aa λc2907=>Aa λbh=>Ad<|As λr h=>wx x34 (Aj) λ_ hS F=>?_
 dsimp only[x34,Ah];unfold Gz at h;refine An hS F h (λ_ h=>?_) (λ_ h=>?_)
 ·obtain⟨jr,kg,i9,h⟩:=un h;exact Ai hS F h
 ·obtain⟨ka,h⟩:=un h;exact Ai hS F h
def FM(N:Nat)(l2909:List Int)(ba:Int):Nat->Int->Option (Sum Unit Bool)|0,_=>none|n+1,br=>bif decide (br<(l2909.length:Int))then((A7 l2909 br).bind λgh=>bif decide (gh=ba)then(some (.inr true))else(gd (Af (br+1))<|FM N l2909 ba n (br+1)))else(some (.inl ()))
def Ke(N:Nat)(l2909:List Int)(ba:Int):Option Bool:=(FM N l2909 ba N 0).bind λej=>match ej with|.inl ()=>(some false)|.inr jx=>(some jx)
@[go_sem] def s39(N:Nat):Spec:=p0<|pS SD λl2909=>pI λba=>pE<|pF (Ke N l2909 ba) false λr=>.b r
theorem AgG(N:Nat):AG Tryz.prog 39 (s39 N):=by
 refine Ar x39.ok<|AF λl2909=>Aa λba=>Ad<|As λr h=>wx x39 (Aj) λ_ hS F=>?_
 dsimp only[x39,Ah,SD];unfold Ke at h;obtain⟨ej,fh,h⟩:=un h;refine go hS F ?_;refine Bz ej (λz:Nat=>⟨[],[],z⟩) (λz=>(.inl ():Sum Unit Bool)) (.x 0) ?_ ?_
 ·refine Bp (λn (y:Int×Nat)=>FM N l2909 ba n y.1) (λy=>⟨[(0,FW l2909),(1,.i ba),(5,.i y.1)],[],y.2⟩) (0,2) fh (Ch F) ?_;rintro n ⟨br,i4⟩ aa;simp only[FM]at aa;refine An hS F aa (λ_ aa=>?_) (λ_ aa=>?_)
  ·obtain⟨gh,jh,aa⟩:=un aa;obtain⟨ki,F⟩:=Cb GV jh F;refine An hS F aa (λ_ aa=>?_) (λ_ aa=>?_)
   ·obtain rfl:=yJ aa;exact Ai hS F h
   ·obtain⟨i9,aa⟩:=un aa;exact Cd hS F (n,br+1,i4+1+1+1) aa
  ·exact B4 hS F (i4+1) aa
 ·rintro lf rfl;exact Ai hS F h
def GH(N:Nat)(l2923:List (Int×Int×Int×Int×Bool))(aq:Int):Nat->Int->Option (Sum Unit (((Int×Int×Int×Int×Bool)×Bool)))|0,_=>none|n+1,bq=>bif decide (bq<(l2923.length:Int))then((A7 l2923 bq).bind λ(dh,gg,gc,fr,fq)=>bif decide (dh=aq)then(some (.inr ((dh,gg,gc,fr,fq),true)))else(gd (Af (bq+1))<|GH N l2923 aq n (bq+1)))else(some (.inl ()))
def Mf(N:Nat)(l2923:List (Int×Int×Int×Int×Bool))(aq:Int):Option ((Int×Int×Int×Int×Bool)×Bool):=(GH N l2923 aq N 0).bind λei=>match ei with|.inl ()=>(some ((0,0,0,0,false),false))|.inr jw=>(some jw)
@[go_sem] def s41(N:Nat):Spec:=p0<|pS AA λl2923=>pI λaq=>pE<|pF (Mf N l2923 aq) ((0,0,0,0,false),false) λr=>.tup [.agg [.i r.1.1,.i r.1.2.1,.i r.1.2.2.1,.i r.1.2.2.2.1,.b r.1.2.2.2.2],.b r.2]
theorem AgH(N:Nat):AG Tryz.prog 41 (s41 N):=by
 refine Ar x41.ok<|AF λl2923=>Aa λaq=>Ad<|As λr h=>wx x41 (Aj) λ_ hS F=>?_
 dsimp only[x41,Ah,AA];unfold Mf at h;obtain⟨ei,fh,h⟩:=un h;refine go hS F ?_;refine Bz ei (λz:Nat=>⟨[(4,.box (0,1) 0)],[(.c (0,1) 0,.i 0),(.c (0,1) 1,.i 0),(.c (0,1) 2,.i 0),(.c (0,1) 3,.i 0),(.c (0,1) 4,.b false)],z⟩) (λz=>(.inl ():Sum Unit (((Int×Int×Int×Int×Bool)×Bool)))) (.x 0) ?_ ?_
 ·refine Bp (λn (y:Int×Nat)=>GH N l2923 aq n y.1) (λy=>⟨[(0,AS l2923),(1,.i aq),(4,.box (0,1) 0),(6,.i y.1)],[(.c (0,1) 0,.i 0),(.c (0,1) 1,.i 0),(.c (0,1) 2,.i 0),(.c (0,1) 3,.i 0),(.c (0,1) 4,.b false)],y.2⟩) (0,2) fh (Ch F) ?_;rintro n ⟨bq,iz⟩ aa;simp only[GH]at aa;refine An hS F aa (λ_ aa=>?_) (λ_ aa=>?_)
  ·obtain⟨⟨dh,gg,gc,fr,fq⟩,jg,aa⟩:=un aa;obtain⟨kh,F⟩:=Cb BZ jg F;refine An hS F aa (λ_ aa=>?_) (λ_ aa=>?_)
   ·obtain rfl:=yJ aa;exact Ai hS F h
   ·obtain⟨i9,aa⟩:=un aa;exact Cd hS F (n,bq+1,iz+1+1+1) aa
  ·exact B4 hS F (iz+1) aa
 ·rintro kz rfl;exact Ai hS F h
def HA(N:Nat)(aw:Int):Option (Int×Int×Int×(List (Int×Int))×Int×Int):=gd (Af (aw+4))<|gd (Af (aw+4))<|some (3,2,0,[(aw,0),(aw+4,0),(aw+4,4),(aw,4)],0,2)
@[go_sem] def s49(N:Nat):Spec:=p0<|pI λaw=>pE<|pF (HA N aw) (0,0,0,[],0,0) λr=>.agg [.i r.1,.i r.2.1,.i r.2.2.1,BP r.2.2.2.1,.i r.2.2.2.2.1,.i r.2.2.2.2.2]
theorem oE(N:Nat):AG Tryz.prog 49 (s49 N):=by
 refine Ar x49.ok<|Aa λaw=>Ad<|As λr h=>wx x49 (Aj) λ_ hS F=>?_
 dsimp only[x49,Ah];unfold HA at h;obtain⟨jr,kg,h⟩:=un h;exact Ai hS F h
def Cu(N:Nat)(ci:Int):Option ((List (Int×Int×Int×(List (Int×Int))×Int×Int))×(List (Int×Int×Int×Int×Bool))):=(HA N ci).bind λ(ip,im,ij,ii,ig,ic)=>some ([(ip,im,ij,ii,ig,ic)],[(1,3,(-1),3,true)])
@[go_sem] def s48(N:Nat):Spec:=p0<|pI λci=>pE<|pF (Cu N ci) ([],[]) λr=>.agg [Ap r.1,AS r.2]
theorem Acl(N:Nat):AG Tryz.prog 48 (s48 N):=by
 refine Ar x48.ok<|Aa λci=>Ad<|As λr h=>wx x48 (Ab (oE N)<|Aj) λ_ hS F=>?_
 dsimp only[x48,Ah];unfold Cu at h;obtain⟨⟨ip,im,ij,ii,ig,ic⟩,ja,h⟩:=un h;exact Ai hS (fc ja F) h
end
section
attribute [local irreducible] Ax BO BB Bj BC Bk AY BD BK Cq
def Ca(N:Nat)(ah:Int)(aa:Int)(ay:Int)(aw:Int)(av:List (Int×Int))(au:Int)(aq:Int)(af:Int)(ab:Int)(ae:Int)(an:Int)(am:Int)(ak:Int)(aj:Int)(ai:Bool):Option Bool:=(Do N aa ay aw av au aq).bind λbb=>bif decide (ah=1)then((BU N aa ay aw av au aq).bind λce=>some (((ce&&(decide (af=0)))&&((decide (ab=0))&&(decide (ae=0))))&&(decide (an=0)&&(decide (am=0)&&(decide (ak=0)&&(decide (aj=0)&&(ai==false)))))))else(bif decide (ah=2)then((AH N af 0 99).bind λb9=>some (((b9&&(bb&&(decide (aa=0))))&&((decide (ab=0))&&(decide (ae=0))))&&(decide (an=0)&&(decide (am=0)&&(decide (ak=0)&&(decide (aj=0)&&(ai==false)))))))else(bif decide (ah=3)then((AH N af 0 99).bind λbe=>gd (be=true->((Do N aa ay aw av au aq).isSome=true))<|gd ((be&&((Do N aa ay aw av au aq).getD false))=true->((AH N aa 0 99).isSome=true))<|gd ((((be&&((Do N aa ay aw av au aq).getD false))&&((AH N aa 0 99).getD false))&&(decide (aa≠af)))=true->((AH N ab 0 7).isSome=true))<|gd (((((be&&((Do N aa ay aw av au aq).getD false))&&((AH N aa 0 99).getD false))&&(decide (aa≠af)))&&((AH N ab 0 7).getD false))=true->((AH N ae 0 7).isSome=true))<|some (((((((be&&((Do N aa ay aw av au aq).getD false))&&((AH N aa 0 99).getD false))&&(decide (aa≠af)))&&((AH N ab 0 7).getD false))&&((AH N ae 0 7).getD false))&&(decide (ab≠ae)))&&(decide (an=0)&&(decide (am=0)&&(decide (ak=0)&&(decide (aj=0)&&(ai==false)))))))else(bif decide (ah=4)then((AH N af 0 99).bind λbg=>gd ((bg&&(bb&&(decide (aa=0))))=true->((AH N ab (-40) 40).isSome=true))<|gd (((bg&&(bb&&(decide (aa=0))))&&((AH N ab (-40) 40).getD false))=true->((AH N ae (-40) 40).isSome=true))<|some (((((bg&&(bb&&(decide (aa=0))))&&((AH N ab (-40) 40).getD false))&&((AH N ae (-40) 40).getD false))&&(!((decide (ab=0))&&(decide (ae=0)))))&&(decide (an=0)&&(decide (am=0)&&(decide (ak=0)&&(decide (aj=0)&&(ai==false)))))))else(bif decide (ah=5)then((FF N an am ak aj ai).bind λb7=>some (((b7&&(decide (af=0)))&&(bb&&(decide (aa=0))))&&((decide (ab=0))&&(decide (ae=0)))))else(bif decide (ah=6)then(bif decide (ah=6)then((AH N af 0 99).bind λbz=>some (((bz&&(bb&&(decide (aa=0))))&&((decide (ab=0))&&(decide (ae=0))))&&(decide (an=0)&&(decide (am=0)&&(decide (ak=0)&&(decide (aj=0)&&(ai==false)))))))else(some false))else(bif decide (ah=7)then((AH N af 0 99).bind λbw=>some (((bw&&(bb&&(decide (aa=0))))&&((decide (ab=0))&&(decide (ae=0))))&&(decide (an=0)&&(decide (am=0)&&(decide (ak=0)&&(decide (aj=0)&&(ai==false)))))))else(some false)))))))
@[go_sem] def Yx(N:Nat):Spec:=p0<|pG<|pI λah=>pI λaa=>pI λay=>pI λaw=>pS Aq λav=>pI λau=>pI λaq=>pI λaf=>pI λab=>pI λae=>pI λan=>pI λam=>pI λak=>pI λaj=>pB λai=>pE<|pE<|pF (Ca N ah aa ay aw av au aq af ab ae an am ak aj ai) false λr=>.b r
theorem U2(N:Nat):AG Tryz.prog 32 (Yx N):=by
 refine Ar x32.ok<|Aw<|Aa λah=>Aa λaa=>Aa λay=>Aa λaw=>AF λav=>Aa λau=>Aa λaq=>Aa λaf=>Aa λab=>Aa λae=>Aa λan=>Aa λam=>Aa λak=>Aa λaj=>AX λai=>Ad<|Ad<|As λr h=>wx x32 (Ab (Acg N)<|Ab (QQ N)<|Ab (ZH N)<|Ab (nY N)<|Aj) λ_ hS F=>?_
 dsimp only[x32,Ah,Aq];unfold Ca at h;obtain⟨bb,cu,h⟩:=un h;replace F:=fc cu F;refine An hS F h (λ_ h=>?_) (λ_ h=>?_)
 ·obtain⟨ce,cr,h⟩:=un h;exact Ai hS (fc cr F) h
 ·refine An hS F h (λ_ h=>?_) (λ_ h=>?_)
  ·obtain⟨b9,cq,h⟩:=un h;exact Ai hS (fc cq F) h
  ·refine An hS F h (λ_ h=>?_) (λ_ h=>?_)
   ·obtain⟨be,co,dl,dh,dg,de,h⟩:=un h;exact Ai hS (fc co F) h
   ·refine An hS F h (λ_ h=>?_) (λ_ h=>?_)
    ·obtain⟨bg,cn,db,da,h⟩:=un h;exact Ai hS (fc cn F) h
    ·refine An hS F h (λ_ h=>?_) (λ_ h=>?_)
     ·obtain⟨b7,ck,h⟩:=un h;exact Ai hS (fc ck F) h
     ·refine An hS F h (λ_ h=>?_) (λ_ h=>?_)
      ·refine An hS F h (λ_ h=>?_) (λ_ h=>?_)
       ·obtain⟨bz,cj,h⟩:=un h;exact Ai hS (fc cj F) h
       ·exact Ai hS F h
      ·refine An hS F h (λ_ h=>?_) (λ_ h=>?_)
       ·obtain⟨bw,ci,h⟩:=un h;exact Ai hS (fc ci F) h
       ·exact Ai hS F h
def HC(N:Nat)(ba:Int)(bf:Int)(bv:Int)(bu:Int)(br:List (Int×Int))(bq:Int)(bp:Int)(az:Int)(bo:Int)(bn:Int)(bi:Int)(bh:Int)(bm:Int)(bl:Int)(bj:Bool):Option ((List Int)×(List Int)):=(Ca N ba bf bv bu br bq bp az bo bn bi bh bm bl bj).bind λcy=>bif !cy then(some ([],[]))else(bif decide (ba=1)then(some ([bf],[]))else(bif decide (ba=3)then(some ([min az bf,max az bf],[]))else(bif decide (ba=5)then(some ([bh],[bi]))else(bif decide (ba=6)then(bif decide (ba=6)then(some ([],[az]))else(some ([az],[])))else(bif decide (ba=7)then(some ([],[az]))else(some ([az],[])))))))
@[go_sem] def Wx(N:Nat):Spec:=p0<|pG<|pI λba=>pI λbf=>pI λbv=>pI λbu=>pS Aq λbr=>pI λbq=>pI λbp=>pI λaz=>pI λbo=>pI λbn=>pI λbi=>pI λbh=>pI λbm=>pI λbl=>pB λbj=>pE<|pE<|pF (HC N ba bf bv bu br bq bp az bo bn bi bh bm bl bj) ([],[]) λr=>.tup [FW r.1,FW r.2]
end
theorem Yo{U Z:Cf}(hf:∀b,Fz U b->Fz Z b)(hw:Z.w=U.w):∀{rows:List (List AV)}{es:List MapEntry},(∀r∈rows,AP r=true)->RepEnts U rows es->RepEnts Z rows es
 |[],_,_,h=>h
 |r::rs,_,hp,⟨e,es,h1,h2,h3⟩=>⟨e,es,h1,RepL.ofPure hf (λ_ _=>by rw[hw]) _ _ (hp r (by simp)) h2,Yo hf hw (λr hr=>hp r (by simp[hr])) h3⟩
theorem Ub{P:Program}{S:Tab}(hS:TabOK P S){f:Nat}(x:FnX P f){args:List AV}{rows:List (List AV)}(hn:args.length<=x.nt)(h:∀hb,Ax (Ctx.fn P S x.nt hb) x.c (Bk x.rv λr s=>∃n,r=.mp n/\hl s.hp (.c n 0)=some (ME rows)) ⟨BQ 0 args,[],0⟩):GCall P f args (λn=>[(.c n 0,ME rows)]) .mp:=by
 intro U hp vs nm hgl hI0 hnm hp hx;have hgt:Gl U.fresh:=λb j hj=>⟨⟨λh=>h,by rintro(h|h);exact(hgl b j hj).1.1 h;exact(hgl b j hj).1.2.1 h,(hgl b j hj).1.2.2⟩,(hgl b j hj).2⟩
 have hx':RepL U.fresh args vs:=RepL.ofPure (U:=U) (σ':=U.fresh) (λb hb=>⟨λh=>h,by rintro(h|h);exact hb.1 h;exact hb.2.1 h,hb.2.2⟩) (λ_ _=>rfl) args vs hp hx;have hI:HInv U.fresh []:=by refine⟨λn=>rfl,λn j c h=>by simp[hl]at h,λn sz live rows d h=>by simp[hl]at h,?_,λb h=>h.elim,λb hb=>hb.elim (hI0.lt b) (hI0.ou b),λb h=>h.elim⟩;rintro p q b (⟨_,_,j,c,h⟩|⟨_,⟨_,_,_,h⟩,_⟩) _<;>simp[hl]at h
 refine callsIn_wide.1 ((Jw hS x.hf x.hc x.hn hn hgt hI (cnt:=0) (λm hm=>hm.elim) hx' (h _)).mono ?_);rintro en w' ⟨v,Z,s,r,rfl,rfl,e,g1,g2,g3,n,rfl,k1⟩;obtain⟨m1,m2,es,m3,m4,m5,m6⟩:=MapF.of g1 k1;have hO:Z.O=U.fresh.O:=e.out;have hb:U.w.heap.size<=Z.rb n:=by
  rcases If (Z.rb n) U.w.heap.size with hh|hh
  ·exact absurd m2 (e.fro _ _ (kC hh) (λh=>h)).2
  ·exact hh
 obtain⟨_,q1,q2⟩:=hI0.newMap hnm (λb o hb=>(e.fro b o hb (λh=>h)).1) e.io hb m3 m4 (Yo (U:=Z) (Z:=U.plus (Z.rb n) Z.w) (λb hb=>by have h1:=hb.2.1;rw[hO]at h1;exact⟨by rintro(h|rfl);exact h1 (.inl h);exact hb.1 m2,λh=>h1 (.inr h),hb.2.2⟩) rfl m4 m5) m6;refine⟨_,_,rfl,⟨q1,q2,rfl,λm hm=>hm⟩,.inr rfl,?_⟩;rw[g3.2];simp[Cf.named]
def Wj(x:AV):List AV->AV|[]=>x|l=>.agg (l++[x])
theorem Sz:∀xs ys:List AV,AP (xs++ys)=(AP xs&&AP ys)
 |[],_=>rfl
 |x::xs,ys=>by simp only[sW,AP,Sz xs ys,Bool.and_assoc]
theorem SA:∀{rows:List (List AV)},(∀r∈rows,AP r=true)->AP rows.flatten=true
 |[],_=>rfl
 |r::rs,h=>by rw[yI,Sz,h r (by simp),Jy];exact SA λr hr=>h r (by simp[hr])
theorem Uc{P:Program}{S:Tab}(hS:TabOK P S){f:Nat}(x:FnX P f){args pre d:List AV}{sz:Nat}{rows:List (List AV)}(hn:args.length<=x.nt)(hro:∀r∈rows,AP r=true)(h:∀hb,Ax (Ctx.fn P S x.nt hb) x.c (Bk x.rv λr s=>∃n pr,r=Wj (.own n rows.length) pr/\hl s.hp (.a n)=some (.sl sz true rows d)/\Ej s.hp pr/\Ft pr=true/\XR n (B5 pr)/\Ib (D5 s.hp pr) pre/\AP (D5 s.hp pr)=true) ⟨BQ 0 args,[],0⟩):GCall P f args (λn=>[(.a n,.sl sz true rows d)]) (λn=>Wj (.own n rows.length) pre):=by
 intro U hpc vs nm hgl hI0 hnm hp hx;have hgt:Gl U.fresh:=λb j hj=>⟨⟨λh=>h,by rintro(h|h);exact(hgl b j hj).1.1 h;exact(hgl b j hj).1.2.1 h,(hgl b j hj).1.2.2⟩,(hgl b j hj).2⟩
 have hx':RepL U.fresh args vs:=RepL.ofPure (U:=U) (σ':=U.fresh) (λb hb=>⟨λh=>h,by rintro(h|h);exact hb.1 h;exact hb.2.1 h,hb.2.2⟩) (λ_ _=>rfl) args vs hp hx;have hI:HInv U.fresh []:=by refine⟨λn=>rfl,λn j c h=>by simp[hl]at h,λn sz live rows d h=>by simp[hl]at h,?_,λb h=>h.elim,λb hb=>hb.elim (hI0.lt b) (hI0.ou b),λb h=>h.elim⟩;rintro p q b (⟨_,_,j,c,h⟩|⟨_,⟨_,_,_,h⟩,_⟩) _<;>simp[hl]at h
 refine callsIn_wide.1 ((Jw hS x.hf x.hc x.hn hn hgt hI (cnt:=0) (λm hm=>hm.elim) hx' (h _)).mono ?_);rintro en w' ⟨v,Z,s,r,rfl,rfl,e,g1,g2,g3,n,pr,rfl,k1,k2,k0,k3,k4,k5⟩;have hO:Z.O=U.fresh.O:=e.out;have hold:∀(b:Nat)(o:Obj),U.w.heap[b]? =some o->Z.w.heap[b]? =some o:=λb o hb=>(e.fro b o hb (λh=>h)).1
 have hnew:∀b,Z.M b->U.w.heap.size<=b:=λb hb=>by
  rcases If b U.w.heap.size with hh|hh
  ·exact absurd hb (e.fro _ _ (kC hh) (λh=>h)).2
  ·exact hh
 obtain⟨a1,a2,a3,a4⟩:=g1.arr n sz true rows d k1;obtain⟨B,hB⟩:∃B:Nat->Prop,B=λb=>Owns Z s.hp (true,n) b:=⟨_,rfl⟩
 have hBM:∀b,B b->Z.M b:=λb hb=>by rw[hB]at hb;exact(Owns.M g1 hb).1
 let μ:Cf:={Z with M:=B}
 have e2:Evo Z μ:=⟨λ_ h=>⟨h,rfl⟩,λ_ _ l h=>⟨l,h,jW _,λ_=>rfl⟩,λb _ h hM=>⟨h,λhb=>hM (hBM b hb)⟩,rfl,jW _,SameO.refl _⟩
 let σ':Cf:=U.setArr nm (Z.ra n) (λb=>U.M b\/B b) rows.length Z.w
 have ev:Evo U σ':=Evo.setArr (.inl hnm) (λb o hb hM=>⟨hold b o hb,by
  rintro(h|h)
  ·exact hM h
  ·have:=hnew b (hBM b h);have:=(fW.1 hb).1;omega⟩) (M0 hold) e.io
 have hf:∀b,Fz μ b->Fz σ' b:=λb hb=>by have h1:=hb.2.1;rw[show μ.O=_ from hO]at h1;exact⟨by rintro(h|h);exact h1 (.inl h);exact hb.1 h,λh=>h1 (.inr h),hb.2.2⟩
 have hrows:∀b o,RepRows Z sz b o rows->RepRows σ' sz b o rows:=λb o hr=>by obtain⟨vals,v1,v2,v3,v4,v5⟩:=Im hr;exact Dl (RepL.ofPure hf (λ_ _=>rfl) _ _ (SA hro) (RepL.mono e2 _ _ v1)) v2 v3 v4
 have harr:ArrF σ' nm sz true rows:=by
  refine⟨.inr rfl,a2,λ_=>hro,?_⟩;have hra:σ'.ra nm=Z.ra n:=by simp[σ',Cf.setArr]
  rcases a4 with⟨a,a4,a5⟩|⟨b,o,cap,a4,a5,a6,a7,a8,a9⟩
  ·exact .inl ⟨a,by rw[hra];exact a4,a5⟩
  ·refine .inr ⟨b,o,cap,by rw[hra];exact a4,a5,a6,hrows b o a7,λ_=>⟨.inr ?_,(a8 rfl).2⟩,by simp⟩;rw[hB];exact .inr ⟨rfl,⟨sz,rows,d,k1⟩,o,cap,a4,a5⟩
 have hi:HInv σ' ((.a nm,.sl sz true rows d)::hpc):=by
  refine hI0.setArr ev (λx hx _=>⟨.inl hx,?_⟩) harr (λ_ b o cap h1 h2=>.inr (hnew b (hBM b ?_))) (λb hb=>?_) (M0 hold) (λb hb hn=>?_)
  ·have:=hI0.lt x hx;rw[kC this];exact hold x _ (kC this)
  ·rw[hB];exact .inr ⟨rfl,⟨sz,rows,d,k1⟩,o,cap,h1,h2⟩
  ·rcases hb with hb|hb
   ·exact uI (hI0.lt b hb) (M0 hold)
   ·exact g1.lt b (hBM b hb)
  ·rcases hb with hb|hb
   ·exact absurd hb hn
   ·exact hnew b (hBM b hb)
 have hown:∀y,Rep Z (.own n rows.length) y->Rep σ' (.own nm rows.length) y:=λy hy=>by have h1:=Hi g1 k1 hy rfl;refine⟨.inr rfl,hy.2.1,λl hl'=>?_⟩;simp[σ',Cf.setArr]at hl';subst hl';exact⟨jW _,λ_=>by rw[h1];simp[σ',Cf.setArr]⟩
 refine⟨v,σ',rfl,⟨ev,hi,rfl,λm hm=>hm⟩,?_⟩;have key:∀xs,RepL Z pr xs->RepL σ' pre xs:=λxs hxs=>by
  obtain⟨q1,q2⟩:=GY (U:=μ) (D5 s.hp pr) pre xs k4;refine RepL.ofPure (U:=μ) hf (λ_ _=>rfl) _ _ (q1 k5) (q2 (Hj g1 e2 rfl (B5 pr) (λm hm b ho hb=>?_) pr xs k2 k0 (λ_ h=>h) hxs));have hb:B b:=hb;rw[hB]at hb;have:=g1.inj (true,m) (true,n) b ho hb;cases this
  exact RA k3 hm
 cases hpr:pr with
 |nil=>
  subst hpr;have:pre=[]:=by
   simp only[D5]at k4;cases pre with
   |nil=>rfl
   |cons y ys=>exact k4.elim
  subst this;exact hown v g3
 |cons p0 ps=>
  have hpre:∃q qs,pre=q::qs:=by
   rw[hpr]at k4;simp only[D5]at k4;cases pre with
   |nil=>exact k4.elim
   |cons y ys=>exact⟨y,ys,rfl⟩
  obtain⟨q,qs,rfl⟩:=hpre;rw[hpr]at g3;simp only[Wj,Rep]at g3⊢;obtain⟨xs,rfl,o1,r1⟩:=g3;obtain⟨us,zs,rfl,u1,u2⟩:=HP r1;simp only[RepL]at u2;obtain⟨y,_,rfl,hy,rfl⟩:=u2;refine⟨_,rfl,o1,Ds (key us (by rw[hpr];exact u1)) ?_⟩;simp only[RepL];exact⟨y,[],rfl,hown y hy,rfl⟩
structure LkB(hp:Hp)(cnt:Nat)(args:List AV):Prop where
 a:∀n o,AV.box n o∈args->n.2<=cnt
 h:∀n j x,hl hp (.c n j)=some x->n.2<=cnt
def LkE(hp hp':Hp):Prop:=∀l x,hl hp l=some x->hl hp' l=some x
theorem lkb{U:Cf}{hp:Hp}{cnt:Nat}{args:List AV}{xs:List Value}(hI:HInv U hp)(hal:∀m,U.al m->m.2<=cnt)(hx:RepL U args xs):LkB hp cnt args:=by refine⟨λn o hm=>?_,λn j x h=>hal _ (hI.cel n j x h).1⟩;obtain⟨i,hi⟩:=List.getElem?_of_mem hm;obtain⟨y,_,hy⟩:=Dr hx i _ hi;exact hal _ hy.1
theorem bY{P:Program}{S:Tab}(hS:TabOK P S){f:Nat}(x:FnX P f){args vs:List AV}{r:AV}(hfl:B2 r=true)(hn:args.length<=x.nt)(h:∀hb hp cnt,LkB hp cnt args->args.map (qv hp)=vs->Ax (Ctx.fn P S x.nt hb) x.c (Bk x.rv λr' s=>wk r' r/\LkE hp s.hp) ⟨BQ 0 args,hp,cnt⟩):IA P f args vs r:=by intro U hp xs gl hI hal hx hv;obtain⟨cnt,hal⟩:=hal;refine callsIn_wide.1 ((Jw hS x.hf x.hc x.hn hn gl hI hal hx (h _ hp cnt (lkb hI hal hx) hv)).mono ?_);rintro en w' ⟨v,Z,s,r',rfl,rfl,e,g1,g2,g3,g4,g5⟩;obtain⟨e2,g1⟩:=g1.sub g5;have e:=e.trans e2;exact⟨v,{Z with ln:=lenOf hp,al:=U.al},rfl,rfl,⟨λn hn=>⟨hn,(e.box n hn).2⟩,e.arr,e.fro,e.out,e.sz,e.io⟩,hI.fgt g1,λm hm=>hm,Rep.ofPure (U:=Z) (σ':={Z with ln:=lenOf hp,al:=U.al}) (λ_ h=>h) (λ_ _=>rfl) r v hfl (KH r' r v g4 g3)⟩
theorem jH{P:Program}{S:Tab}(hS:TabOK P S){f:Nat}(x:FnX P f){args vs:List AV}{v:Value}(hn:args.length<=x.nt)(h:∀hb hp cnt,LkB hp cnt args->args.map (qv hp)=vs->Ax (Ctx.fn P S x.nt hb) x.c (E3 x.rv (λ_ _=>False) λv' s=>v'=v/\LkE hp s.hp) ⟨BQ 0 args,hp,cnt⟩):QD P f args vs v:=by
 intro U hp xs gl hI hal hx hv;obtain⟨cnt,hal⟩:=hal;refine callsIn_wide.1 ((NV hS x.hf x.hc x.hn hn gl hI hal hx (h _ hp cnt (lkb hI hal hx) hv)).mono ?_);rintro en w' (⟨_,_,_,_,_,_,_,_,_,_,hF⟩|⟨v,Z,s,rfl,rfl,e,g1,g2,rfl,g5⟩)
 ·exact hF.elim
 ·obtain⟨e2,g1⟩:=g1.sub g5;have e:=e.trans e2;exact⟨{Z with ln:=lenOf hp,al:=U.al},rfl,rfl,⟨λn hn=>⟨hn,(e.box n hn).2⟩,e.arr,e.fro,e.out,e.sz,e.io⟩,hI.fgt g1,λm hm=>hm⟩
theorem BN{P:Program}{S:Tab}{nt hb:Nat}(hS:TabOK P S)(i:Nat){rid:Nat}{ops post:List AOp}{d:Option Nat}{g:Option (Nat×Bool)}{k:AK}{Q:AE->St->Prop}{e e1:Az}{h h1:Hp}{c:Nat}{vc:Prop}{f:Nat}{args:List AV}{fn:Func}{ac:AC}{rvs:List RV}{ntf:Nat}(hf:P.funcs[f]? =some fn)(hcf:Du P fn=some (ac,rvs))(hnt:fn.ntmps=ntf)(hok:Dh P f)(hyo:ops[i]? =some ⟨d,g,k⟩)(hpost:ops.drop (i+1)=post)(hex:Bg S (c+1) (100*rid) (ops.take i) e h=some (vc,e1,h1))(hvc:vc)(hg:Ei e1 g=some true)(hca:EU e1 k=some (f,args))(hn:args.length<=ntf)(hbody:∀hb,Ax (Ctx.fn P S ntf hb) ac (E3 rvs (AY S rid i d post e1 Q) λv s=>Q (.p v) ⟨e1,s.hp,s.cnt⟩) ⟨BQ 0 args,h1,c+1⟩):Ax (Ctx.fd P S nt hb) (.reg rid ops) Q ⟨e,h,c⟩:=by subst hpost;exact Wi (Ctx.fd_ok hS) i hf hcf hnt hok hyo hex hvc hg hca hn hbody
def Oa(l:List (Nat×Spec))(q:Nat->List AV->List AV->Option (Prop×AV))(k:Nat->List AV->Option (Prop×(Nm->Hp)×(Nm->AV)))(o:Nat->Nat->List (List AV)->List AV->Option (Prop×List (List AV)))(y:Nat->List AV->List AV->Option (Prop×Value)):Tab:=⟨J9 l,false,false,P6,T9,q,k,o,y⟩
section
variable{l:List (Nat×Spec)}{q:Nat->List AV->List AV->Option (Prop×AV)}{k:Nat->List AV->Option (Prop×(Nm->Hp)×(Nm->AV))}{o:Nat->Nat->List (List AV)->List AV->Option (Prop×List (List AV))}{y:Nat->List AV->List AV->Option (Prop×Value)}
theorem xE:(Oa l q k o y).f=J9 l:=rfl
theorem xF:(Oa l q k o y).w=false:=rfl
theorem xG:(Oa l q k o y).m=false:=rfl
theorem xH:(Oa l q k o y).e=P6:=rfl
theorem xI:(Oa l q k o y).p=T9:=rfl
theorem xJ:(Oa l q k o y).q=q:=rfl
theorem xK:(Oa l q k o y).k=k:=rfl
theorem xL:(Oa l q k o y).o=o:=rfl
theorem xM:(Oa l q k o y).y=y:=rfl
theorem BG{P:Program}(h:TabOK P (Gs l))(hq:∀f args vs vc r,q f args vs=some (vc,r)->vc->Dh P f/\IA P f args vs r)(hk:∀f args vc ws g,k f args=some (vc,ws,g)->vc->Dh P f/\GCall P f args ws g)(ho:∀f sz rows ax vc rows',o f sz rows ax=some (vc,rows')->vc->Dh P f/\K4 P f sz rows ax rows'/\∀r∈rows',r.length=sz/\AP r=true)(hy:∀f args vs vc v,y f args vs=some (vc,v)->vc->Dh P f/\QD P f args vs v):TabOK P (Oa l q k o y):=⟨h.f,h.e,h.p,hq,hk,hy,ho⟩
end
attribute [go_sem] xE xF xG xH xI xJ xK xL xM
