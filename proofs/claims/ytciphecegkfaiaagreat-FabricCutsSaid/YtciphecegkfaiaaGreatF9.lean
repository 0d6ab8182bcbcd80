import Derived.Test.YtciphecegkfaiaaGreatF2
import Derived.Test.YtciphecegkfaiaaGreatE6
import Derived.Test.YtciphecegkfaiaaGreatDR
import Derived.Test.YtciphecegkfaiaaGreatA25
namespace Go.Proofs.YtciphecegkfaiaaGreat.Am
open Go
attribute [local irreducible] awp B5 BR Bx B3 Bw Bn BS B1 itK
set_option maxRecDepth 100000
set_option maxHeartbeats 8000000
set_option linter.unusedSimpArgs false
set_option linter.unusedVariables false
def BZ (N:Nat) (ak:Int) (f1:List (Int×Int×Int×(List (Int×Int))×Int×Int)) (x18:Int) (x19:Int) (x20:Int) (x21:List (Int×Int)) (x22:Int) (x23:Int):Nat→Int→Option (Sum Unit Bool)
 |0,_=>none
 |n+1,e9=>
  bif decide (e9<ak) then(
   (nth f1 e9).bind fun(x39,x40,x41,x42,x43,x44)=>
   (DF N x18 x19 x20 x21 x22 x23 x39 x40 x41 x42 x43 x44).bind fun lj=>
   bif lj then(
    some (.inr false))
   else(
    gd (I64 (e9+1))<|
    BZ N ak f1 x18 x19 x20 x21 x22 x23 n (e9+1)))
  else(
   some (.inl ()))
def B0 (N:Nat) (f1:List (Int×Int×Int×(List (Int×Int))×Int×Int)):Nat→Int→Option (Sum Unit Bool)
 |0,_=>none
 |n+1,ak=>
  bif decide (ak<(f1.length:Int)) then(
   (nth f1 ak).bind fun(x18,x19,x20,x21,x22,x23)=>
   (Bs N x18 x19 x20 x21 x22 x23).bind fun lm=>
   gd ((decide (0<ak))=true→(I64 (ak-1)))<|
   gd ((decide (0<ak))=true→(0≤ak-1∧ak-1<(f1.length:Int)))<|
   bif (!lm)||((decide (0<ak))&&(decide (x18≤(f1.getD (ak-1).toNat (0,0,0,[],0,0)).1))) then(
    some (.inr false))
   else(
    (BZ N ak f1 x18 x19 x20 x21 x22 x23 N 0).bind fun ki=>match ki with
     | .inl ()=>(
      gd (I64 (ak+1))<|
      B0 N f1 n (ak+1))
     | .inr me=>(
      some (.inr me))))
  else(
   some (.inl ()))
def Bp (N:Nat) (f1:List (Int×Int×Int×(List (Int×Int))×Int×Int)):Option Bool:=
 bif decide (12<(f1.length:Int)) then(
  some false)
 else(
  (B0 N f1 N 0).bind fun kg=>match kg with
   | .inl ()=>(
    some true)
   | .inr mb=>(
    some mb))
@[go_sem] def s55 (N:Nat):Spec:=p0<|pG<|pD Ak fun f1=>pE<|pE<|pF (Bp N f1) false fun r=> .b r
theorem JR (N:Nat):FOK Tryz.prog 55 (s55 N):=by
 refine Al x55.ok<|AW<|CQ fun f1=>Ah<|Ah<|An fun r h=>wx x55 (Aa (Kg N)<|Aa (gS N)<|Aj) fun _ hS F=> ?_
 dsimp only[x55,mkX,Ak]
 unfold Bp at h
 refine gcb hS F h (fun _ h=> ?_) (fun _ h=> ?_)
 ·exact Ad hS F h
 ·obtain⟨kg,bj,h⟩:=un h
  refine go hS F ?_
  refine Au kg (fun z:Nat=>⟨[],[],z⟩) (fun z=>(.inl ():Sum Unit Bool)) (.x 0) ?_ ?_
  ·refine Aq (fun n (y:Int×Nat)=>B0 N f1 n y.1) (fun y=>⟨[(1,.box (0,1) 0),(3,.i y.1)],[(.c (0,1) 0,Af f1)],y.2⟩) (0,3) bj (leF F) ?_
   rintro n ⟨ak,ma⟩ aa
   simp only[B0] at aa
   refine gcb hS F aa (fun _ aa=> ?_) (fun _ aa=> ?_)
   ·obtain⟨⟨x18,x19,x20,x21,x22,x23⟩,kw,aa⟩:=un aa
    obtain⟨mz,F⟩:=rqG Ai kw F
    obtain⟨lm,kq,jw,jd,aa⟩:=un aa
    replace F:=fc kq F
    refine gcb hS F aa (fun _ aa=> ?_) (fun _ aa=> ?_)
    ·obtain rfl:=yJ aa
     exact Ad hS F h
    ·obtain⟨ki,m8,aa⟩:=un aa
     refine go hS F ?_
     refine Au ki (fun z:Nat=>⟨[(1,.box (0,1) 0),(3,.i ak)],[(.c (0,1) 0,Af f1)],z⟩) (fun z=>(.inl ():Sum Unit Bool)) (.x 2) ?_ ?_
     ·refine Aq (fun n (y:Int×Nat)=>BZ N ak f1 x18 x19 x20 x21 x22 x23 n y.1) (fun y=>⟨[(1,.box (0,1) 0),(3,.i ak),(4,.i y.1)],[(.c (0,1) 0,Af f1)],y.2⟩) (0,ma+1+1+1) m8 (leF F) ?_
      rintro n ⟨e9,l7⟩ be
      simp only[BZ] at be
      refine gcb hS F be (fun _ be=> ?_) (fun _ be=> ?_)
      ·obtain⟨⟨x39,x40,x41,x42,x43,x44⟩,kv,be⟩:=un be
       obtain⟨my,F⟩:=rqG Ai kv F
       obtain⟨lj,km,be⟩:=un be
       replace F:=fc km F
       refine gcb hS F be (fun _ be=> ?_) (fun _ be=> ?_)
       ·obtain rfl:=yJ be
        obtain rfl:=yJ aa
        exact Ad hS F h
       ·obtain⟨nu,be⟩:=un be
        exact gbk hS F (n,e9+1,l7+1+1+1) be
      ·exact gck hS F (l7+1) be
     ·rintro nb rfl
      obtain⟨mg,aa⟩:=un aa
      exact gbk hS F (n,ak+1,nb+1) aa
   ·exact gck hS F (ma+1) aa
  ·rintro nv rfl
   exact Ad hS F h
def CF (N:Nat) (f58:List (Int×Int×Int×(List (Int×Int))×Int×Int)) (aj:Int):Nat→Int→Option (Sum Unit (((Int×Int×Int×(List (Int×Int))×Int×Int)×Bool)))
 |0,_=>none
 |n+1,i83=>
  bif decide (i83<(f58.length:Int)) then(
   (nth f58 i83).bind fun(x84,x85,x86,x87,x88,lg)=>
   gd ((decide (x84=aj))=true→((Bp N f58).isSome=true))<|
   bif (decide (x84=aj))&&((Bp N f58).getD false) then(
    (BM N x84 x85 x86 x87 x88 lg).bind fun(li,lh,i8,r101,i7,i6)=>
    some (.inr ((li,lh,i8,r101,i7,i6),true)))
   else(
    gd (I64 (i83+1))<|
    CF N f58 aj n (i83+1)))
  else(
   some (.inl ()))
def Ff (N:Nat) (f58:List (Int×Int×Int×(List (Int×Int))×Int×Int)) (aj:Int):Option ((Int×Int×Int×(List (Int×Int))×Int×Int)×Bool):=
 (CF N f58 aj N 0).bind fun d5=>match d5 with
  | .inl ()=>(
   some ((0,0,0,[],0,0),false))
  | .inr j9=>(
   some j9)
@[go_sem] def s61 (N:Nat):Spec:=p0<|pG<|pD Ak fun f58=>pE<|pI fun aj=>pE<|pF (Ff N f58 aj) ((0,0,0,[],0,0),false) fun r=> .tup [.agg [.i r.1.1,.i r.1.2.1,.i r.1.2.2.1,A1 r.1.2.2.2.1,.i r.1.2.2.2.2.1,.i r.1.2.2.2.2.2],.b r.2]
def D1 (N:Nat) (f110:List (Int×Int×Int×(List (Int×Int))×Int×Int)) (ae:Int):Nat→Int→(List (Int×Int×Int×(List (Int×Int))×Int×Int))→Option ((List (Int×Int×Int×(List (Int×Int))×Int×Int)))
 |0,_,_=>none
 |n+1,an,l168=>
  bif decide (an<(f110.length:Int)) then(
   (nth f110 an).bind fun(x169,ig,x171,Yc,ie,ic)=>
   bif decide (x169≠ae) then(
    (BM N x169 ig x171 Yc ie ic).bind fun(dw,du,dt,dq,dp,dm)=>
    gd ((l168.length+1)*64≤140737488355328)<|
    gd (I64 (an+1))<|
    D1 N f110 ae n (an+1) (l168++[(dw,du,dt,dq,dp,dm)]))
   else(
    gd (I64 (an+1))<|
    D1 N f110 ae n (an+1) l168))
  else(
   some l168)
def IS (N:Nat) (f110:List (Int×Int×Int×(List (Int×Int))×Int×Int)) (ae:Int):Option ((List (Int×Int×Int×(List (Int×Int))×Int×Int))×Int):=
 (Ff N f110 ae).bind fun((j8,j7,j6,j5,jz,jy),iz)=>
 bif !iz then(
  some ([],120))
 else(
  (D1 N f110 ae N 0 []).bind fun jc=>
  some (jc,0))
@[go_sem] def s62 (N:Nat):Spec:=p0<|pG<|pD Ak fun f110=>pE<|pI fun ae=>pE<|pF (IS N f110 ae) ([],0) fun r=> .tup [.agg [Af r.1],.i r.2]
def EN (N:Nat) (f196:List (Int×Int×Int×(List (Int×Int))×Int×Int)):Nat→Int→Int→Option Int
 |0,_,_=>none
 |n+1,bg,bi=>
  bif decide (bi<(f196.length:Int)) then(
   (nth f196 bi).bind fun(g9,g8,gz,gy,gx,gw)=>
   (Er N g9 g8 gz gy gx gw).bind fun bm=>
   gd (I64 (bg+bm))<|
   gd (I64 (bi+1))<|
   EN N f196 n (bg+bm) (bi+1))
  else(
   some bg)
def Iu (N:Nat) (f196:List (Int×Int×Int×(List (Int×Int))×Int×Int)):Option Int:=
 (Bp N f196).bind fun iy=>
 bif !iy then(
  some 0)
 else(
  (EN N f196 N 0 0).bind fun i9=>
  some i9)
@[go_sem] def s56 (N:Nat):Spec:=p0<|pG<|pD Ak fun f196=>pE<|pE<|pF (Iu N f196) 0 fun r=> .i r
def Fq (N:Nat) (f227:List (Int×Int×Int×(List (Int×Int))×Int×Int)) (ah:Int) (af:Int):Nat→Int→(List (Int×Int×Int×(List (Int×Int))×Int×Int))→Option (Sum ((List (Int×Int×Int×(List (Int×Int))×Int×Int))) (((List (Int×Int×Int×(List (Int×Int))×Int×Int))×Int)))
 |0,_,_=>none
 |n+1,bh,l268=>
  bif decide (bh<(f227.length:Int)) then(
   (nth f227 bh).bind fun(gu,gt,gj,gi,gh,gf)=>
   (Fe N gu gt gj gi gh gf ah af).bind fun((dl,dh,dg,r279,de,db),iv)=>
   bif decide (iv≠0) then(
    some (.inr ([],120)))
   else(
    gd ((l268.length+1)*64≤140737488355328)<|
    gd (I64 (bh+1))<|
    Fq N f227 ah af n (bh+1) (l268++[(dl,dh,dg,r279,de,db)])))
  else(
   some (.inl l268))
def Ju (N:Nat) (f227:List (Int×Int×Int×(List (Int×Int))×Int×Int)) (ah:Int) (af:Int):Option ((List (Int×Int×Int×(List (Int×Int))×Int×Int))×Int):=
 (Bp N f227).bind fun iw=>
 bif !iw then(
  some ([],120))
 else(
  (Fq N f227 ah af N 0 []).bind fun dz=>match dz with
   | .inl jb=>(
    some (jb,0))
   | .inr jx=>(
    some jx))
@[go_sem] def s63 (N:Nat):Spec:=p0<|pG<|pD Ak fun f227=>pE<|pI fun ah=>pI fun af=>pE<|pF (Ju N f227 ah af) ([],0) fun r=> .tup [.agg [Af r.1],.i r.2]
def Dy (N:Nat) (f291:List (Int×Int×Int×(List (Int×Int))×Int×Int)) (bb:Int) (az:Int) (ay:Int) (aw:List (Int×Int)) (av:Int) (au:Int):Nat→Int→(List (Int×Int×((Int×Int)×(Int×Int))×Int×Int))→Option ((List (Int×Int×((Int×Int)×(Int×Int))×Int×Int)))
 |0,_,_=>none
 |n+1,am,l553=>
  bif decide (am<(f291.length:Int)) then(
   (nth f291 am).bind fun(gc,fq,fj,fh,fg,fb)=>
   (EW N bb az ay aw av au gc fq fj fh fg fb).bind fun((bz,bw,((bv,bu),(br,bq)),bp,bo),ij)=>
   bif ij then(
    gd ((l553.length+1)*64≤140737488355328)<|
    gd (I64 (am+1))<|
    Dy N f291 bb az ay aw av au n (am+1) (l553++[(bz,bw,((bv,bu),(br,bq)),bp,bo)]))
   else(
    gd (I64 (am+1))<|
    Dy N f291 bb az ay aw av au n (am+1) l553))
  else(
   some l553)
def EB (N:Nat) (f291:List (Int×Int×Int×(List (Int×Int))×Int×Int)):Nat→Int→(List (Int×Int×((Int×Int)×(Int×Int))×Int×Int))→Option ((List (Int×Int×((Int×Int)×(Int×Int))×Int×Int)))
 |0,_,_=>none
 |n+1,ai,l468=>
  bif decide (ai<(f291.length:Int)) then(
   (nth f291 ai).bind fun(bb,az,ay,aw,av,au)=>
   (DV N bb az ay aw av au).bind fun((cz,cy,((cu,cr),(cq,co)),ce,b9),ip)=>
   (bif ip then(
     gd ((l468.length+1)*64≤140737488355328)<|
     some (l468++[(cz,cy,((cu,cr),(cq,co)),ce,b9)]))
    else(
     some l468):Option ((List (Int×Int×((Int×Int)×(Int×Int))×Int×Int)))).bind fun d7=>
   gd (I64 (ai+1))<|
   (Dy N f291 bb az ay aw av au N (ai+1) d7).bind fun d6=>
   gd (I64 (ai+1))<|
   EB N f291 n (ai+1) d6)
  else(
   some l468)
def E5 (N:Nat) (f291:List (Int×Int×Int×(List (Int×Int))×Int×Int)):Option (List (Int×Int×((Int×Int)×(Int×Int))×Int×Int)):=
 (Bp N f291).bind fun iq=>
 bif !iq then(
  some [])
 else(
  (EB N f291 N 0 []).bind fun ja=>
  some ja)
@[go_sem] def s57 (N:Nat):Spec:=p0<|pG<|pD Ak fun f291=>pE<|pE<|pF (E5 N f291) [] fun r=>BD r
end Go.Proofs.YtciphecegkfaiaaGreat.Am
namespace Go.Proofs.YtciphecegkfaiaaGreat.Am
open Go
attribute [local irreducible] awp B5 BR Bx B3 Bw Bn BS B1 itK
set_option maxRecDepth 100000
set_option maxHeartbeats 8000000
set_option linter.unusedSimpArgs false
set_option linter.unusedVariables false
def DX (N:Nat) (f1:List (Int×Int×Int×(List (Int×Int))×Int×Int)) (u2:Int) (u3:Int) (u4:Int) (u5:List (Int×Int)) (u6:Int) (u7:Int):Nat→Bool→Int→(List (Int×Int×Int×(List (Int×Int))×Int×Int))→Option (Bool×(List (Int×Int×Int×(List (Int×Int))×Int×Int)))
 |0,_,_,_=>none
 |n+1,aa,i83,l84=>
  bif decide (i83<(f1.length:Int)) then(
   gd ((!aa)=true→(0≤i83∧i83<(f1.length:Int)))<|
   (bif (!aa)&&(decide (u2<(f1.getD i83.toNat (0,0,0,[],0,0)).1)) then(
     (BM N u2 u3 u4 u5 u6 u7).bind fun(bp,bo,bm,bj,bi,bh)=>
     gd ((l84.length+1)*64≤140737488355328)<|
     some (true,l84++[(bp,bo,bm,bj,bi,bh)]))
    else(
     some (aa,l84)):Option (Bool×(List (Int×Int×Int×(List (Int×Int))×Int×Int)))).bind fun(ae,l115)=>
   (nth f1 i83).bind fun(x117,x118,bu,br,x121,x122)=>
   (BM N x117 x118 bu br x121 x122).bind fun(bg,be,bb,az,ay,aw)=>
   gd ((l115.length+1)*64≤140737488355328)<|
   gd (I64 (i83+1))<|
   DX N f1 u2 u3 u4 u5 u6 u7 n ae (i83+1) (l115++[(bg,be,bb,az,ay,aw)]))
  else(
   some (aa,l84))
def FB (N:Nat) (f1:List (Int×Int×Int×(List (Int×Int))×Int×Int)) (u2:Int) (u3:Int) (u4:Int) (u5:List (Int×Int)) (u6:Int) (u7:Int):Option ((List (Int×Int×Int×(List (Int×Int))×Int×Int))×Int):=
 (Bp N f1).bind fun r8=>
 bif !r8 then(
  some ([],120))
 else(
  (DX N f1 u2 u3 u4 u5 u6 u7 N false 0 []).bind fun(ah,l137)=>
  (bif !ah then(
    (BM N u2 u3 u4 u5 u6 u7).bind fun(av,au,aq,an,am,ak)=>
    gd ((l137.length+1)*64≤140737488355328)<|
    some (l137++[(av,au,aq,an,am,ak)]))
   else(
    some l137):Option ((List (Int×Int×Int×(List (Int×Int))×Int×Int)))).bind fun bq=>
  (Bp N bq).bind fun bv=>
  bif !bv then(
   some ([],120))
  else(
   some (bq,0)))
@[go_sem] def s49 (N:Nat):Spec:=p0<|pG<|pD Ak fun f1=>pE<|pG<|pI fun u2=>pI fun u3=>pI fun u4=>pD Ap fun u5=>pI fun u6=>pI fun u7=>pE<|pE<|pF (FB N f1 u2 u3 u4 u5 u6 u7) ([],0) fun r=> .tup [.agg [Af r.1],.i r.2]
theorem mF (N:Nat):FOK Tryz.prog 49 (s49 N):=by
 refine Al x49.ok<|AW<|CQ fun f1=>Ah<|AW<|Ac fun u2=>Ac fun u3=>Ac fun u4=>CQ fun u5=>Ac fun u6=>Ac fun u7=>Ah<|Ah<|An fun r h=>wx x49 (Aa (JR N)<|Aa (QV N)<|Aj) fun _ hS F=> ?_
 dsimp only[x49,mkX,Ap,Ak]
 unfold FB at h
 obtain⟨r8,dg,h⟩:=un h
 replace F:=fc dg F
 refine gcb hS F h (fun _ h=> ?_) (fun _ h=> ?_)
 ·exact Ad hS F h
 ·refine go hS F ?_
  refine DR 1000001 (300,3) 0 6 [.i 0,.i 0,.i 0,.sl 0 true [] [],.i 0,.i 0] (by omega) (ev F) ?_
  obtain⟨cu,dh,h⟩:=un h
  refine go hS F ?_
  refine Au cu (fun z:Bool×(List (Int×Int×Int×(List (Int×Int))×Int×Int))×Nat=>⟨[(3,.box (1,1) 0),(4,.box (2,1) 0),(6,.box (300,3) 0),(7,.b z.1)],[(.c (300,3) 0,.own (1000001,6) z.2.1.length),(.a (1000001,6),BK z.2.1),(.c (2,1) 0,.sl 0 true [] []),(.c (1,1) 0,.i u2),(.c (1,1) 1,.i u3),(.c (1,1) 2,.i u4),(.c (1,1) 3,A1 u5),(.c (1,1) 4,.i u6),(.c (1,1) 5,.i u7)],z.2.2⟩) (fun z=>((z.1,z.2.1):Bool×(List (Int×Int×Int×(List (Int×Int))×Int×Int)))) (.x 0) ?_ ?_
  ·refine Aq (fun n (y:Bool×Int×(List (Int×Int×Int×(List (Int×Int))×Int×Int))×Nat)=>DX N f1 u2 u3 u4 u5 u6 u7 n y.1 y.2.1 y.2.2.1) (fun y=>⟨[(2,.box (0,1) 0),(3,.box (1,1) 0),(4,.box (2,1) 0),(6,.box (300,3) 0),(7,.b y.1),(8,.i y.2.1)],[(.c (300,3) 0,.own (1000001,6) y.2.2.1.length),(.a (1000001,6),BK y.2.2.1),(.c (2,1) 0,.sl 0 true [] []),(.c (1,1) 0,.i u2),(.c (1,1) 1,.i u3),(.c (1,1) 2,.i u4),(.c (1,1) 3,A1 u5),(.c (1,1) 4,.i u6),(.c (1,1) 5,.i u7),(.c (0,1) 0,Af f1)],y.2.2.2⟩) (false,0,[],6) dh (leF F) ?_
   rintro n ⟨aa,i83,l84,cz⟩ af
   simp only[DX] at af
   refine gcb hS F af (fun _ af=> ?_) (fun _ af=> ?_)
   ·obtain⟨du,af⟩:=un af
    obtain⟨cy,aj,af⟩:=un af
    refine go hS F ?_
    refine Au cy (fun z:Bool×(List (Int×Int×Int×(List (Int×Int))×Int×Int))×Nat=>⟨[(2,.box (0,1) 0),(3,.box (1,1) 0),(4,.box (2,1) 0),(6,.box (300,3) 0),(7,.b z.1),(8,.i i83)],[(.c (300,3) 0,.own (1000001,6) z.2.1.length),(.a (1000001,6),BK z.2.1),(.c (2,1) 0,.sl 0 true [] []),(.c (1,1) 0,.i u2),(.c (1,1) 1,.i u3),(.c (1,1) 2,.i u4),(.c (1,1) 3,A1 u5),(.c (1,1) 4,.i u6),(.c (1,1) 5,.i u7),(.c (0,1) 0,Af f1)],z.2.2⟩) (fun z=>((z.1,z.2.1):Bool×(List (Int×Int×Int×(List (Int×Int))×Int×Int)))) .n ?_ ?_
    ·refine gcb hS F aj (fun _ aj=> ?_) (fun _ aj=> ?_)
     ·obtain⟨⟨bp,bo,bm,bj,bi,bh⟩,ce,aj⟩:=un aj
      obtain⟨dt,aj⟩:=un aj
      exact gck hS (fc ce F) (true,l84++[(bp,bo,bm,bj,bi,bh)],cz+1+1+1+1) aj
     ·exact gck hS F (aa,l84,cz+1+1) aj
    ·rintro⟨ae,l115,db⟩ rfl
     obtain⟨⟨x117,x118,bu,br,x121,x122⟩,co,af⟩:=un af
     obtain⟨de,F⟩:=rqG Ai co F
     obtain⟨⟨bg,be,bb,az,ay,aw⟩,b9,af⟩:=un af
     obtain⟨dq,dp,af⟩:=un af
     exact gbk hS (fc b9 F) (n,ae,i83+1,l115++[(bg,be,bb,az,ay,aw)],db+1+1) af
   ·exact gck hS F (aa,l84,cz+1) af
  ·rintro⟨ah,l137,cq⟩ rfl
   obtain⟨cr,ai,h⟩:=un h
   refine go hS F ?_
   refine Au cr (fun z:(List (Int×Int×Int×(List (Int×Int))×Int×Int))×Nat=>⟨[(4,.box (2,1) 0),(6,.box (300,3) 0)],[(.c (300,3) 0,.own (1000001,6) z.1.length),(.a (1000001,6),BK z.1),(.c (2,1) 0,.sl 0 true [] [])],z.2⟩) (fun z=>(z.1:(List (Int×Int×Int×(List (Int×Int))×Int×Int)))) .n ?_ ?_
   ·refine gcb hS F ai (fun _ ai=> ?_) (fun _ ai=> ?_)
    ·obtain⟨⟨av,au,aq,an,am,ak⟩,bz,ai⟩:=un ai
     obtain⟨dm,ai⟩:=un ai
     exact gck hS (fc bz F) (l137++[(av,au,aq,an,am,ak)],cq+1+1) ai
    ·exact gck hS F (l137,cq+1) ai
   ·rintro⟨bq,dl⟩ rfl
    obtain⟨bv,bw,h⟩:=un h
    replace F:=fc bw F
    refine gcb hS F h (fun _ h=> ?_) (fun _ h=> ?_)
    ·exact Ad hS F h
    ·exact Ad hS F h
end Go.Proofs.YtciphecegkfaiaaGreat.Am
namespace Go.Proofs.YtciphecegkfaiaaGreat.Am
open Go
attribute [local irreducible] awp B5 BR Bx B3 Bw Bn BS B1 itK
set_option maxRecDepth 100000
set_option maxHeartbeats 8000000
set_option linter.unusedSimpArgs false
set_option linter.unusedVariables false
def Gx (x:Int×Int×Int×Int×Int×Int):List AV:=[.i x.1,.i x.2.1,.i x.2.2.1,.i x.2.2.2.1,.i x.2.2.2.2.1,.i x.2.2.2.2.2]
def LS:List AV→Int×Int×Int×Int×Int×Int
 |[.v (.int _ a1),.v (.int _ a2),.v (.int _ a3),.v (.int _ a4),.v (.int _ a5),.v (.int _ a6)]=>(a1,a2,a3,a4,a5,a6)
 |_=>(0,0,0,0,0,0)
theorem V7 (x:Int×Int×Int×Int×Int×Int):LS (Gx x)=x:=by rfl
theorem V8 (R:List (Int×Int×Int×Int×Int×Int)):(R.map Gx).map LS=R:=by
 induction R with
 |nil=>rfl
 |cons r R ih=>rw[List.map_cons,List.map_cons,ih,V7]
theorem V9 (R:List (Int×Int×Int×Int×Int×Int)) (i:Nat):BJ (R.map Gx) [.i 0,.i 0,.i 0,.i 0,.i 0,.i 0] i=Gx (R.getD i (0,0,0,0,0,0)):=by
 unfold BJ;rw[List.getD_eq_getElem?_getD,List.getD_eq_getElem?_getD,List.getElem?_map];cases R[i]? <;>rfl
def NK:Rw (Int×Int×Int×Int×Int×Int):=⟨6,Gx,LS,[.i 0,.i 0,.i 0,.i 0,.i 0,.i 0]⟩
def G8 (l:List (Int×Int×Int×Int×Int×Int)):AV:= .sl 6 false (l.map Gx) [.i 0,.i 0,.i 0,.i 0,.i 0,.i 0]
def Yi (l:List (Int×Int×Int×Int×Int×Int)):AV:= .sl 6 true (l.map Gx) [.i 0,.i 0,.i 0,.i 0,.i 0,.i 0]
attribute [go_sem] NK G8 Yi Gx LS V8 V9
def CD (N:Nat) (ai:Int) (az:Int) (x162:Int) (x163:Int) (x164:Int) (x165:Int) (x166:Int):Option (Int×Int×Int×(List (Int×Int))×Int×Int):=
 (Ae N az 9).bind fun aa=>
 gd (I64 (4*aa))<|
 (Ae N x162 6).bind fun ae=>
 gd (I64 (4*ae))<|
 (Ae N x163 4).bind fun af=>
 gd (I64 (1+af))<|
 gd (I64 (4*(1+af)))<|
 gd (I64 ((4*aa)+(4*(1+af))))<|
 (Ae N x164 2).bind fun ah=>
 gd (I64 (1+ah))<|
 gd (I64 (4*(1+ah)))<|
 gd (I64 ((4*ae)+(4*(1+ah))))<|
 (Ae N x165 8).bind fun ay=>
 bif decide (ay=4) then(
  gd (I64 ((min ((4*aa)+(4*(1+af))) 40)-1))<|
  gd (I64 ((4*aa)+1))<|
  (Ae N x166 4).bind fun gt=>
  bif decide (gt=3) then(
   gd (I64 (x166.tdiv 4))<|
   (Ae N (x166.tdiv 4) 4).bind fun aw=>
   gd (I64 (aw+1))<|
   gd (I64 (x166.tdiv 16))<|
   (Ae N (x166.tdiv 16) 4).bind fun b9=>
   gd (I64 ((aw+1)+b9))<|
   (Ae N ai 100).bind fun gj=>
   gd (I64 (x166.tdiv 64))<|
   (Ae N (x166.tdiv 64) 8).bind fun bz=>
   gd (I64 (1+bz))<|
   gd (I64 (x166.tdiv 512))<|
   (Ae N (x166.tdiv 512) 8).bind fun gi=>
   some (gj,1+bz,gi,[(4*aa,4*ae),(min ((4*aa)+(4*(1+af))) 40,4*ae),((min ((4*aa)+(4*(1+af))) 40)-1,(4*ae)+(4*(1+ah))),((4*aa)+1,(4*ae)+(4*(1+ah)))],aw,(aw+1)+b9))
  else(
   (Ae N ai 100).bind fun gh=>
   gd (I64 (x166.tdiv 64))<|
   (Ae N (x166.tdiv 64) 8).bind fun bw=>
   gd (I64 (1+bw))<|
   gd (I64 (x166.tdiv 512))<|
   (Ae N (x166.tdiv 512) 8).bind fun gf=>
   some (gh,1+bw,gf,[(4*aa,4*ae),(min ((4*aa)+(4*(1+af))) 40,4*ae),((min ((4*aa)+(4*(1+af))) 40)-1,(4*ae)+(4*(1+ah))),((4*aa)+1,(4*ae)+(4*(1+ah)))],0,4)))
 else(
  bif decide (ay=5) then(
   gd (I64 ((4*aa)+1))<|
   gd (I64 ((min ((4*aa)+(4*(1+af))) 40)-1))<|
   (Ae N x166 4).bind fun gc=>
   bif decide (gc=3) then(
    gd (I64 (x166.tdiv 4))<|
    (Ae N (x166.tdiv 4) 4).bind fun av=>
    gd (I64 (av+1))<|
    gd (I64 (x166.tdiv 16))<|
    (Ae N (x166.tdiv 16) 4).bind fun bv=>
    gd (I64 ((av+1)+bv))<|
    (Ae N ai 100).bind fun fq=>
    gd (I64 (x166.tdiv 64))<|
    (Ae N (x166.tdiv 64) 8).bind fun r279=>
    gd (I64 (1+r279))<|
    gd (I64 (x166.tdiv 512))<|
    (Ae N (x166.tdiv 512) 8).bind fun fj=>
    some (fq,1+r279,fj,[((4*aa)+1,4*ae),((min ((4*aa)+(4*(1+af))) 40)-1,4*ae),(min ((4*aa)+(4*(1+af))) 40,(4*ae)+(4*(1+ah))),(4*aa,(4*ae)+(4*(1+ah)))],av,(av+1)+bv))
   else(
    (Ae N ai 100).bind fun fh=>
    gd (I64 (x166.tdiv 64))<|
    (Ae N (x166.tdiv 64) 8).bind fun r285=>
    gd (I64 (1+r285))<|
    gd (I64 (x166.tdiv 512))<|
    (Ae N (x166.tdiv 512) 8).bind fun fg=>
    some (fh,1+r285,fg,[((4*aa)+1,4*ae),((min ((4*aa)+(4*(1+af))) 40)-1,4*ae),(min ((4*aa)+(4*(1+af))) 40,(4*ae)+(4*(1+ah))),(4*aa,(4*ae)+(4*(1+ah)))],0,4)))
  else(
   bif decide (ay=6) then(
    (Ae N x166 4).bind fun fb=>
    bif decide (fb=3) then(
     gd (I64 (x166.tdiv 4))<|
     (Ae N (x166.tdiv 4) 4).bind fun au=>
     gd (I64 (au+1))<|
     gd (I64 (x166.tdiv 16))<|
     (Ae N (x166.tdiv 16) 4).bind fun bu=>
     gd (I64 ((au+1)+bu))<|
     (Ae N ai 100).bind fun e9=>
     gd (I64 (x166.tdiv 64))<|
     (Ae N (x166.tdiv 64) 8).bind fun br=>
     gd (I64 (1+br))<|
     gd (I64 (x166.tdiv 512))<|
     (Ae N (x166.tdiv 512) 8).bind fun ez=>
     some (e9,1+br,ez,[(4*aa,4*ae),(min ((4*aa)+(4*(1+af))) 40,4*ae),(min ((4*aa)+(4*(1+af))) 40,(4*ae)+(4*(1+ah)))],au,(au+1)+bu))
    else(
     (Ae N ai 100).bind fun eh=>
     gd (I64 (x166.tdiv 64))<|
     (Ae N (x166.tdiv 64) 8).bind fun bq=>
     gd (I64 (1+bq))<|
     gd (I64 (x166.tdiv 512))<|
     (Ae N (x166.tdiv 512) 8).bind fun d9=>
     some (eh,1+bq,d9,[(4*aa,4*ae),(min ((4*aa)+(4*(1+af))) 40,4*ae),(min ((4*aa)+(4*(1+af))) 40,(4*ae)+(4*(1+ah)))],0,4)))
   else(
    bif decide (ay=7) then(
     (Ae N x166 4).bind fun d8=>
     bif decide (d8=3) then(
      gd (I64 (x166.tdiv 4))<|
      (Ae N (x166.tdiv 4) 4).bind fun aq=>
      gd (I64 (aq+1))<|
      gd (I64 (x166.tdiv 16))<|
      (Ae N (x166.tdiv 16) 4).bind fun bp=>
      gd (I64 ((aq+1)+bp))<|
      (Ae N ai 100).bind fun d7=>
      gd (I64 (x166.tdiv 64))<|
      (Ae N (x166.tdiv 64) 8).bind fun bo=>
      gd (I64 (1+bo))<|
      gd (I64 (x166.tdiv 512))<|
      (Ae N (x166.tdiv 512) 8).bind fun d6=>
      some (d7,1+bo,d6,[(4*aa,4*ae),(min ((4*aa)+(4*(1+af))) 40,(4*ae)+(4*(1+ah))),(4*aa,(4*ae)+(4*(1+ah)))],aq,(aq+1)+bp))
     else(
      (Ae N ai 100).bind fun d5=>
      gd (I64 (x166.tdiv 64))<|
      (Ae N (x166.tdiv 64) 8).bind fun bm=>
      gd (I64 (1+bm))<|
      gd (I64 (x166.tdiv 512))<|
      (Ae N (x166.tdiv 512) 8).bind fun dz=>
      some (d5,1+bm,dz,[(4*aa,4*ae),(min ((4*aa)+(4*(1+af))) 40,(4*ae)+(4*(1+ah))),(4*aa,(4*ae)+(4*(1+ah)))],0,4)))
    else(
     (Ae N x166 4).bind fun dw=>
     bif decide (dw=3) then(
      gd (I64 (x166.tdiv 4))<|
      (Ae N (x166.tdiv 4) 4).bind fun an=>
      gd (I64 (an+1))<|
      gd (I64 (x166.tdiv 16))<|
      (Ae N (x166.tdiv 16) 4).bind fun bj=>
      gd (I64 ((an+1)+bj))<|
      (Ae N ai 100).bind fun du=>
      gd (I64 (x166.tdiv 64))<|
      (Ae N (x166.tdiv 64) 8).bind fun bi=>
      gd (I64 (1+bi))<|
      gd (I64 (x166.tdiv 512))<|
      (Ae N (x166.tdiv 512) 8).bind fun dt=>
      some (du,1+bi,dt,[(4*aa,4*ae),(min ((4*aa)+(4*(1+af))) 40,4*ae),(min ((4*aa)+(4*(1+af))) 40,(4*ae)+(4*(1+ah))),(4*aa,(4*ae)+(4*(1+ah)))],an,(an+1)+bj))
     else(
      (Ae N ai 100).bind fun dq=>
      gd (I64 (x166.tdiv 64))<|
      (Ae N (x166.tdiv 64) 8).bind fun bh=>
      gd (I64 (1+bh))<|
      gd (I64 (x166.tdiv 512))<|
      (Ae N (x166.tdiv 512) 8).bind fun dp=>
      some (dq,1+bh,dp,[(4*aa,4*ae),(min ((4*aa)+(4*(1+af))) 40,4*ae),(min ((4*aa)+(4*(1+af))) 40,(4*ae)+(4*(1+ah))),(4*aa,(4*ae)+(4*(1+ah)))],0,4))))))
@[go_sem] def s14 (N:Nat):Spec:=p0<|pI fun ai=>pG<|pI fun az=>pI fun x162=>pI fun x163=>pI fun x164=>pI fun x165=>pI fun x166=>pE<|pE<|pF (CD N ai az x162 x163 x164 x165 x166) (0,0,0,[],0,0) fun r=> .agg [.i r.1,.i r.2.1,.i r.2.2.1,A1 r.2.2.2.1,.i r.2.2.2.2.1,.i r.2.2.2.2.2]
theorem UI (N:Nat):FOK Tryz.prog 14 (s14 N):=by
 refine Al x14.ok<|Ac fun ai=>AW<|Ac fun az=>Ac fun x162=>Ac fun x163=>Ac fun x164=>Ac fun x165=>Ac fun x166=>Ah<|Ah<|An fun r h=>wx x14 (Aa (Y5 N)<|Aj) fun _ hS F=> ?_
 dsimp only[x14,mkX]
 unfold CD at h
 obtain⟨aa,kf,o7,ae,ke,o0,af,j9,nj,mo,lr,ah,j8,kr,oz,oy,ay,j7,h⟩:=un h
 replace F:=fc j7 (fc j8 (fc j9 (fc ke (fc kf F))))
 refine gcb hS F h (fun _ h=> ?_) (fun _ h=> ?_)
 ·obtain⟨ox,om,gt,j6,h⟩:=un h
  replace F:=fc j6 F
  refine gcb hS F h (fun _ h=> ?_) (fun _ h=> ?_)
  ·obtain⟨oj,aw,j5,oh,og,b9,jz,oe,gj,jy,od,bz,jx,oc,oa,gi,jw,h⟩:=un h
   exact Ad hS (fc jw (fc jx (fc jy (fc jz (fc j5 F))))) h
  ·obtain⟨gh,jv,n9,bw,ju,n8,n7,gf,jt,h⟩:=un h
   exact Ad hS (fc jt (fc ju (fc jv F))) h
 ·refine gcb hS F h (fun _ h=> ?_) (fun _ h=> ?_)
  ·obtain⟨n5,n4,gc,js,h⟩:=un h
   replace F:=fc js F
   refine gcb hS F h (fun _ h=> ?_) (fun _ h=> ?_)
   ·obtain⟨nz,av,jr,ny,nw,bv,jq,nv,fq,jp,nu,r279,jo,nr,nk,fj,jn,h⟩:=un h
    exact Ad hS (fc jn (fc jo (fc jp (fc jq (fc jr F))))) h
   ·obtain⟨fh,jm,nh,r285,jk,ng,nb,fg,jj,h⟩:=un h
    exact Ad hS (fc jj (fc jk (fc jm F))) h
  ·refine gcb hS F h (fun _ h=> ?_) (fun _ h=> ?_)
   ·obtain⟨fb,ji,h⟩:=un h
    replace F:=fc ji F
    refine gcb hS F h (fun _ h=> ?_) (fun _ h=> ?_)
    ·obtain⟨m9,au,jh,m8,m7,bu,jg,mz,e9,jf,my,br,je,mr,mq,ez,jd,h⟩:=un h
     exact Ad hS (fc jd (fc je (fc jf (fc jg (fc jh F))))) h
    ·obtain⟨eh,jc,mh,bq,jb,mg,me,d9,ja,h⟩:=un h
     exact Ad hS (fc ja (fc jb (fc jc F))) h
   ·refine gcb hS F h (fun _ h=> ?_) (fun _ h=> ?_)
    ·obtain⟨d8,i9,h⟩:=un h
     replace F:=fc i9 F
     refine gcb hS F h (fun _ h=> ?_) (fun _ h=> ?_)
     ·obtain⟨mb,aq,i8,ma,l7,bp,i7,l6,d7,i6,l5,bo,iz,lz,lw,d6,iy,h⟩:=un h
      exact Ad hS (fc iy (fc iz (fc i6 (fc i7 (fc i8 F))))) h
     ·obtain⟨d5,iw,lq,bm,iv,lm,lj,dz,iq,h⟩:=un h
      exact Ad hS (fc iq (fc iv (fc iw F))) h
    ·obtain⟨dw,ip,h⟩:=un h
     replace F:=fc ip F
     refine gcb hS F h (fun _ h=> ?_) (fun _ h=> ?_)
     ·obtain⟨li,an,ij,lh,lg,bj,ig,lf,du,ie,k9,bi,ic,kw,kv,dt,g9,h⟩:=un h
      exact Ad hS (fc g9 (fc ic (fc ie (fc ig (fc ij F))))) h
     ·obtain⟨dq,g8,kq,bh,gz,km,kl,dp,gy,h⟩:=un h
      exact Ad hS (fc gy (fc gz (fc g8 F))) h
def C3 (N:Nat) (x429:List (Int×Int×Int×Int×Int×Int)):Nat→Int→(List (Int×Int×Int×(List (Int×Int))×Int×Int))→Option ((List (Int×Int×Int×(List (Int×Int))×Int×Int)))
 |0,_,_=>none
 |n+1,aj,am=>
  bif (decide (aj<(x429.length:Int)))&&(decide (aj<12)) then(
   gd (I64 (3*aj))<|
   (nth x429 aj).bind fun(cy,cu,cr,cq,co,bb)=>
   (Ae N bb 3).bind fun bg=>
   gd (I64 ((3*aj)+bg))<|
   (CD N ((3*aj)+bg) cy cu cr cq co bb).bind fun(dm,dl,dh,dg,de,db)=>
   (FB N am dm dl dh dg de db).bind fun(be,cz)=>
   bif decide (cz=0) then(
    gd (I64 (aj+1))<|
    C3 N x429 n (aj+1) be)
   else(
    gd (I64 (aj+1))<|
    C3 N x429 n (aj+1) am))
  else(
   some am)
def Cx (N:Nat) (x429:List (Int×Int×Int×Int×Int×Int)):Option (List (Int×Int×Int×(List (Int×Int))×Int×Int)):=
 (C3 N x429 N 0 []).bind fun kh=>
 some kh
@[go_sem] def s12 (N:Nat):Spec:=p0<|pS NK fun x429=>pE<|pF (Cx N x429) [] fun r=> .agg [Af r]
theorem M8 (N:Nat):FOK Tryz.prog 12 (s12 N):=by
 refine Al x12.ok<|A3 fun x429=>Ah<|An fun r h=>wx x12 (Aa (Y5 N)<|Aa (UI N)<|Aa (mF N)<|Aj) fun _ hS F=> ?_
 dsimp only[x12,mkX,NK]
 unfold Cx at h
 refine go hS F ?_
 refine Z1 (100,2) 0 6 [.i 0,.i 0,.i 0,.sl 0 true [] [],.i 0,.i 0] (ev F) ?_
 obtain⟨ki,ot,h⟩:=un h
 refine go hS F ?_
 refine Au ki (fun z:(List (Int×Int×Int×(List (Int×Int))×Int×Int))×Nat=>⟨[(2,.box (0,1) 0),(3,.box (100,2) 0)],[(.c (100,2) 0,Af z.1),(.c (0,1) 0,.sl 0 true [] [])],z.2⟩) (fun z=>(z.1:(List (Int×Int×Int×(List (Int×Int))×Int×Int)))) (.x 0) ?_ ?_
 ·refine Aq (fun n (y:Int×(List (Int×Int×Int×(List (Int×Int))×Int×Int))×Nat)=>C3 N x429 n y.1 y.2.1) (fun y=>⟨[(0,G8 x429),(2,.box (0,1) 0),(3,.box (100,2) 0),(4,.i y.1)],[(.c (100,2) 0,Af y.2.1),(.c (0,1) 0,.sl 0 true [] [])],y.2.2⟩) (0,[],3) ot (leF F) ?_
  rintro n ⟨aj,am,ce⟩ ak
  simp only[C3] at ak
  refine gcb hS F ak (fun _ ak=> ?_) (fun _ ak=> ?_)
  ·obtain⟨nj,⟨cy,cu,cr,cq,co,bb⟩,kg,ak⟩:=un ak
   obtain⟨kj,F⟩:=rqG Gx kg F
   obtain⟨bg,gx,mo,⟨dm,dl,dh,dg,de,db⟩,gw,ak⟩:=un ak
   obtain⟨⟨be,cz⟩,gu,ak⟩:=un ak
   replace F:=fc gu (fc gw (fc gx F))
   refine gcb hS F ak (fun _ ak=> ?_) (fun _ ak=> ?_)
   ·obtain⟨lr,ak⟩:=un ak
    exact gbk hS F (n,aj+1,be,ce+1+1+1+1+1) ak
   ·obtain⟨kr,ak⟩:=un ak
    exact gbk hS F (n,aj+1,am,ce+1+1+1+1) ak
  ·exact gck hS F (am,ce+1) ak
 ·rintro⟨kh,ov⟩ rfl
  exact Ad hS F h
end Go.Proofs.YtciphecegkfaiaaGreat.Am
