import Derived.Test.YtciphecegkfaiaaGreatF2
import Derived.Test.YtciphecegkfaiaaGreatE6
import Derived.Test.YtciphecegkfaiaaGreatDR
import Derived.Test.YtciphecegkfaiaaGreatA25
namespace Go.Proofs.YtciphecegkfaiaaGreat.Am
open Go
attribute [local irreducible] awp B5 BR Bx B3 Bw Bn BS B1 itK
set_option maxRecDepth 100000
set_option maxHeartbeats 8000000
set_option linter.unusedSimpArgs false
set_option linter.unusedVariables false
def BZ (N:Nat) (aj:Int) (f1:List (Int×Int×Int×(List (Int×Int))×Int×Int)) (x18:Int) (x19:Int) (x20:Int) (x21:List (Int×Int)) (x22:Int) (x23:Int):Nat→Int→Option (Sum Unit Bool)
 |0,_=>none
 |n+1,d6=>
  bif decide (d6<aj) then(
   (nth f1 d6).bind fun(x39,x40,x41,x42,x43,x44)=>
   (DF N x18 x19 x20 x21 x22 x23 x39 x40 x41 x42 x43 x44).bind fun jy=>
   bif jy then(
    some (.inr false))
   else(
    gd (I64 (d6+1))<|
    BZ N aj f1 x18 x19 x20 x21 x22 x23 n (d6+1)))
  else(
   some (.inl ()))
def B0 (N:Nat) (f1:List (Int×Int×Int×(List (Int×Int))×Int×Int)):Nat→Int→Option (Sum Unit Bool)
 |0,_=>none
 |n+1,aj=>
  bif decide (aj<(f1.length:Int)) then(
   (nth f1 aj).bind fun(x18,x19,x20,x21,x22,x23)=>
   (Bs N x18 x19 x20 x21 x22 x23).bind fun jz=>
   gd ((decide (0<aj))=true→(I64 (aj-1)))<|
   gd ((decide (0<aj))=true→(0≤aj-1∧aj-1<(f1.length:Int)))<|
   bif (!jz)||((decide (0<aj))&&(decide (x18≤(f1.getD (aj-1).toNat (0,0,0,[],0,0)).1))) then(
    some (.inr false))
   else(
    (BZ N aj f1 x18 x19 x20 x21 x22 x23 N 0).bind fun jl=>match jl with
     | .inl ()=>(
      gd (I64 (aj+1))<|
      B0 N f1 n (aj+1))
     | .inr kh=>(
      some (.inr kh))))
  else(
   some (.inl ()))
def Bp (N:Nat) (f1:List (Int×Int×Int×(List (Int×Int))×Int×Int)):Option Bool:=
 bif decide (12<(f1.length:Int)) then(
  some false)
 else(
  (B0 N f1 N 0).bind fun jj=>match jj with
   | .inl ()=>(
    some true)
   | .inr kg=>(
    some kg))
@[go_sem] def s55 (N:Nat):Spec:=p0<|pG<|pD Ak fun f1=>pE<|pE<|pF (Bp N f1) false fun r=> .b r
theorem JR (N:Nat):FOK Tryz.prog 55 (s55 N):=by
 refine Al x55.ok<|AW<|CQ fun f1=>Ah<|Ah<|An fun r h=>wx x55 (Aa (Kg N)<|Aa (gS N)<|Aj) fun _ hS F=> ?_
 dsimp only[x55,mkX,Ak]
 unfold Bp at h
 refine gcb hS F h (fun _ h=> ?_) (fun _ h=> ?_)
 ·exact Ad hS F h
 ·obtain⟨jj,bh,h⟩:=un h
  refine go hS F ?_
  refine Au jj (fun z:Nat=>⟨[],[],z⟩) (fun z=>(.inl ():Sum Unit Bool)) (.x 0) ?_ ?_
  ·refine Aq (fun n (y:Int×Nat)=>B0 N f1 n y.1) (fun y=>⟨[(1,.box (0,1) 0),(3,.i y.1)],[(.c (0,1) 0,Af f1)],y.2⟩) (0,3) bh (leF F) ?_
   rintro n ⟨aj,kf⟩ aa
   simp only[B0] at aa
   refine gcb hS F aa (fun _ aa=> ?_) (fun _ aa=> ?_)
   ·obtain⟨⟨x18,x19,x20,x21,x22,x23⟩,js,aa⟩:=un aa
    obtain⟨kv,F⟩:=rqG Ai js F
    obtain⟨jz,jp,i8,g9,aa⟩:=un aa
    replace F:=fc jp F
    refine gcb hS F aa (fun _ aa=> ?_) (fun _ aa=> ?_)
    ·obtain rfl:=yJ aa
     exact Ad hS F h
    ·obtain⟨jl,k9,aa⟩:=un aa
     refine go hS F ?_
     refine Au jl (fun z:Nat=>⟨[(1,.box (0,1) 0),(3,.i aj)],[(.c (0,1) 0,Af f1)],z⟩) (fun z=>(.inl ():Sum Unit Bool)) (.x 2) ?_ ?_
     ·refine Aq (fun n (y:Int×Nat)=>BZ N aj f1 x18 x19 x20 x21 x22 x23 n y.1) (fun y=>⟨[(1,.box (0,1) 0),(3,.i aj),(4,.i y.1)],[(.c (0,1) 0,Af f1)],y.2⟩) (0,kf+1+1+1) k9 (leF F) ?_
      rintro n ⟨d6,ke⟩ ba
      simp only[BZ] at ba
      refine gcb hS F ba (fun _ ba=> ?_) (fun _ ba=> ?_)
      ·obtain⟨⟨x39,x40,x41,x42,x43,x44⟩,jr,ba⟩:=un ba
       obtain⟨kr,F⟩:=rqG Ai jr F
       obtain⟨jy,jo,ba⟩:=un ba
       replace F:=fc jo F
       refine gcb hS F ba (fun _ ba=> ?_) (fun _ ba=> ?_)
       ·obtain rfl:=yJ ba
        obtain rfl:=yJ aa
        exact Ad hS F h
       ·obtain⟨lr,ba⟩:=un ba
        exact gbk hS F (n,d6+1,ke+1+1+1) ba
      ·exact gck hS F (ke+1) ba
     ·rintro lg rfl
      obtain⟨ki,aa⟩:=un aa
      exact gbk hS F (n,aj+1,lg+1) aa
   ·exact gck hS F (kf+1) aa
  ·rintro lw rfl
   exact Ad hS F h
def CF (N:Nat) (f58:List (Int×Int×Int×(List (Int×Int))×Int×Int)) (ai:Int):Nat→Int→Option (Sum Unit (((Int×Int×Int×(List (Int×Int))×Int×Int)×Bool)))
 |0,_=>none
 |n+1,i83=>
  bif decide (i83<(f58.length:Int)) then(
   (nth f58 i83).bind fun(x84,x85,x86,x87,x88,jv)=>
   gd ((decide (x84=ai))=true→((Bp N f58).isSome=true))<|
   bif (decide (x84=ai))&&((Bp N f58).getD false) then(
    (BM N x84 x85 x86 x87 x88 jv).bind fun(jx,jw,gw,gu,gt,gr)=>
    some (.inr ((jx,jw,gw,gu,gt,gr),true)))
   else(
    gd (I64 (i83+1))<|
    CF N f58 ai n (i83+1)))
  else(
   some (.inl ()))
def Ff (N:Nat) (f58:List (Int×Int×Int×(List (Int×Int))×Int×Int)) (ai:Int):Option ((Int×Int×Int×(List (Int×Int))×Int×Int)×Bool):=
 (CF N f58 ai N 0).bind fun dp=>match dp with
  | .inl ()=>(
   some ((0,0,0,[],0,0),false))
  | .inr jg=>(
   some jg)
@[go_sem] def s61 (N:Nat):Spec:=p0<|pG<|pD Ak fun f58=>pE<|pI fun ai=>pE<|pF (Ff N f58 ai) ((0,0,0,[],0,0),false) fun r=> .tup [.agg [.i r.1.1,.i r.1.2.1,.i r.1.2.2.1,A1 r.1.2.2.2.1,.i r.1.2.2.2.2.1,.i r.1.2.2.2.2.2],.b r.2]
def D1 (N:Nat) (f110:List (Int×Int×Int×(List (Int×Int))×Int×Int)) (ab:Int):Nat→Int→(List (Int×Int×Int×(List (Int×Int))×Int×Int))→Option ((List (Int×Int×Int×(List (Int×Int))×Int×Int)))
 |0,_,_=>none
 |n+1,am,l168=>
  bif decide (am<(f110.length:Int)) then(
   (nth f110 am).bind fun(x169,fx,x171,Yc,fr,fq)=>
   bif decide (x169≠ab) then(
    (BM N x169 fx x171 Yc fr fq).bind fun(dl,dh,dg,de,db,cz)=>
    gd ((l168.length+1)*64≤140737488355328)<|
    gd (I64 (am+1))<|
    D1 N f110 ab n (am+1) (l168++[(dl,dh,dg,de,db,cz)]))
   else(
    gd (I64 (am+1))<|
    D1 N f110 ab n (am+1) l168))
  else(
   some l168)
def IS (N:Nat) (f110:List (Int×Int×Int×(List (Int×Int))×Int×Int)) (ab:Int):Option ((List (Int×Int×Int×(List (Int×Int))×Int×Int))×Int):=
 (Ff N f110 ab).bind fun((jf,je,jd,jc,jb,ja),gj)=>
 bif !gj then(
  some ([],120))
 else(
  (D1 N f110 ab N 0 []).bind fun g8=>
  some (g8,0))
@[go_sem] def s62 (N:Nat):Spec:=p0<|pG<|pD Ak fun f110=>pE<|pI fun ab=>pE<|pF (IS N f110 ab) ([],0) fun r=> .tup [.agg [Af r.1],.i r.2]
def EN (N:Nat) (f196:List (Int×Int×Int×(List (Int×Int))×Int×Int)):Nat→Int→Int→Option Int
 |0,_,_=>none
 |n+1,bb,bg=>
  bif decide (bg<(f196.length:Int)) then(
   (nth f196 bg).bind fun(fp,fo,fm,fj,fh,fg)=>
   (Er N fp fo fm fj fh fg).bind fun bi=>
   gd (I64 (bb+bi))<|
   gd (I64 (bg+1))<|
   EN N f196 n (bb+bi) (bg+1))
  else(
   some bb)
def Iu (N:Nat) (f196:List (Int×Int×Int×(List (Int×Int))×Int×Int)):Option Int:=
 (Bp N f196).bind fun gi=>
 bif !gi then(
  some 0)
 else(
  (EN N f196 N 0 0).bind fun gx=>
  some gx)
@[go_sem] def s56 (N:Nat):Spec:=p0<|pG<|pD Ak fun f196=>pE<|pE<|pF (Iu N f196) 0 fun r=> .i r
def Fq (N:Nat) (f227:List (Int×Int×Int×(List (Int×Int))×Int×Int)) (af:Int) (ae:Int):Nat→Int→(List (Int×Int×Int×(List (Int×Int))×Int×Int))→Option (Sum ((List (Int×Int×Int×(List (Int×Int))×Int×Int))) (((List (Int×Int×Int×(List (Int×Int))×Int×Int))×Int)))
 |0,_,_=>none
 |n+1,be,l268=>
  bif decide (be<(f227.length:Int)) then(
   (nth f227 be).bind fun(fb,e9,e8,ez,eu,em)=>
   (Fe N fb e9 e8 ez eu em af ae).bind fun((cy,cu,cr,r279,cq,co),gg)=>
   bif decide (gg≠0) then(
    some (.inr ([],120)))
   else(
    gd ((l268.length+1)*64≤140737488355328)<|
    gd (I64 (be+1))<|
    Fq N f227 af ae n (be+1) (l268++[(cy,cu,cr,r279,cq,co)])))
  else(
   some (.inl l268))
def Ju (N:Nat) (f227:List (Int×Int×Int×(List (Int×Int))×Int×Int)) (af:Int) (ae:Int):Option ((List (Int×Int×Int×(List (Int×Int))×Int×Int))×Int):=
 (Bp N f227).bind fun gh=>
 bif !gh then(
  some ([],120))
 else(
  (Fq N f227 af ae N 0 []).bind fun dm=>match dm with
   | .inl gz=>(
    some (gz,0))
   | .inr i9=>(
    some i9))
@[go_sem] def s63 (N:Nat):Spec:=p0<|pG<|pD Ak fun f227=>pE<|pI fun af=>pI fun ae=>pE<|pF (Ju N f227 af ae) ([],0) fun r=> .tup [.agg [Af r.1],.i r.2]
def Dy (N:Nat) (f291:List (Int×Int×Int×(List (Int×Int))×Int×Int)) (az:Int) (ay:Int) (aw:Int) (av:List (Int×Int)) (au:Int) (aq:Int):Nat→Int→(List (Int×Int×((Int×Int)×(Int×Int))×Int×Int))→Option ((List (Int×Int×((Int×Int)×(Int×Int))×Int×Int)))
 |0,_,_=>none
 |n+1,ak,l553=>
  bif decide (ak<(f291.length:Int)) then(
   (nth f291 ak).bind fun(ej,ei,eh,d9,d8,d7)=>
   (EW N az ay aw av au aq ej ei eh d9 d8 d7).bind fun((bv,bu,((br,bq),(bp,bo)),bm,bj),fy)=>
   bif fy then(
    gd ((l553.length+1)*64≤140737488355328)<|
    gd (I64 (ak+1))<|
    Dy N f291 az ay aw av au aq n (ak+1) (l553++[(bv,bu,((br,bq),(bp,bo)),bm,bj)]))
   else(
    gd (I64 (ak+1))<|
    Dy N f291 az ay aw av au aq n (ak+1) l553))
  else(
   some l553)
def EB (N:Nat) (f291:List (Int×Int×Int×(List (Int×Int))×Int×Int)):Nat→Int→(List (Int×Int×((Int×Int)×(Int×Int))×Int×Int))→Option ((List (Int×Int×((Int×Int)×(Int×Int))×Int×Int)))
 |0,_,_=>none
 |n+1,ah,l468=>
  bif decide (ah<(f291.length:Int)) then(
   (nth f291 ah).bind fun(az,ay,aw,av,au,aq)=>
   (DV N az ay aw av au aq).bind fun((cn,ck,((cj,ci),(ce,b9)),bz,bw),gc)=>
   (bif gc then(
     gd ((l468.length+1)*64≤140737488355328)<|
     some (l468++[(cn,ck,((cj,ci),(ce,b9)),bz,bw)]))
    else(
     some l468):Option ((List (Int×Int×((Int×Int)×(Int×Int))×Int×Int)))).bind fun dt=>
   gd (I64 (ah+1))<|
   (Dy N f291 az ay aw av au aq N (ah+1) dt).bind fun dq=>
   gd (I64 (ah+1))<|
   EB N f291 n (ah+1) dq)
  else(
   some l468)
def E5 (N:Nat) (f291:List (Int×Int×Int×(List (Int×Int))×Int×Int)):Option (List (Int×Int×((Int×Int)×(Int×Int))×Int×Int)):=
 (Bp N f291).bind fun gf=>
 bif !gf then(
  some [])
 else(
  (EB N f291 N 0 []).bind fun gy=>
  some gy)
@[go_sem] def s57 (N:Nat):Spec:=p0<|pG<|pD Ak fun f291=>pE<|pE<|pF (E5 N f291) [] fun r=>BD r
end Go.Proofs.YtciphecegkfaiaaGreat.Am
namespace Go.Proofs.YtciphecegkfaiaaGreat.Am
open Go
attribute [local irreducible] awp B5 BR Bx B3 Bw Bn BS B1 itK
set_option maxRecDepth 100000
set_option maxHeartbeats 8000000
set_option linter.unusedSimpArgs false
set_option linter.unusedVariables false
def DX (N:Nat) (f1:List (Int×Int×Int×(List (Int×Int))×Int×Int)) (u2:Int) (u3:Int) (u4:Int) (u5:List (Int×Int)) (u6:Int) (u7:Int):Nat→Bool→Int→(List (Int×Int×Int×(List (Int×Int))×Int×Int))→Option (Bool×(List (Int×Int×Int×(List (Int×Int))×Int×Int)))
 |0,_,_,_=>none
 |n+1,aa,i83,l84=>
  bif decide (i83<(f1.length:Int)) then(
   gd ((!aa)=true→(0≤i83∧i83<(f1.length:Int)))<|
   (bif (!aa)&&(decide (u2<(f1.getD i83.toNat (0,0,0,[],0,0)).1)) then(
     (BM N u2 u3 u4 u5 u6 u7).bind fun(bm,bj,bi,bh,bg,be)=>
     gd ((l84.length+1)*64≤140737488355328)<|
     some (true,l84++[(bm,bj,bi,bh,bg,be)]))
    else(
     some (aa,l84)):Option (Bool×(List (Int×Int×Int×(List (Int×Int))×Int×Int)))).bind fun(ab,l115)=>
   (nth f1 i83).bind fun(x117,x118,bq,bp,x121,x122)=>
   (BM N x117 x118 bq bp x121 x122).bind fun(bb,ba,az,ay,aw,av)=>
   gd ((l115.length+1)*64≤140737488355328)<|
   gd (I64 (i83+1))<|
   DX N f1 u2 u3 u4 u5 u6 u7 n ab (i83+1) (l115++[(bb,ba,az,ay,aw,av)]))
  else(
   some (aa,l84))
def FB (N:Nat) (f1:List (Int×Int×Int×(List (Int×Int))×Int×Int)) (u2:Int) (u3:Int) (u4:Int) (u5:List (Int×Int)) (u6:Int) (u7:Int):Option ((List (Int×Int×Int×(List (Int×Int))×Int×Int))×Int):=
 (Bp N f1).bind fun r8=>
 bif !r8 then(
  some ([],120))
 else(
  (DX N f1 u2 u3 u4 u5 u6 u7 N false 0 []).bind fun(af,l137)=>
  (bif !af then(
    (BM N u2 u3 u4 u5 u6 u7).bind fun(au,aq,an,am,ak,aj)=>
    gd ((l137.length+1)*64≤140737488355328)<|
    some (l137++[(au,aq,an,am,ak,aj)]))
   else(
    some l137):Option ((List (Int×Int×Int×(List (Int×Int))×Int×Int)))).bind fun bo=>
  (Bp N bo).bind fun br=>
  bif !br then(
   some ([],120))
  else(
   some (bo,0)))
@[go_sem] def s49 (N:Nat):Spec:=p0<|pG<|pD Ak fun f1=>pE<|pG<|pI fun u2=>pI fun u3=>pI fun u4=>pD Ap fun u5=>pI fun u6=>pI fun u7=>pE<|pE<|pF (FB N f1 u2 u3 u4 u5 u6 u7) ([],0) fun r=> .tup [.agg [Af r.1],.i r.2]
theorem mF (N:Nat):FOK Tryz.prog 49 (s49 N):=by
 refine Al x49.ok<|AW<|CQ fun f1=>Ah<|AW<|Ac fun u2=>Ac fun u3=>Ac fun u4=>CQ fun u5=>Ac fun u6=>Ac fun u7=>Ah<|Ah<|An fun r h=>wx x49 (Aa (JR N)<|Aa (QV N)<|Aj) fun _ hS F=> ?_
 dsimp only[x49,mkX,Ap,Ak]
 unfold FB at h
 obtain⟨r8,cr,h⟩:=un h
 replace F:=fc cr F
 refine gcb hS F h (fun _ h=> ?_) (fun _ h=> ?_)
 ·exact Ad hS F h
 ·refine go hS F ?_
  refine DR 1000001 (300,3) 0 6 [.i 0,.i 0,.i 0,.sl 0 true [] [],.i 0,.i 0] (by omega) (ev F) ?_
  obtain⟨cj,cu,h⟩:=un h
  refine go hS F ?_
  refine Au cj (fun z:Bool×(List (Int×Int×Int×(List (Int×Int))×Int×Int))×Nat=>⟨[(3,.box (1,1) 0),(4,.box (2,1) 0),(6,.box (300,3) 0),(7,.b z.1)],[(.c (300,3) 0,.own (1000001,6) z.2.1.length),(.a (1000001,6),BK z.2.1),(.c (2,1) 0,.sl 0 true [] []),(.c (1,1) 0,.i u2),(.c (1,1) 1,.i u3),(.c (1,1) 2,.i u4),(.c (1,1) 3,A1 u5),(.c (1,1) 4,.i u6),(.c (1,1) 5,.i u7)],z.2.2⟩) (fun z=>((z.1,z.2.1):Bool×(List (Int×Int×Int×(List (Int×Int))×Int×Int)))) (.x 0) ?_ ?_
  ·refine Aq (fun n (y:Bool×Int×(List (Int×Int×Int×(List (Int×Int))×Int×Int))×Nat)=>DX N f1 u2 u3 u4 u5 u6 u7 n y.1 y.2.1 y.2.2.1) (fun y=>⟨[(2,.box (0,1) 0),(3,.box (1,1) 0),(4,.box (2,1) 0),(6,.box (300,3) 0),(7,.b y.1),(8,.i y.2.1)],[(.c (300,3) 0,.own (1000001,6) y.2.2.1.length),(.a (1000001,6),BK y.2.2.1),(.c (2,1) 0,.sl 0 true [] []),(.c (1,1) 0,.i u2),(.c (1,1) 1,.i u3),(.c (1,1) 2,.i u4),(.c (1,1) 3,A1 u5),(.c (1,1) 4,.i u6),(.c (1,1) 5,.i u7),(.c (0,1) 0,Af f1)],y.2.2.2⟩) (false,0,[],6) cu (leF F) ?_
   rintro n ⟨aa,i83,l84,cn⟩ ae
   simp only[DX] at ae
   refine gcb hS F ae (fun _ ae=> ?_) (fun _ ae=> ?_)
   ·obtain⟨dh,ae⟩:=un ae
    obtain⟨ck,ai,ae⟩:=un ae
    refine go hS F ?_
    refine Au ck (fun z:Bool×(List (Int×Int×Int×(List (Int×Int))×Int×Int))×Nat=>⟨[(2,.box (0,1) 0),(3,.box (1,1) 0),(4,.box (2,1) 0),(6,.box (300,3) 0),(7,.b z.1),(8,.i i83)],[(.c (300,3) 0,.own (1000001,6) z.2.1.length),(.a (1000001,6),BK z.2.1),(.c (2,1) 0,.sl 0 true [] []),(.c (1,1) 0,.i u2),(.c (1,1) 1,.i u3),(.c (1,1) 2,.i u4),(.c (1,1) 3,A1 u5),(.c (1,1) 4,.i u6),(.c (1,1) 5,.i u7),(.c (0,1) 0,Af f1)],z.2.2⟩) (fun z=>((z.1,z.2.1):Bool×(List (Int×Int×Int×(List (Int×Int))×Int×Int)))) .n ?_ ?_
    ·refine gcb hS F ai (fun _ ai=> ?_) (fun _ ai=> ?_)
     ·obtain⟨⟨bm,bj,bi,bh,bg,be⟩,bz,ai⟩:=un ai
      obtain⟨dg,ai⟩:=un ai
      exact gck hS (fc bz F) (true,l84++[(bm,bj,bi,bh,bg,be)],cn+1+1+1+1) ai
     ·exact gck hS F (aa,l84,cn+1+1) ai
    ·rintro⟨ab,l115,co⟩ rfl
     obtain⟨⟨x117,x118,bq,bp,x121,x122⟩,b9,ae⟩:=un ae
     obtain⟨cq,F⟩:=rqG Ai b9 F
     obtain⟨⟨bb,ba,az,ay,aw,av⟩,bw,ae⟩:=un ae
     obtain⟨de,db,ae⟩:=un ae
     exact gbk hS (fc bw F) (n,ab,i83+1,l115++[(bb,ba,az,ay,aw,av)],co+1+1) ae
   ·exact gck hS F (aa,l84,cn+1) ae
  ·rintro⟨af,l137,ce⟩ rfl
   obtain⟨ci,ah,h⟩:=un h
   refine go hS F ?_
   refine Au ci (fun z:(List (Int×Int×Int×(List (Int×Int))×Int×Int))×Nat=>⟨[(4,.box (2,1) 0),(6,.box (300,3) 0)],[(.c (300,3) 0,.own (1000001,6) z.1.length),(.a (1000001,6),BK z.1),(.c (2,1) 0,.sl 0 true [] [])],z.2⟩) (fun z=>(z.1:(List (Int×Int×Int×(List (Int×Int))×Int×Int)))) .n ?_ ?_
   ·refine gcb hS F ah (fun _ ah=> ?_) (fun _ ah=> ?_)
    ·obtain⟨⟨au,aq,an,am,ak,aj⟩,bv,ah⟩:=un ah
     obtain⟨cz,ah⟩:=un ah
     exact gck hS (fc bv F) (l137++[(au,aq,an,am,ak,aj)],ce+1+1) ah
    ·exact gck hS F (l137,ce+1) ah
   ·rintro⟨bo,cy⟩ rfl
    obtain⟨br,bu,h⟩:=un h
    replace F:=fc bu F
    refine gcb hS F h (fun _ h=> ?_) (fun _ h=> ?_)
    ·exact Ad hS F h
    ·exact Ad hS F h
end Go.Proofs.YtciphecegkfaiaaGreat.Am
namespace Go.Proofs.YtciphecegkfaiaaGreat.Am
open Go
attribute [local irreducible] awp B5 BR Bx B3 Bw Bn BS B1 itK
set_option maxRecDepth 100000
set_option maxHeartbeats 8000000
set_option linter.unusedSimpArgs false
set_option linter.unusedVariables false
def Gx (x:Int×Int×Int×Int×Int×Int):List AV:=[.i x.1,.i x.2.1,.i x.2.2.1,.i x.2.2.2.1,.i x.2.2.2.2.1,.i x.2.2.2.2.2]
def LS:List AV→Int×Int×Int×Int×Int×Int
 |[.v (.int _ a1),.v (.int _ a2),.v (.int _ a3),.v (.int _ a4),.v (.int _ a5),.v (.int _ a6)]=>(a1,a2,a3,a4,a5,a6)
 |_=>(0,0,0,0,0,0)
theorem V7 (x:Int×Int×Int×Int×Int×Int):LS (Gx x)=x:=by rfl
theorem V8 (R:List (Int×Int×Int×Int×Int×Int)):(R.map Gx).map LS=R:=by
 induction R with
 |nil=>rfl
 |cons r R ih=>rw[List.map_cons,List.map_cons,ih,V7]
theorem V9 (R:List (Int×Int×Int×Int×Int×Int)) (i:Nat):BJ (R.map Gx) [.i 0,.i 0,.i 0,.i 0,.i 0,.i 0] i=Gx (R.getD i (0,0,0,0,0,0)):=by
 unfold BJ;rw[List.getD_eq_getElem?_getD,List.getD_eq_getElem?_getD,List.getElem?_map];cases R[i]? <;>rfl
def NK:Rw (Int×Int×Int×Int×Int×Int):=⟨6,Gx,LS,[.i 0,.i 0,.i 0,.i 0,.i 0,.i 0]⟩
def G8 (l:List (Int×Int×Int×Int×Int×Int)):AV:= .sl 6 false (l.map Gx) [.i 0,.i 0,.i 0,.i 0,.i 0,.i 0]
def Yi (l:List (Int×Int×Int×Int×Int×Int)):AV:= .sl 6 true (l.map Gx) [.i 0,.i 0,.i 0,.i 0,.i 0,.i 0]
attribute [go_sem] NK G8 Yi Gx LS V8 V9
def CD (N:Nat) (ah:Int) (ay:Int) (x162:Int) (x163:Int) (x164:Int) (x165:Int) (x166:Int):Option (Int×Int×Int×(List (Int×Int))×Int×Int):=
 (Ae N ay 9).bind fun aa=>
 gd (I64 (4*aa))<|
 (Ae N x162 6).bind fun ab=>
 gd (I64 (4*ab))<|
 (Ae N x163 4).bind fun ae=>
 gd (I64 (1+ae))<|
 gd (I64 (4*(1+ae)))<|
 gd (I64 ((4*aa)+(4*(1+ae))))<|
 (Ae N x164 2).bind fun af=>
 gd (I64 (1+af))<|
 gd (I64 (4*(1+af)))<|
 gd (I64 ((4*ab)+(4*(1+af))))<|
 (Ae N x165 8).bind fun aw=>
 bif decide (aw=4) then(
  gd (I64 ((min ((4*aa)+(4*(1+ae))) 40)-1))<|
  gd (I64 ((4*aa)+1))<|
  (Ae N x166 4).bind fun fb=>
  bif decide (fb=3) then(
   gd (I64 (x166.tdiv 4))<|
   (Ae N (x166.tdiv 4) 4).bind fun av=>
   gd (I64 (av+1))<|
   gd (I64 (x166.tdiv 16))<|
   (Ae N (x166.tdiv 16) 4).bind fun bz=>
   gd (I64 ((av+1)+bz))<|
   (Ae N ah 100).bind fun e9=>
   gd (I64 (x166.tdiv 64))<|
   (Ae N (x166.tdiv 64) 8).bind fun bw=>
   gd (I64 (1+bw))<|
   gd (I64 (x166.tdiv 512))<|
   (Ae N (x166.tdiv 512) 8).bind fun e8=>
   some (e9,1+bw,e8,[(4*aa,4*ab),(min ((4*aa)+(4*(1+ae))) 40,4*ab),((min ((4*aa)+(4*(1+ae))) 40)-1,(4*ab)+(4*(1+af))),((4*aa)+1,(4*ab)+(4*(1+af)))],av,(av+1)+bz))
  else(
   (Ae N ah 100).bind fun ez=>
   gd (I64 (x166.tdiv 64))<|
   (Ae N (x166.tdiv 64) 8).bind fun bv=>
   gd (I64 (1+bv))<|
   gd (I64 (x166.tdiv 512))<|
   (Ae N (x166.tdiv 512) 8).bind fun eu=>
   some (ez,1+bv,eu,[(4*aa,4*ab),(min ((4*aa)+(4*(1+ae))) 40,4*ab),((min ((4*aa)+(4*(1+ae))) 40)-1,(4*ab)+(4*(1+af))),((4*aa)+1,(4*ab)+(4*(1+af)))],0,4)))
 else(
  bif decide (aw=5) then(
   gd (I64 ((4*aa)+1))<|
   gd (I64 ((min ((4*aa)+(4*(1+ae))) 40)-1))<|
   (Ae N x166 4).bind fun em=>
   bif decide (em=3) then(
    gd (I64 (x166.tdiv 4))<|
    (Ae N (x166.tdiv 4) 4).bind fun au=>
    gd (I64 (au+1))<|
    gd (I64 (x166.tdiv 16))<|
    (Ae N (x166.tdiv 16) 4).bind fun bu=>
    gd (I64 ((au+1)+bu))<|
    (Ae N ah 100).bind fun ej=>
    gd (I64 (x166.tdiv 64))<|
    (Ae N (x166.tdiv 64) 8).bind fun r279=>
    gd (I64 (1+r279))<|
    gd (I64 (x166.tdiv 512))<|
    (Ae N (x166.tdiv 512) 8).bind fun ei=>
    some (ej,1+r279,ei,[((4*aa)+1,4*ab),((min ((4*aa)+(4*(1+ae))) 40)-1,4*ab),(min ((4*aa)+(4*(1+ae))) 40,(4*ab)+(4*(1+af))),(4*aa,(4*ab)+(4*(1+af)))],au,(au+1)+bu))
   else(
    (Ae N ah 100).bind fun eh=>
    gd (I64 (x166.tdiv 64))<|
    (Ae N (x166.tdiv 64) 8).bind fun br=>
    gd (I64 (1+br))<|
    gd (I64 (x166.tdiv 512))<|
    (Ae N (x166.tdiv 512) 8).bind fun d9=>
    some (eh,1+br,d9,[((4*aa)+1,4*ab),((min ((4*aa)+(4*(1+ae))) 40)-1,4*ab),(min ((4*aa)+(4*(1+ae))) 40,(4*ab)+(4*(1+af))),(4*aa,(4*ab)+(4*(1+af)))],0,4)))
  else(
   bif decide (aw=6) then(
    (Ae N x166 4).bind fun d8=>
    bif decide (d8=3) then(
     gd (I64 (x166.tdiv 4))<|
     (Ae N (x166.tdiv 4) 4).bind fun aq=>
     gd (I64 (aq+1))<|
     gd (I64 (x166.tdiv 16))<|
     (Ae N (x166.tdiv 16) 4).bind fun bq=>
     gd (I64 ((aq+1)+bq))<|
     (Ae N ah 100).bind fun d7=>
     gd (I64 (x166.tdiv 64))<|
     (Ae N (x166.tdiv 64) 8).bind fun bp=>
     gd (I64 (1+bp))<|
     gd (I64 (x166.tdiv 512))<|
     (Ae N (x166.tdiv 512) 8).bind fun d6=>
     some (d7,1+bp,d6,[(4*aa,4*ab),(min ((4*aa)+(4*(1+ae))) 40,4*ab),(min ((4*aa)+(4*(1+ae))) 40,(4*ab)+(4*(1+af)))],aq,(aq+1)+bq))
    else(
     (Ae N ah 100).bind fun d5=>
     gd (I64 (x166.tdiv 64))<|
     (Ae N (x166.tdiv 64) 8).bind fun bo=>
     gd (I64 (1+bo))<|
     gd (I64 (x166.tdiv 512))<|
     (Ae N (x166.tdiv 512) 8).bind fun dz=>
     some (d5,1+bo,dz,[(4*aa,4*ab),(min ((4*aa)+(4*(1+ae))) 40,4*ab),(min ((4*aa)+(4*(1+ae))) 40,(4*ab)+(4*(1+af)))],0,4)))
   else(
    bif decide (aw=7) then(
     (Ae N x166 4).bind fun dw=>
     bif decide (dw=3) then(
      gd (I64 (x166.tdiv 4))<|
      (Ae N (x166.tdiv 4) 4).bind fun an=>
      gd (I64 (an+1))<|
      gd (I64 (x166.tdiv 16))<|
      (Ae N (x166.tdiv 16) 4).bind fun bm=>
      gd (I64 ((an+1)+bm))<|
      (Ae N ah 100).bind fun du=>
      gd (I64 (x166.tdiv 64))<|
      (Ae N (x166.tdiv 64) 8).bind fun bj=>
      gd (I64 (1+bj))<|
      gd (I64 (x166.tdiv 512))<|
      (Ae N (x166.tdiv 512) 8).bind fun dt=>
      some (du,1+bj,dt,[(4*aa,4*ab),(min ((4*aa)+(4*(1+ae))) 40,(4*ab)+(4*(1+af))),(4*aa,(4*ab)+(4*(1+af)))],an,(an+1)+bm))
     else(
      (Ae N ah 100).bind fun dq=>
      gd (I64 (x166.tdiv 64))<|
      (Ae N (x166.tdiv 64) 8).bind fun bi=>
      gd (I64 (1+bi))<|
      gd (I64 (x166.tdiv 512))<|
      (Ae N (x166.tdiv 512) 8).bind fun dp=>
      some (dq,1+bi,dp,[(4*aa,4*ab),(min ((4*aa)+(4*(1+ae))) 40,(4*ab)+(4*(1+af))),(4*aa,(4*ab)+(4*(1+af)))],0,4)))
    else(
     (Ae N x166 4).bind fun dm=>
     bif decide (dm=3) then(
      gd (I64 (x166.tdiv 4))<|
      (Ae N (x166.tdiv 4) 4).bind fun am=>
      gd (I64 (am+1))<|
      gd (I64 (x166.tdiv 16))<|
      (Ae N (x166.tdiv 16) 4).bind fun bh=>
      gd (I64 ((am+1)+bh))<|
      (Ae N ah 100).bind fun dl=>
      gd (I64 (x166.tdiv 64))<|
      (Ae N (x166.tdiv 64) 8).bind fun bg=>
      gd (I64 (1+bg))<|
      gd (I64 (x166.tdiv 512))<|
      (Ae N (x166.tdiv 512) 8).bind fun dh=>
      some (dl,1+bg,dh,[(4*aa,4*ab),(min ((4*aa)+(4*(1+ae))) 40,4*ab),(min ((4*aa)+(4*(1+ae))) 40,(4*ab)+(4*(1+af))),(4*aa,(4*ab)+(4*(1+af)))],am,(am+1)+bh))
     else(
      (Ae N ah 100).bind fun dg=>
      gd (I64 (x166.tdiv 64))<|
      (Ae N (x166.tdiv 64) 8).bind fun be=>
      gd (I64 (1+be))<|
      gd (I64 (x166.tdiv 512))<|
      (Ae N (x166.tdiv 512) 8).bind fun de=>
      some (dg,1+be,de,[(4*aa,4*ab),(min ((4*aa)+(4*(1+ae))) 40,4*ab),(min ((4*aa)+(4*(1+ae))) 40,(4*ab)+(4*(1+af))),(4*aa,(4*ab)+(4*(1+af)))],0,4))))))
@[go_sem] def s14 (N:Nat):Spec:=p0<|pI fun ah=>pG<|pI fun ay=>pI fun x162=>pI fun x163=>pI fun x164=>pI fun x165=>pI fun x166=>pE<|pE<|pF (CD N ah ay x162 x163 x164 x165 x166) (0,0,0,[],0,0) fun r=> .agg [.i r.1,.i r.2.1,.i r.2.2.1,A1 r.2.2.2.1,.i r.2.2.2.2.1,.i r.2.2.2.2.2]
theorem UI (N:Nat):FOK Tryz.prog 14 (s14 N):=by
 refine Al x14.ok<|Ac fun ah=>AW<|Ac fun ay=>Ac fun x162=>Ac fun x163=>Ac fun x164=>Ac fun x165=>Ac fun x166=>Ah<|Ah<|An fun r h=>wx x14 (Aa (Y5 N)<|Aj) fun _ hS F=> ?_
 dsimp only[x14,mkX]
 unfold CD at h
 obtain⟨aa,ji,ng,ab,jh,nb,ae,jg,lj,kl,j5,af,jf,jq,m9,m8,aw,je,h⟩:=un h
 replace F:=fc je (fc jf (fc jg (fc jh (fc ji F))))
 refine gcb hS F h (fun _ h=> ?_) (fun _ h=> ?_)
 ·obtain⟨m7,mu,fb,jd,h⟩:=un h
  replace F:=fc jd F
  refine gcb hS F h (fun _ h=> ?_) (fun _ h=> ?_)
  ·obtain⟨mr,av,jc,mq,mo,bz,jb,mn,e9,ja,mj,bw,i9,mh,mg,e8,i8,h⟩:=un h
   exact Ad hS (fc i8 (fc i9 (fc ja (fc jb (fc jc F))))) h
  ·obtain⟨ez,i7,me,bv,i6,md,mb,eu,iz,h⟩:=un h
   exact Ad hS (fc iz (fc i6 (fc i7 F))) h
 ·refine gcb hS F h (fun _ h=> ?_) (fun _ h=> ?_)
  ·obtain⟨ma,l7,em,iy,h⟩:=un h
   replace F:=fc iy F
   refine gcb hS F h (fun _ h=> ?_) (fun _ h=> ?_)
   ·obtain⟨l6,au,iw,l5,lz,bu,iv,lw,ej,iu,lr,r279,ir,lq,lm,ei,iq,h⟩:=un h
    exact Ad hS (fc iq (fc ir (fc iu (fc iv (fc iw F))))) h
   ·obtain⟨eh,ip,li,br,im,lh,lg,d9,il,h⟩:=un h
    exact Ad hS (fc il (fc im (fc ip F))) h
  ·refine gcb hS F h (fun _ h=> ?_) (fun _ h=> ?_)
   ·obtain⟨d8,ij,h⟩:=un h
    replace F:=fc ij F
    refine gcb hS F h (fun _ h=> ?_) (fun _ h=> ?_)
    ·obtain⟨lf,aq,ig,k9,kw,bq,ie,kv,d7,ic,kr,bp,ib,kq,km,d6,g9,h⟩:=un h
     exact Ad hS (fc g9 (fc ib (fc ic (fc ie (fc ig F))))) h
    ·obtain⟨d5,g8,kj,bo,gz,ki,kh,dz,gy,h⟩:=un h
     exact Ad hS (fc gy (fc gz (fc g8 F))) h
   ·refine gcb hS F h (fun _ h=> ?_) (fun _ h=> ?_)
    ·obtain⟨dw,gx,h⟩:=un h
     replace F:=fc gx F
     refine gcb hS F h (fun _ h=> ?_) (fun _ h=> ?_)
     ·obtain⟨kg,an,gw,kf,ke,bm,gu,j9,du,gt,j8,bj,gr,j7,j6,dt,gj,h⟩:=un h
      exact Ad hS (fc gj (fc gr (fc gt (fc gu (fc gw F))))) h
     ·obtain⟨dq,gi,j4,bi,gh,jz,jy,dp,gg,h⟩:=un h
      exact Ad hS (fc gg (fc gh (fc gi F))) h
    ·obtain⟨dm,gf,h⟩:=un h
     replace F:=fc gf F
     refine gcb hS F h (fun _ h=> ?_) (fun _ h=> ?_)
     ·obtain⟨jx,am,gc,jw,jv,bh,fy,ju,dl,fx,jt,bg,fr,js,jr,dh,fq,h⟩:=un h
      exact Ad hS (fc fq (fc fr (fc fx (fc fy (fc gc F))))) h
     ·obtain⟨dg,fp,jp,be,fo,jo,jn,de,fm,h⟩:=un h
      exact Ad hS (fc fm (fc fo (fc fp F))) h
def C3 (N:Nat) (x429:List (Int×Int×Int×Int×Int×Int)):Nat→Int→(List (Int×Int×Int×(List (Int×Int))×Int×Int))→Option ((List (Int×Int×Int×(List (Int×Int))×Int×Int)))
 |0,_,_=>none
 |n+1,ai,ak=>
  bif (decide (ai<(x429.length:Int)))&&(decide (ai<12)) then(
   gd (I64 (3*ai))<|
   (nth x429 ai).bind fun(cn,ck,cj,ci,ce,az)=>
   (Ae N az 3).bind fun bb=>
   gd (I64 ((3*ai)+bb))<|
   (CD N ((3*ai)+bb) cn ck cj ci ce az).bind fun(db,cz,cy,cu,cr,cq)=>
   (FB N ak db cz cy cu cr cq).bind fun(ba,co)=>
   bif decide (co=0) then(
    gd (I64 (ai+1))<|
    C3 N x429 n (ai+1) ba)
   else(
    gd (I64 (ai+1))<|
    C3 N x429 n (ai+1) ak))
  else(
   some ak)
def Cx (N:Nat) (x429:List (Int×Int×Int×Int×Int×Int)):Option (List (Int×Int×Int×(List (Int×Int))×Int×Int)):=
 (C3 N x429 N 0 []).bind fun jk=>
 some jk
@[go_sem] def s12 (N:Nat):Spec:=p0<|pS NK fun x429=>pE<|pF (Cx N x429) [] fun r=> .agg [Af r]
theorem M8 (N:Nat):FOK Tryz.prog 12 (s12 N):=by
 refine Al x12.ok<|A3 fun x429=>Ah<|An fun r h=>wx x12 (Aa (Y5 N)<|Aa (UI N)<|Aa (mF N)<|Aj) fun _ hS F=> ?_
 dsimp only[x12,mkX,NK]
 unfold Cx at h
 refine go hS F ?_
 refine Z1 (100,2) 0 6 [.i 0,.i 0,.i 0,.sl 0 true [] [],.i 0,.i 0] (ev F) ?_
 obtain⟨jl,my,h⟩:=un h
 refine go hS F ?_
 refine Au jl (fun z:(List (Int×Int×Int×(List (Int×Int))×Int×Int))×Nat=>⟨[(2,.box (0,1) 0),(3,.box (100,2) 0)],[(.c (100,2) 0,Af z.1),(.c (0,1) 0,.sl 0 true [] [])],z.2⟩) (fun z=>(z.1:(List (Int×Int×Int×(List (Int×Int))×Int×Int)))) (.x 0) ?_ ?_
 ·refine Aq (fun n (y:Int×(List (Int×Int×Int×(List (Int×Int))×Int×Int))×Nat)=>C3 N x429 n y.1 y.2.1) (fun y=>⟨[(0,G8 x429),(2,.box (0,1) 0),(3,.box (100,2) 0),(4,.i y.1)],[(.c (100,2) 0,Af y.2.1),(.c (0,1) 0,.sl 0 true [] [])],y.2.2⟩) (0,[],3) my (leF F) ?_
  rintro n ⟨ai,ak,b9⟩ aj
  simp only[C3] at aj
  refine gcb hS F aj (fun _ aj=> ?_) (fun _ aj=> ?_)
  ·obtain⟨lj,⟨cn,ck,cj,ci,ce,az⟩,jj,aj⟩:=un aj
   obtain⟨jm,F⟩:=rqG Gx jj F
   obtain⟨bb,fj,kl,⟨db,cz,cy,cu,cr,cq⟩,fh,aj⟩:=un aj
   obtain⟨⟨ba,co⟩,fg,aj⟩:=un aj
   replace F:=fc fg (fc fh (fc fj F))
   refine gcb hS F aj (fun _ aj=> ?_) (fun _ aj=> ?_)
   ·obtain⟨j5,aj⟩:=un aj
    exact gbk hS F (n,ai+1,ba,b9+1+1+1+1+1) aj
   ·obtain⟨jq,aj⟩:=un aj
    exact gbk hS F (n,ai+1,ak,b9+1+1+1+1) aj
  ·exact gck hS F (ak,b9+1) aj
 ·rintro⟨jk,mz⟩ rfl
  exact Ad hS F h
end Go.Proofs.YtciphecegkfaiaaGreat.Am
