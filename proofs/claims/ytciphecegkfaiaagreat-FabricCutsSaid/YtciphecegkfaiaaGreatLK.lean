import Derived.Test.YtciphecegkfaiaaGreatNS
namespace Go.Proofs.YtciphecegkfaiaaGreat.Am
open Go
attribute [local irreducible] awp B5 BR Bx B3 Bw Bn BS B1 itK
set_option maxRecDepth 100000
set_option maxHeartbeats 8000000
set_option linter.unusedSimpArgs false
set_option linter.unusedVariables false
def Ew (N:Nat) (r284:List (Int×Int×((Int×Int)×(Int×Int))×Int×Int)) (ah:Int):Nat→Int→Int→(List (Int×Int×((Int×Int)×(Int×Int))×Int×Int))→Option (Int×(List (Int×Int×((Int×Int)×(Int×Int))×Int×Int)))
 |0,_,_,_=>none
 |n+1,aj,bg,l310=>
  bif decide (bg<(r284.length:Int)) then(
   (nth r284 bg).bind fun(bq,bp,((b9,bz),(bw,bv)),bu,br)=>
   bif (decide (bq≠ah))&&(decide (bp≠ah)) then(
    gd ((l310.length+1)*64≤140737488355328)<|
    gd (I64 (bg+1))<|
    Ew N r284 ah n aj (bg+1) (l310++[(bq,bp,((b9,bz),(bw,bv)),bu,br)]))
   else(
    gd (I64 (aj+1))<|
    gd (I64 (bg+1))<|
    Ew N r284 ah n (aj+1) (bg+1) l310))
  else(
   some (aj,l310))
def Ex (N:Nat) (r328:List (Int×Int)) (ah:Int):Nat→Int→(List (Int×Int))→Option ((List (Int×Int)))
 |0,_,_=>none
 |n+1,be,l341=>
  bif decide (be<(r328.length:Int)) then(
   (nth r328 be).bind fun(bo,bm)=>
   bif (decide (bo≠ah))&&(decide (bm≠ah)) then(
    gd ((l341.length+1)*16≤140737488355328)<|
    gd (I64 (be+1))<|
    Ex N r328 ah n (be+1) (l341++[(bo,bm)]))
   else(
    gd (I64 (be+1))<|
    Ex N r328 ah n (be+1) l341))
  else(
   some l341)
def Ey (N:Nat) (f281:List (Int×Int×Int×(List (Int×Int))×Int×Int)) (az:Int) (ay:Int) (aw:Int) (av:List (Int×Int)) (au:Int) (aq:Int):Nat→Int→Int→Option Int
 |0,_,_=>none
 |n+1,af,bb=>
  bif decide (bb<(f281.length:Int)) then(
   (nth f281 bb).bind fun(de,db,cz,cy,cu,cr)=>
   (Eg N az ay aw av au aq de db cz cy cu cr).bind fun((gh,gf,((gc,fq),(fj,fh)),fg,fb),dh)=>
   bif dh then(
    gd (I64 (af+1))<|
    gd (I64 (bb+1))<|
    Ey N f281 az ay aw av au aq n (af+1) (bb+1))
   else(
    gd (I64 (bb+1))<|
    Ey N f281 az ay aw av au aq n af (bb+1)))
  else(
   some af)
def Ez (N:Nat) (f281:List (Int×Int×Int×(List (Int×Int))×Int×Int)) (ai:List (Int×Int×Int×(List (Int×Int))×Int×Int)) (ah:Int):Option Bool:=
 (Bi N ai).bind fun r284=>
 (Ew N r284 ah N 0 0 []).bind fun(ae,l326)=>
 (Co N ai).bind fun r328=>
 (Ex N r328 ah N 0 []).bind fun l349=>
 (El N ai ah).bind fun((az,ay,aw,av,au,aq),an)=>
 (Ey N f281 az ay aw av au aq N 0 0).bind fun aa=>
 (Dl N az ay aw av au aq).bind fun((e9,ez,((eh,d9),(d8,d7)),d6,d5),dg)=>
 bif dg then(
  gd (I64 (aa+1))<|
  gd ((an&&(decide (ae=aa+1)))=true→((Bi N f281).isSome=true))<|
  gd ((an&&(decide (ae=aa+1)))=true→((Bj N ((Bi N f281).getD []) l326).isSome=true))<|
  gd (((an&&(decide (ae=aa+1)))&&((Bj N ((Bi N f281).getD []) l326).getD false))=true→((Co N f281).isSome=true))<|
  gd (((an&&(decide (ae=aa+1)))&&((Bj N ((Bi N f281).getD []) l326).getD false))=true→((Cq N ((Co N f281).getD []) l349).isSome=true))<|
  some (((an&&(decide (ae=aa+1)))&&((Bj N ((Bi N f281).getD []) l326).getD false))&&((Cq N ((Co N f281).getD []) l349).getD false)))
 else(
  gd ((an&&(decide (ae=aa)))=true→((Bi N f281).isSome=true))<|
  gd ((an&&(decide (ae=aa)))=true→((Bj N ((Bi N f281).getD []) l326).isSome=true))<|
  gd (((an&&(decide (ae=aa)))&&((Bj N ((Bi N f281).getD []) l326).getD false))=true→((Co N f281).isSome=true))<|
  gd (((an&&(decide (ae=aa)))&&((Bj N ((Bi N f281).getD []) l326).getD false))=true→((Cq N ((Co N f281).getD []) l349).isSome=true))<|
  some (((an&&(decide (ae=aa)))&&((Bj N ((Bi N f281).getD []) l326).getD false))&&((Cq N ((Co N f281).getD []) l349).getD false)))
@[go_sem] def s28 (N:Nat):Spec:=p0<|pG<|pD Ak fun f281=>pE<|pG<|pD Ak fun ai=>pE<|pI fun ah=>pE<|pF (Ez N f281 ai ah) false fun r=> .b r
end Go.Proofs.YtciphecegkfaiaaGreat.Am
