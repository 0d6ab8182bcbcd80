import Derived.Test.YtciphecegkfaiaaGreatNS
namespace Go.Proofs.YtciphecegkfaiaaGreat.Am
open Go
attribute [local irreducible] awp B5 BR Bx B3 Bw Bn BS B1 itK
set_option maxRecDepth 100000
set_option maxHeartbeats 8000000
set_option linter.unusedSimpArgs false
set_option linter.unusedVariables false
def Ew (N:Nat) (r284:List (Int×Int×((Int×Int)×(Int×Int))×Int×Int)) (ah:Int):Nat→Int→Int→(List (Int×Int×((Int×Int)×(Int×Int))×Int×Int))→Option (Int×(List (Int×Int×((Int×Int)×(Int×Int))×Int×Int)))
 |0,_,_,_=>none
 |n+1,aj,bg,l310=>
  bif decide (bg<(r284.length:Int)) then(
   (nth r284 bg).bind fun(bq,bp,((b9,bz),(bw,bv)),bu,br)=>
   bif (decide (bq≠ah))&&(decide (bp≠ah)) then(
    gd ((l310.length+1)*64≤140737488355328)<|
    gd (I64 (bg+1))<|
    Ew N r284 ah n aj (bg+1) (l310++[(bq,bp,((b9,bz),(bw,bv)),bu,br)]))
   else(
    gd (I64 (aj+1))<|
    gd (I64 (bg+1))<|
    Ew N r284 ah n (aj+1) (bg+1) l310))
  else(
   some (aj,l310))
def Ex (N:Nat) (r328:List (Int×Int)) (ah:Int):Nat→Int→(List (Int×Int))→Option ((List (Int×Int)))
 |0,_,_=>none
 |n+1,be,l341=>
  bif decide (be<(r328.length:Int)) then(
   (nth r328 be).bind fun(bo,bm)=>
   bif (decide (bo≠ah))&&(decide (bm≠ah)) then(
    gd ((l341.length+1)*16≤140737488355328)<|
    gd (I64 (be+1))<|
    Ex N r328 ah n (be+1) (l341++[(bo,bm)]))
   else(
    gd (I64 (be+1))<|
    Ex N r328 ah n (be+1) l341))
  else(
   some l341)
def Ey (N:Nat) (f281:List (Int×Int×Int×(List (Int×Int))×Int×Int)) (az:Int) (ay:Int) (aw:Int) (av:List (Int×Int)) (au:Int) (aq:Int):Nat→Int→Int→Option Int
 |0,_,_=>none
 |n+1,af,bb=>
  bif decide (bb<(f281.length:Int)) then(
   (nth f281 bb).bind fun(db,cz,cy,cu,cr,cq)=>
   (Eg N az ay aw av au aq db cz cy cu cr cq).bind fun((gf,gc,((fq,fj),(fh,fg)),fb,e9),dg)=>
   bif dg then(
    gd (I64 (af+1))<|
    gd (I64 (bb+1))<|
    Ey N f281 az ay aw av au aq n (af+1) (bb+1))
   else(
    gd (I64 (bb+1))<|
    Ey N f281 az ay aw av au aq n af (bb+1)))
  else(
   some af)
def Ez (N:Nat) (f281:List (Int×Int×Int×(List (Int×Int))×Int×Int)) (ai:List (Int×Int×Int×(List (Int×Int))×Int×Int)) (ah:Int):Option Bool:=
 (Bi N ai).bind fun r284=>
 (Ew N r284 ah N 0 0 []).bind fun(ae,l326)=>
 (Co N ai).bind fun r328=>
 (Ex N r328 ah N 0 []).bind fun l349=>
 (El N ai ah).bind fun((az,ay,aw,av,au,aq),an)=>
 (Ey N f281 az ay aw av au aq N 0 0).bind fun aa=>
 (Dl N az ay aw av au aq).bind fun((ez,eh,((d9,d8),(d7,d6)),d5,dz),de)=>
 bif de then(
  gd (I64 (aa+1))<|
  gd ((an&&(decide (ae=aa+1)))=true→((Bi N f281).isSome=true))<|
  gd ((an&&(decide (ae=aa+1)))=true→((Bj N ((Bi N f281).getD []) l326).isSome=true))<|
  gd (((an&&(decide (ae=aa+1)))&&((Bj N ((Bi N f281).getD []) l326).getD false))=true→((Co N f281).isSome=true))<|
  gd (((an&&(decide (ae=aa+1)))&&((Bj N ((Bi N f281).getD []) l326).getD false))=true→((Cq N ((Co N f281).getD []) l349).isSome=true))<|
  some (((an&&(decide (ae=aa+1)))&&((Bj N ((Bi N f281).getD []) l326).getD false))&&((Cq N ((Co N f281).getD []) l349).getD false)))
 else(
  gd ((an&&(decide (ae=aa)))=true→((Bi N f281).isSome=true))<|
  gd ((an&&(decide (ae=aa)))=true→((Bj N ((Bi N f281).getD []) l326).isSome=true))<|
  gd (((an&&(decide (ae=aa)))&&((Bj N ((Bi N f281).getD []) l326).getD false))=true→((Co N f281).isSome=true))<|
  gd (((an&&(decide (ae=aa)))&&((Bj N ((Bi N f281).getD []) l326).getD false))=true→((Cq N ((Co N f281).getD []) l349).isSome=true))<|
  some (((an&&(decide (ae=aa)))&&((Bj N ((Bi N f281).getD []) l326).getD false))&&((Cq N ((Co N f281).getD []) l349).getD false)))
@[go_sem] def s28 (N:Nat):Spec:=p0<|pG<|pD Ak fun f281=>pE<|pG<|pD Ak fun ai=>pE<|pI fun ah=>pE<|pF (Ez N f281 ai ah) false fun r=> .b r
theorem mJ (N:Nat):FOK Tryz.prog 28 (s28 N):=by
 refine Al x28.ok<|AW<|CQ fun f281=>Ah<|AW<|CQ fun ai=>Ah<|Ac fun ah=>Ah<|An fun r h=>wx x28 (Aa (Q7 N)<|Aa (Q8 N)<|Aa (QX N)<|Aa (QS N)<|Aa (QT N)<|Aa (UB N)<|Aa (UC N)<|Aj) fun _ hS F=> ?_
 dsimp only[x28,mkX,Ak]
 unfold Ez at h
 obtain⟨r284,dq,h⟩:=un h
 replace F:=fc dq F
 refine go hS F ?_
 refine Cb 1000001 7 8 [.i 0,.i 0,.i 0,.i 0,.i 0,.i 0,.i 0,.i 0] (by show(7:Nat)<138;omega) (by omega) (ev F) ?_
 obtain⟨gj,i6,h⟩:=un h
 refine go hS F ?_
 refine Au gj (fun z:Int×(List (Int×Int×((Int×Int)×(Int×Int))×Int×Int))×Nat=>⟨[(2,.i ah),(3,.box (0,1) 0),(4,.box (1,1) 0),(7,.own (1000001,7) z.2.1.length),(8,.sl 0 true [] []),(10,.i z.1)],[(.a (1000001,7),BH z.2.1),(.c (1,1) 0,Af ai),(.c (0,1) 0,Af f281)],z.2.2⟩) (fun z=>((z.1,z.2.1):Int×(List (Int×Int×((Int×Int)×(Int×Int))×Int×Int)))) (.x 0) ?_ ?_
 ·refine Aq (fun n (y:Int×Int×(List (Int×Int×((Int×Int)×(Int×Int))×Int×Int))×Nat)=>Ew N r284 ah n y.1 y.2.1 y.2.2.1) (fun y=>⟨[(2,.i ah),(3,.box (0,1) 0),(4,.box (1,1) 0),(7,.own (1000001,7) y.2.2.1.length),(8,.sl 0 true [] []),(9,BD r284),(10,.i y.1),(11,.i y.2.1)],[(.a (1000001,7),BH y.2.2.1),(.c (1,1) 0,Af ai),(.c (0,1) 0,Af f281)],y.2.2.2⟩) (0,0,[],7) i6 (leF F) ?_
  rintro n ⟨aj,bg,l310,co⟩ bj
  simp only[Ew] at bj
  refine gcb hS F bj (fun _ bj=> ?_) (fun _ bj=> ?_)
  ·obtain⟨⟨bq,bp,⟨⟨b9,bz⟩,⟨bw,bv⟩⟩,bu,br⟩,dw,bj⟩:=un bj
   obtain⟨gx,F⟩:=rqG BG dw F
   refine gcb hS F bj (fun _ bj=> ?_) (fun _ bj=> ?_)
   ·obtain⟨jc,jb,bj⟩:=un bj
    exact gbk hS F (n,aj,bg+1,l310++[(bq,bp,((b9,bz),(bw,bv)),bu,br)],co+1+1+1+1) bj
   ·obtain⟨ja,i9,bj⟩:=un bj
    exact gbk hS F (n,aj+1,bg+1,l310,co+1+1+1+1) bj
  ·exact gck hS F (aj,l310,co+1) bj
 ·rintro⟨ae,l326,bh⟩ rfl
  obtain⟨r328,dp,h⟩:=un h
  replace F:=fc dp F
  refine go hS F ?_
  refine Cb 1000002 8 2 [.i 0,.i 0] (by show(8:Nat)<138;omega) (by omega) (ev F) ?_
  obtain⟨gi,iz,h⟩:=un h
  refine go hS F ?_
  refine Au gi (fun z:(List (Int×Int))×Nat=>⟨[(2,.i ah),(3,.box (0,1) 0),(4,.box (1,1) 0),(7,.own (1000001,7) l326.length),(8,.own (1000002,bh+1+1+1) z.1.length),(10,.i ae)],[(.a (1000002,bh+1+1+1),Gw z.1),(.a (1000001,7),BH l326),(.c (1,1) 0,Af ai),(.c (0,1) 0,Af f281)],z.2⟩) (fun z=>(z.1:(List (Int×Int)))) (.x 2) ?_ ?_
  ·refine Aq (fun n (y:Int×(List (Int×Int))×Nat)=>Ex N r328 ah n y.1 y.2.1) (fun y=>⟨[(2,.i ah),(3,.box (0,1) 0),(4,.box (1,1) 0),(7,.own (1000001,7) l326.length),(8,.own (1000002,bh+1+1+1) y.2.1.length),(10,.i ae),(12,A1 r328),(13,.i y.1)],[(.a (1000002,bh+1+1+1),Gw y.2.1),(.a (1000001,7),BH l326),(.c (1,1) 0,Af ai),(.c (0,1) 0,Af f281)],y.2.2⟩) (0,[],bh+1+1+1) iz (leF F) ?_
   rintro n ⟨be,l341,ci⟩ bi
   simp only[Ex] at bi
   refine gcb hS F bi (fun _ bi=> ?_) (fun _ bi=> ?_)
   ·obtain⟨⟨bo,bm⟩,du,bi⟩:=un bi
    obtain⟨gw,F⟩:=rqG Br du F
    refine gcb hS F bi (fun _ bi=> ?_) (fun _ bi=> ?_)
    ·obtain⟨i8,iy,bi⟩:=un bi
     exact gbk hS F (n,be+1,l341++[(bo,bm)],ci+1+1+1+1) bi
    ·obtain⟨iw,bi⟩:=un bi
     exact gbk hS F (n,be+1,l341,ci+1+1+1) bi
   ·exact gck hS F (l341,ci+1) bi
  ·rintro⟨l349,am⟩ rfl
   obtain⟨⟨⟨az,ay,aw,av,au,aq⟩,an⟩,dm,h⟩:=un h
   replace F:=fc dm F
   obtain⟨gh,gt,h⟩:=un h
   refine go hS F ?_
   refine Au gh (fun z:Int×Nat=>⟨[(3,.box (0,1) 0),(7,.own (1000001,7) l326.length),(8,.own (1000002,bh+1+1+1) l349.length),(10,.i ae),(14,.box (1706,am+1) 0),(15,.b an),(16,.i z.1)],[(.c (1706,am+1) 0,.i az),(.c (1706,am+1) 1,.i ay),(.c (1706,am+1) 2,.i aw),(.c (1706,am+1) 3,A1 av),(.c (1706,am+1) 4,.i au),(.c (1706,am+1) 5,.i aq),(.a (1000002,bh+1+1+1),Gw l349),(.a (1000001,7),BH l326),(.c (0,1) 0,Af f281)],z.2⟩) (fun z=>(z.1:Int)) (.x 4) ?_ ?_
   ·refine Aq (fun n (y:Int×Int×Nat)=>Ey N f281 az ay aw av au aq n y.1 y.2.1) (fun y=>⟨[(3,.box (0,1) 0),(7,.own (1000001,7) l326.length),(8,.own (1000002,bh+1+1+1) l349.length),(10,.i ae),(14,.box (1706,am+1) 0),(15,.b an),(16,.i y.1),(17,.i y.2.1)],[(.c (1706,am+1) 0,.i az),(.c (1706,am+1) 1,.i ay),(.c (1706,am+1) 2,.i aw),(.c (1706,am+1) 3,A1 av),(.c (1706,am+1) 4,.i au),(.c (1706,am+1) 5,.i aq),(.a (1000002,bh+1+1+1),Gw l349),(.a (1000001,7),BH l326),(.c (0,1) 0,Af f281)],y.2.2⟩) (0,0,am+1+1+1) gt (leF F) ?_
    rintro n ⟨af,bb,ce⟩ ak
    simp only[Ey] at ak
    refine gcb hS F ak (fun _ ak=> ?_) (fun _ ak=> ?_)
    ·obtain⟨⟨db,cz,cy,cu,cr,cq⟩,dt,ak⟩:=un ak
     obtain⟨gu,F⟩:=rqG Ai dt F
     obtain⟨⟨⟨gf,gc,⟨⟨fq,fj⟩,⟨fh,fg⟩⟩,fb,e9⟩,dg⟩,dl,ak⟩:=un ak
     replace F:=fc dl F
     refine gcb hS F ak (fun _ ak=> ?_) (fun _ ak=> ?_)
     ·obtain⟨iv,iq,ak⟩:=un ak
      exact gbk hS F (n,af+1,bb+1,ce+1+1+1+1+1) ak
     ·obtain⟨ip,ak⟩:=un ak
      exact gbk hS F (n,af,bb+1,ce+1+1+1+1) ak
    ·exact gck hS F (af,ce+1) ak
   ·rintro⟨aa,i7⟩ rfl
    obtain⟨⟨⟨ez,eh,⟨⟨d9,d8⟩,⟨d7,d6⟩⟩,d5,dz⟩,de⟩,dh,h⟩:=un h
    replace F:=fc dh F
    refine gcb hS F h (fun _ h=> ?_) (fun _ h=> ?_)
    ·obtain⟨ij,ig,ie,ic,ib,h⟩:=un h
     exact Ad hS F h
    ·obtain⟨g9,g8,gz,gy,h⟩:=un h
     exact Ad hS F h
end Go.Proofs.YtciphecegkfaiaaGreat.Am
