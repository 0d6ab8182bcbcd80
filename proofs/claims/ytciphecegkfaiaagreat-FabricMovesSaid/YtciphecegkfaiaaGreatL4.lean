import Derived.Test.YtciphecegkfaiaaGreatNS
namespace Go.Proofs.YtciphecegkfaiaaGreat.Am
open Go
attribute [local irreducible] awp B5 BR Bx B3 Bw Bn BS B1 itK
set_option maxRecDepth 100000
set_option maxHeartbeats 8000000
set_option linter.unusedSimpArgs false
set_option linter.unusedVariables false
attribute [local go_sem] Q5 Q6
def C4 (N:Nat) (r204:List (Int×Int×((Int×Int)×(Int×Int))×Int×Int)) (ae:Int) (aa:Int):Nat→Int→(List (Int×Int×((Int×Int)×(Int×Int))×Int×Int))→Option ((List (Int×Int×((Int×Int)×(Int×Int))×Int×Int)))
 |0,_,_=>none
 |n+1,ah,l241=>
  bif decide (ah<(r204.length:Int)) then(
   (nth r204 ah).bind fun(be,an,((bb,az),(ay,aw)),av,au)=>
   gd (I64 (bb+(ae-12)))<|
   gd (I64 (az+(max (aa-10) 0)))<|
   (Av N (bb+(ae-12)) (az+(max (aa-10) 0))).bind fun(bj,bi)=>
   gd (I64 (ay+(ae-12)))<|
   gd (I64 (aw+(max (aa-10) 0)))<|
   (Av N (ay+(ae-12)) (aw+(max (aa-10) 0))).bind fun(bh,bg)=>
   bif (decide (max (aa-10) 0=0))||(decide (an≠(-1))) then(
    gd ((l241.length+1)*64≤140737488355328)<|
    gd (I64 (ah+1))<|
    C4 N r204 ae aa n (ah+1) (l241++[(be,an,((bj,bi),(bh,bg)),av,au)]))
   else(
    gd (I64 (ah+1))<|
    C4 N r204 ae aa n (ah+1) l241))
  else(
   some l241)
def Hs (N:Nat) (aq:List (Int×Int×Int×Int×Int×Int)) (ak:Int) (aj:Int):Option Bool:=
 (Cy N).bind fun bu=>
 bif !bu then(
  some false)
 else(
  (Cx N aq).bind fun r195=>
  (BB N ak 25).bind fun ae=>
  gd (I64 (ae-12))<|
  (BB N aj 20).bind fun aa=>
  gd (I64 (aa-10))<|
  (Ic N r195 (ae-12) (max (aa-10) 0)).bind fun(r201,bm)=>
  bif decide (bm≠0) then(
   some (((decide (bm=120))&&(decide ((r201.length:Int)=0)))&&(decide (0<(r195.length:Int)))))
  else(
   (Bi N r195).bind fun r204=>
   (C4 N r204 ae aa N 0 []).bind fun bv=>
   (Bi N r201).bind fun br=>
   (Bj N br bv).bind fun ai=>
   gd ((!(!ai))=true→((Dv CA N r201).isSome=true))<|
   gd ((!(!ai))=true→((Dv CA N r195).isSome=true))<|
   gd ((!(!ai))=true→((Ce N ((Dv CA N r201).getD []) ((Dv CA N r195).getD [])).isSome=true))<|
   gd ((!((!ai)||(!((Ce N ((Dv CA N r201).getD []) ((Dv CA N r195).getD [])).getD false))))=true→((Bk N r201).isSome=true))<|
   gd ((!((!ai)||(!((Ce N ((Dv CA N r201).getD []) ((Dv CA N r195).getD [])).getD false))))=true→((Bk N r195).isSome=true))<|
   gd ((!(((!ai)||(!((Ce N ((Dv CA N r201).getD []) ((Dv CA N r195).getD [])).getD false)))||(decide ((Bk N r201).getD 0≠(Bk N r195).getD 0))))=true→((AT N r201).isSome=true))<|
   bif (((!ai)||(!((Ce N ((Dv CA N r201).getD []) ((Dv CA N r195).getD [])).getD false)))||(decide ((Bk N r201).getD 0≠(Bk N r195).getD 0)))||(!((AT N r201).getD false)) then(
    some false)
   else(
    bif decide (max (aa-10) 0=0) then(
     (Co N r201).bind fun bq=>
     (Co N r195).bind fun bp=>
     (Cq N bq bp).bind fun am=>
     gd (am=true→((CE CA N r201).isSome=true))<|
     gd (am=true→((CE CA N r195).isSome=true))<|
     gd (am=true→((C8 N ((CE CA N r201).getD []) ((CE CA N r195).getD [])).isSome=true))<|
     some (am&&((C8 N ((CE CA N r201).getD []) ((CE CA N r195).getD [])).getD false)))
    else(
     (CE CA N r201).bind fun r279=>
     some (decide ((r279.length:Int)=(r195.length:Int)))))))
theorem PL (N:Nat) (aq:List (Int×Int×Int×Int×Int×Int)) (ak:Int) (aj:Int) (r:Bool) (h:Hs N aq ak aj=some r):PCall Tryz.prog 7 [G8 aq,.i ak,.i aj] (.b r):=by
 refine wx x7 (Aa (Nb N)<|Aa (M8 N)<|Aa (M7 N)<|Aa (Y7 N)<|Aa (Q7 N)<|Aa (QW N)<|Aa (UB N)<|Aa (PV N)<|Aa (Y6 N)<|Aa (UE N)<|Aa (G5 N)<|Aa (Q8 N)<|Aa (UC N)<|Aa (PU N)<|Aa (UD N)<|Aj) fun _ hS F=> ?_
 dsimp only[x7,mkX]
 unfold Hs at h
 obtain⟨bu,dg,h⟩:=un h
 replace F:=fc dg F
 refine gcb hS F h (fun _ h=> ?_) (fun _ h=> ?_)
 ·exact Ad hS F h
 ·obtain⟨r195,de,ae,db,gc,aa,cz,fq,⟨r201,bm⟩,cy,h⟩:=un h
  replace F:=fc cy (fc cz (fc db (fc de F)))
  refine gcb hS F h (fun _ h=> ?_) (fun _ h=> ?_)
  ·exact Ad hS F h
  ·obtain⟨r204,cu,h⟩:=un h
   replace F:=fc cu F
   refine go hS F ?_
   refine Cb 1000001 11 8 [.i 0,.i 0,.i 0,.i 0,.i 0,.i 0,.i 0,.i 0] (by show(11:Nat)<147;omega) (by omega) (ev F) ?_
   obtain⟨dl,eh,h⟩:=un h
   refine go hS F ?_
   refine Au dl (fun z:(List (Int×Int×((Int×Int)×(Int×Int))×Int×Int))×Nat=>⟨[(2,.i (max (aa-10) 0)),(8,.box (402,4) 0),(9,.box (707,7) 0),(11,.own (1000001,12) z.1.length)],[(.a (1000001,12),BH z.1),(.c (707,7) 0,Af r201),(.c (402,4) 0,Af r195)],z.2⟩) (fun z=>(z.1:(List (Int×Int×((Int×Int)×(Int×Int))×Int×Int)))) (.x 0) ?_ ?_
   ·refine Aq (fun n (y:Int×(List (Int×Int×((Int×Int)×(Int×Int))×Int×Int))×Nat)=>C4 N r204 ae aa n y.1 y.2.1) (fun y=>⟨[(1,.i (ae-12)),(2,.i (max (aa-10) 0)),(8,.box (402,4) 0),(9,.box (707,7) 0),(11,.own (1000001,12) y.2.1.length),(12,BD r204),(13,.i y.1)],[(.a (1000001,12),BH y.2.1),(.c (707,7) 0,Af r201),(.c (402,4) 0,Af r195)],y.2.2⟩) (0,[],12) eh (leF F) ?_
    rintro n ⟨ah,l241,bo⟩ af
    simp only[C4] at af
    refine gcb hS F af (fun _ af=> ?_) (fun _ af=> ?_)
    ·obtain⟨⟨be,an,⟨⟨bb,az⟩,⟨ay,aw⟩⟩,av,au⟩,dh,af⟩:=un af
     obtain⟨dm,F⟩:=rqG BG dh F
     obtain⟨fj,fh,⟨bj,bi⟩,cr,af⟩:=un af
     obtain⟨fg,fb,⟨bh,bg⟩,cq,af⟩:=un af
     replace F:=fc cq (fc cr F)
     refine gcb hS F af (fun _ af=> ?_) (fun _ af=> ?_)
     ·obtain⟨e9,d9,af⟩:=un af
      exact gbk hS F (n,ah+1,l241++[(be,an,((bj,bi),(bh,bg)),av,au)],bo+1+1+1+1+1+1) af
     ·obtain⟨d8,af⟩:=un af
      exact gbk hS F (n,ah+1,l241,bo+1+1+1+1+1) af
    ·exact gck hS F (l241,bo+1) af
   ·rintro⟨bv,ez⟩ rfl
    obtain⟨br,co,ai,ci,d7,d6,d5,dz,dw,du,h⟩:=un h
    replace F:=fc ci (fc co F)
    refine gcb hS F h (fun _ h=> ?_) (fun _ h=> ?_)
    ·exact Ad hS F h
    ·refine gcb hS F h (fun _ h=> ?_) (fun _ h=> ?_)
     ·obtain⟨bq,ce,bp,b9,am,bz,dt,dq,dp,h⟩:=un h
      exact Ad hS (fc bz (fc b9 (fc ce F))) h
     ·obtain⟨r279,bw,h⟩:=un h
      exact Ad hS (fc bw F) h
end Go.Proofs.YtciphecegkfaiaaGreat.Am
