import Derived.Test.YtciphecegkfaiaaGreatNS
import Derived.Test.YtciphecegkfaiaaGreatDA
namespace Go.Proofs.YtciphecegkfaiaaGreat.Am
open Go
attribute [local irreducible] awp B5 BR Bx B3 Bw Bn BS B1 itK
set_option maxRecDepth 100000
set_option maxHeartbeats 8000000
set_option linter.unusedSimpArgs false
set_option linter.unusedVariables false
def wD (N:Nat) (r104:List (Int×Int×((Int×Int)×(Int×Int))×Int×Int)) (x85:List (Int×Int)) (ak:Int) (x86:Int) (x87:Int):Nat→Int→Int→Option (Sum Int Bool)
 |0,_,_=>none
 |n+1,aa,ai=>
  bif decide (ai<(r104.length:Int)) then(
   (nth r104 ai).bind fun(x131,x132,((x133,x134),(x135,x136)),av,x138)=>
   bif (decide (x131=80))&&(decide (x132=90)) then(
    gd (I64 (aa+1))<|
    (nth x85 ak).bind fun(x146,x147)=>
    (nth x85 ((ak+2).tmod (x85.length:Int))).bind fun(x149,x150)=>
    bif !(decide (x131=80)&&(decide (x132=90)&&(decide (x133=x146)&&(decide (x134=x147)&&(decide (x135=x149)&&(decide (x136=x150)&&(decide (av=x86)&&decide (x138=x87)))))))) then(
     some (.inr false))
    else(
     gd (I64 (ai+1))<|
     wD N r104 x85 ak x86 x87 n (aa+1) (ai+1)))
   else(
    gd (I64 (ai+1))<|
    wD N r104 x85 ak x86 x87 n aa (ai+1)))
  else(
   some (.inl aa))
def wF (N:Nat) (x73:List (Int×Int×Int×Int×Int×Int)) (af:Int) (ae:Int):Option Bool:=
 (Cy N).bind fun bj=>
 bif !bj then(
  some false)
 else(
  gd (0≤0∧0≤min (x73.length:Int) 11∧min (x73.length:Int) 11≤(x73.length:Int))<|
  (Cx N (x73.take ((min (x73.length:Int) 11).toNat-0))).bind fun r78=>
  bif decide ((r78.length:Int)=0) then(
   some bj)
  else(
   (BB N af (r78.length:Int)).bind fun cq=>
   (nth r78 cq).bind fun(bi,x83,x84,x85,x86,x87)=>
   (BB N ae (x85.length:Int)).bind fun ak=>
   gd (I64 (ak+2))<|
   gd ((x85.length:Int)≠0)<|
   (wR N x85 ak ((ak+2).tmod (x85.length:Int))).bind fun(co,ce,au)=>
   bif decide ((x85.length:Int)=3) then(
    some (decide (au=70)))
   else(
    (Cn N r78 bi).bind fun(b9,ay)=>
    (EM N b9 90 x83 x84 co x86 x87).bind fun(bz,aw)=>
    (EM N bz 80 x83 x84 ce x86 x87).bind fun(r101,am)=>
    gd ((!((((decide (au≠0))||(decide (ay≠0)))||(decide (aw≠0)))||(decide (am≠0))))=true→((Bk N r101).isSome=true))<|
    gd ((!((((decide (au≠0))||(decide (ay≠0)))||(decide (aw≠0)))||(decide (am≠0))))=true→((Bk N r78).isSome=true))<|
    gd ((!(((((decide (au≠0))||(decide (ay≠0)))||(decide (aw≠0)))||(decide (am≠0)))||(decide ((Bk N r101).getD 0≠(Bk N r78).getD 0))))=true→(I64 ((r78.length:Int)+1)))<|
    bif (((((decide (au≠0))||(decide (ay≠0)))||(decide (aw≠0)))||(decide (am≠0)))||(decide ((Bk N r101).getD 0≠(Bk N r78).getD 0)))||(decide ((r101.length:Int)≠(r78.length:Int)+1)) then(
     some false)
    else(
     (Bi N r101).bind fun r104=>
     (wD N r104 x85 ak x86 x87 N 0 0).bind fun an=>match an with
      | .inl aj=>(
       some (decide (aj=1)))
      | .inr r157=>(
       some r157)))))
theorem wV (N:Nat) (x73:List (Int×Int×Int×Int×Int×Int)) (af:Int) (ae:Int) (r:Bool) (h:wF N x73 af ae=some r):PCall Tryz.prog 10 [G8 x73,.i af,.i ae] (.b r):=by
 refine wx x10 (Aa (Nb N)<|Aa (M8 N)<|Aa (M7 N)<|Aa (Abz N)<|Aa (UH N)<|Aa (UG N)<|Aa (UE N)<|Aa (Q7 N)<|Aj) fun _ hS F=> ?_
 dsimp only[x10,mkX]
 unfold wF at h
 obtain⟨bj,bv,h⟩:=un h
 replace F:=fc bv F
 refine gcb hS F h (fun _ h=> ?_) (fun _ h=> ?_)
 ·exact Ad hS F h
 ·obtain⟨dw,r78,bu,h⟩:=un h
  replace F:=fc bu F
  refine gcb hS F h (fun _ h=> ?_) (fun _ h=> ?_)
  ·exact Ad hS F h
  ·obtain⟨cq,br,⟨bi,x83,x84,x85,x86,x87⟩,bw,h⟩:=un h
   obtain⟨de,F⟩:=rqG Ai bw (fc br F)
   obtain⟨ak,bq,du,dt,⟨co,ce,au⟩,bp,h⟩:=un h
   replace F:=fc bp (fc bq F)
   refine gcb hS F h (fun _ h=> ?_) (fun _ h=> ?_)
   ·exact Ad hS F h
   ·obtain⟨⟨b9,ay⟩,bo,h⟩:=un h
    obtain⟨⟨bz,aw⟩,bm,h⟩:=un h
    obtain⟨⟨r101,am⟩,bb,h⟩:=un h
    obtain⟨dq,dp,dm,h⟩:=un h
    replace F:=fc bb (fc bm (fc bo F))
    refine gcb hS F h (fun _ h=> ?_) (fun _ h=> ?_)
    ·exact Ad hS F h
    ·obtain⟨r104,az,h⟩:=un h
     replace F:=fc az F
     obtain⟨an,dg,h⟩:=un h
     refine go hS F ?_
     refine Au an (fun z:Int×Nat=>⟨[(24,.i z.1)],[],z.2⟩) (fun z=>(.inl z.1:Sum Int Bool)) (.x 0) ?_ ?_
     ·refine Aq (fun n (y:Int×Int×Nat)=>wD N r104 x85 ak x86 x87 n y.1 y.2.1) (fun y=>⟨[(9,.box (709,6) 0),(10,.i ak),(11,.i ((ak+2).tmod (x85.length:Int))),(23,BD r104),(24,.i y.1),(25,.i y.2.1)],[(.c (709,6) 0,.i bi),(.c (709,6) 1,.i x83),(.c (709,6) 2,.i x84),(.c (709,6) 3,A1 x85),(.c (709,6) 4,.i x86),(.c (709,6) 5,.i x87)],y.2.2⟩) (0,0,23) dg (leF F) ?_
      rintro n ⟨aa,ai,aq⟩ ah
      simp only[wD] at ah
      refine gcb hS F ah (fun _ ah=> ?_) (fun _ ah=> ?_)
      ·obtain⟨⟨x131,x132,⟨⟨x133,x134⟩,⟨x135,x136⟩⟩,av,x138⟩,bh,ah⟩:=un ah
       obtain⟨cy,F⟩:=rqG BG bh F
       refine gcb hS F ah (fun _ ah=> ?_) (fun _ ah=> ?_)
       ·obtain⟨dl,⟨x146,x147⟩,bg,ah⟩:=un ah
        obtain⟨cu,F⟩:=rqG Br bg F
        obtain⟨⟨x149,x150⟩,be,ah⟩:=un ah
        obtain⟨cr,F⟩:=rqG Br be F
        refine gcb hS F ah (fun _ ah=> ?_) (fun _ ah=> ?_)
        ·obtain rfl:=yJ ah
         exact Ad hS F h
        ·obtain⟨db,ah⟩:=un ah
         exact gbk hS F (n,aa+1,ai+1,aq+1+1+1+1+1) ah
       ·obtain⟨cz,ah⟩:=un ah
        exact gbk hS F (n,aa,ai+1,aq+1+1+1) ah
      ·exact gck hS F (aa,aq+1) ah
     ·rintro⟨aj,dh⟩ rfl
      exact Ad hS F h
end Go.Proofs.YtciphecegkfaiaaGreat.Am
