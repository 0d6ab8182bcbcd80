import Derived.Test.YtciphecegkfaiaaGreatLK
namespace Go.Proofs.YtciphecegkfaiaaGreat.Am
open Go
attribute [local irreducible] awp B5 BR Bx B3 Bw Bn BS B1 itK
set_option maxRecDepth 100000
set_option maxHeartbeats 8000000
set_option linter.unusedSimpArgs false
set_option linter.unusedVariables false
def Ed (N:Nat) (r13:List (Int×Int×Int×(List (Int×Int))×Int×Int)) (ah:Int) (r16:Int) (am:Int) (ak:List (Int×Int)) (aj:Int) (ai:Int):Nat→Bool→Int→Option Bool
 |0,_,_=>none
 |n+1,af,br=>
  bif decide (br<(r13.length:Int)) then(
   (nth r13 br).bind fun(x44,x45,x46,x47,x48,x49)=>
   gd (af=true→((Cz N x44 x45 x46 x47 x48 x49 ah r16 am ak aj ai).isSome=true))<|
   gd (I64 (br+1))<|
   Ed N r13 ah r16 am ak aj ai n (af&&(!((Cz N x44 x45 x46 x47 x48 x49 ah r16 am ak aj ai).getD false))) (br+1))
  else(
   some af)
def HE (N:Nat) (x1:List (Int×Int×Int×Int×Int×Int)) (id2:Int) (y3:Int) (y4:Int) (y5:Int) (y6:Int) (y7:Int) (y8:Int) (ae:Int) (aa:Int):Option Bool:=
 (Cy N).bind fun bq=>
 bif !bq then(
  some false)
 else(
  (Cx N x1).bind fun r13=>
  (CD N id2 y3 y4 y5 y6 y7 y8).bind fun(ah,r16,am,ak,aj,ai)=>
  (EM N r13 ah r16 am ak aj ai).bind fun(an,bm)=>
  (El N r13 ah).bind fun((ez,eh,d9,d8,d7,d6),cu)=>
  (Ed N r13 ah r16 am ak aj ai N ((!cu)&&(decide ((r13.length:Int)<12))) 0).bind fun av=>
  bif (av !=(decide (bm=0)))||((decide (bm≠0))&&(decide (bm≠120))) then(
   some false)
  else(
   (bif decide (bm=0) then(
     (Cn N an ah).bind fun(az,ay)=>
     gd ((!(decide (ay≠0)))=true→((AD N az r13).isSome=true))<|
     gd ((!((decide (ay≠0))||(!((AD N az r13).getD false))))=true→((Bk N an).isSome=true))<|
     gd ((!((decide (ay≠0))||(!((AD N az r13).getD false))))=true→((Bk N r13).isSome=true))<|
     gd ((!((decide (ay≠0))||(!((AD N az r13).getD false))))=true→((CJ N ah r16 am ak aj ai).isSome=true))<|
     gd ((!((decide (ay≠0))||(!((AD N az r13).getD false))))=true→(I64 (((Bk N r13).getD 0)+((CJ N ah r16 am ak aj ai).getD 0))))<|
     gd ((!(((decide (ay≠0))||(!((AD N az r13).getD false)))||(decide ((Bk N an).getD 0≠((Bk N r13).getD 0)+((CJ N ah r16 am ak aj ai).getD 0)))))=true→((AT N an).isSome=true))<|
     gd ((!((((decide (ay≠0))||(!((AD N az r13).getD false)))||(decide ((Bk N an).getD 0≠((Bk N r13).getD 0)+((CJ N ah r16 am ak aj ai).getD 0))))||(!((AT N an).getD false))))=true→((Ez N r13 an ah).isSome=true))<|
     bif ((((decide (ay≠0))||(!((AD N az r13).getD false)))||(decide ((Bk N an).getD 0≠((Bk N r13).getD 0)+((CJ N ah r16 am ak aj ai).getD 0))))||(!((AT N an).getD false)))||(!((Ez N r13 an ah).getD false)) then(
      some (.inr false))
     else(
      some (.inl ())))
    else(
     some (.inl ())):Option (Sum Unit Bool)).bind fun cy=>match cy with
    | .inl ()=>(
     bif decide ((r13.length:Int)=0) then(
      some bq)
     else(
      (BB N ae (r13.length:Int)).bind fun dq=>
      (nth r13 dq).bind fun(Mx,Ya,x103,x104,x105,x106)=>
      (BB N aa (r13.length:Int)).bind fun bv=>
      (nth r13 bv).bind fun(x110,x111,x112,x113,x114,x115)=>
      (Cn N r13 Mx).bind fun(au,bj)=>
      (EM N au Mx Ya x103 x104 x105 x106).bind fun(bi,bh)=>
      (Cn N au x110).bind fun(bp,bg)=>
      (Cn N r13 x110).bind fun(bu,be)=>
      (Cn N bu Mx).bind fun(bo,bb)=>
      gd ((!(((decide (bj≠0))||(decide (bh≠0)))||(decide (be≠0))))=true→((AD N bi r13).isSome=true))<|
      gd ((!((((decide (bj≠0))||(decide (bh≠0)))||(decide (be≠0)))||(!((AD N bi r13).getD false))))=true→((Ez N au r13 Mx).isSome=true))<|
      bif ((((decide (bj≠0))||(decide (bh≠0)))||(decide (be≠0)))||(!((AD N bi r13).getD false)))||(!((Ez N au r13 Mx).getD false)) then(
       some false)
      else(
       bif decide (Mx=x110) then(
        some ((decide (bg=120))&&(decide (bb=120))))
       else(
        gd (((decide (bg=0))&&(decide (bb=0)))=true→((AD N bp bo).isSome=true))<|
        some (((decide (bg=0))&&(decide (bb=0)))&&((AD N bp bo).getD false))))))
    | .inr d5=>(
     some d5)))
theorem Qh (N:Nat) (x1:List (Int×Int×Int×Int×Int×Int)) (id2:Int) (y3:Int) (y4:Int) (y5:Int) (y6:Int) (y7:Int) (y8:Int) (ae:Int) (aa:Int) (r:Bool) (h:HE N x1 id2 y3 y4 y5 y6 y7 y8 ae aa=some r):PCall Tryz.prog 4 [G8 x1,.i id2,.agg [.i y3,.i y4,.i y5,.i y6,.i y7,.i y8],.i ae,.i aa] (.b r):=by
 refine wx x4 (Aa (Nb N)<|Aa (M8 N)<|Aa (UI N)<|Aa (UG N)<|Aa (QX N)<|Aa (Uv N)<|Aa (UH N)<|Aa (UA N)<|Aa (UE N)<|Aa (Y2 N)<|Aa (G5 N)<|Aa (mJ N)<|Aa (M7 N)<|Aj) fun _ hS F=> ?_
 dsimp only[x4,mkX]
 unfold HE at h
 obtain⟨bq,dm,h⟩:=un h
 replace F:=fc dm F
 refine gcb hS F h (fun _ h=> ?_) (fun _ h=> ?_)
 ·exact Ad hS F h
 ·obtain⟨r13,dl,⟨ah,r16,am,ak,aj,ai⟩,dh,h⟩:=un h
  obtain⟨⟨an,bm⟩,dg,h⟩:=un h
  obtain⟨⟨⟨ez,eh,d9,d8,d7,d6⟩,cu⟩,de,h⟩:=un h
  replace F:=fc de (fc dg (fc dh (fc dl F)))
  obtain⟨e9,gh,h⟩:=un h
  refine go hS F ?_
  refine Au e9 (fun z:Bool×Nat=>⟨[(3,.i ae),(4,.i aa),(11,.b bq),(12,.box (402,4) 0),(13,.box (503,5) 0),(14,.box (606,6) 0),(15,.i bm),(18,.b z.1)],[(.c (606,6) 0,Af an),(.c (503,5) 0,.i ah),(.c (503,5) 1,.i r16),(.c (503,5) 2,.i am),(.c (503,5) 3,A1 ak),(.c (503,5) 4,.i aj),(.c (503,5) 5,.i ai),(.c (402,4) 0,Af r13)],z.2⟩) (fun z=>(z.1:Bool)) (.x 0) ?_ ?_
  ·refine Aq (fun n (y:Bool×Int×Nat)=>Ed N r13 ah r16 am ak aj ai n y.1 y.2.1) (fun y=>⟨[(3,.i ae),(4,.i aa),(11,.b bq),(12,.box (402,4) 0),(13,.box (503,5) 0),(14,.box (606,6) 0),(15,.i bm),(18,.b y.1),(19,.i y.2.1)],[(.c (606,6) 0,Af an),(.c (503,5) 0,.i ah),(.c (503,5) 1,.i r16),(.c (503,5) 2,.i am),(.c (503,5) 3,A1 ak),(.c (503,5) 4,.i aj),(.c (503,5) 5,.i ai),(.c (402,4) 0,Af r13)],y.2.2⟩) ((!cu)&&(decide ((r13.length:Int)<12)),0,9) gh (leF F) ?_
   rintro n ⟨af,br,dz⟩ aw
   simp only[Ed] at aw
   refine gcb hS F aw (fun _ aw=> ?_) (fun _ aw=> ?_)
   ·obtain⟨⟨x44,x45,x46,x47,x48,x49⟩,dp,aw⟩:=un aw
    obtain⟨gf,F⟩:=rqG Ai dp F
    obtain⟨gx,gw,aw⟩:=un aw
    exact gbk hS F (n,af&&(!((Cz N x44 x45 x46 x47 x48 x49 ah r16 am ak aj ai).getD false)),br+1,dz+1+1+1) aw
   ·exact gck hS F (af,dz+1) aw
  ·rintro⟨av,dw⟩ rfl
   refine gcb hS F h (fun _ h=> ?_) (fun _ h=> ?_)
   ·exact Ad hS F h
   ·obtain⟨cy,aq,h⟩:=un h
    refine go hS F ?_
    refine Au cy (fun z:Nat=>⟨[(3,.i ae),(4,.i aa),(11,.b bq),(12,.box (402,4) 0)],[(.c (402,4) 0,Af r13)],z⟩) (fun z=>(.inl ():Sum Unit Bool)) .n ?_ ?_
    ·refine gcb hS F aq (fun _ aq=> ?_) (fun _ aq=> ?_)
     ·obtain⟨⟨az,ay⟩,db,aq⟩:=un aq
      obtain⟨gu,gt,gj,gi,gc,fq,fj,aq⟩:=un aq
      replace F:=fc db F
      refine gcb hS F aq (fun _ aq=> ?_) (fun _ aq=> ?_)
      ·obtain rfl:=yJ aq
       exact Ad hS F h
      ·exact gck hS F (dw+1+1+1+1) aq
     ·exact gck hS F (dw+1+1) aq
    ·rintro gy rfl
     refine gcb hS F h (fun _ h=> ?_) (fun _ h=> ?_)
     ·exact Ad hS F h
     ·obtain⟨dq,cz,⟨Mx,Ya,x103,x104,x105,x106⟩,cr,h⟩:=un h
      obtain⟨du,F⟩:=rqG Ai cr (fc cz F)
      obtain⟨bv,co,⟨x110,x111,x112,x113,x114,x115⟩,cq,h⟩:=un h
      obtain⟨dt,F⟩:=rqG Ai cq (fc co F)
      obtain⟨⟨au,bj⟩,ci,h⟩:=un h
      obtain⟨⟨bi,bh⟩,ce,h⟩:=un h
      obtain⟨⟨bp,bg⟩,b9,h⟩:=un h
      obtain⟨⟨bu,be⟩,bz,h⟩:=un h
      obtain⟨⟨bo,bb⟩,bw,h⟩:=un h
      obtain⟨fh,fg,h⟩:=un h
      replace F:=fc bw (fc bz (fc b9 (fc ce (fc ci F))))
      refine gcb hS F h (fun _ h=> ?_) (fun _ h=> ?_)
      ·exact Ad hS F h
      ·refine gcb hS F h (fun _ h=> ?_) (fun _ h=> ?_)
       ·exact Ad hS F h
       ·obtain⟨fb,h⟩:=un h
        exact Ad hS F h
end Go.Proofs.YtciphecegkfaiaaGreat.Am
