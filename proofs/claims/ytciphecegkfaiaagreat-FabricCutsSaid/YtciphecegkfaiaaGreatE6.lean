import Derived.Test.YtciphecegkfaiaaGreatDR
import Derived.Test.YtciphecegkfaiaaGreatA15
import Derived.Test.YtciphecegkfaiaaGreatP3
namespace Go.Proofs.YtciphecegkfaiaaGreat.Am
open Go
attribute [local irreducible] awp B5 BR Bx B3 Bw Bn BS B1 itK
set_option maxRecDepth 100000
set_option maxHeartbeats 8000000
set_option linter.unusedSimpArgs false
set_option linter.unusedVariables false
def Fd (N:Nat) (c570:Int) (ae:Int):Option Int:=
 bif decide (c570<0) then(
  gd (I64 (c570+1))<|
  gd (I64 (-(c570+1)))<|
  gd (ae≠0)<|
  some ((-(c570+1)).tmod ae))
 else(
  gd (ae≠0)<|
  some (c570.tmod ae))
@[go_sem] def oY (N:Nat):Spec:=p0<|pI fun c570=>pI fun ae=>pE<|pF (Fd N c570 ae) 0 fun r=> .i r
def Cm (N:Nat) (a575:List (Int×Int)) (b581:List (Int×Int)):Nat→Int→Option (Sum Unit Bool)
 |0,_=>none
 |n+1,af=>
  bif decide (af<(a575.length:Int)) then(
   (nth a575 af).bind fun(bg,be)=>
   (nth b581 af).bind fun(bb,az)=>
   bif !(decide (bg=bb)&&decide (be=az)) then(
    some (.inr false))
   else(
    gd (I64 (af+1))<|
    Cm N a575 b581 n (af+1)))
  else(
   some (.inl ()))
def Ep (N:Nat) (aw:Int) (av:Int) (au:Int) (a575:List (Int×Int)) (aq:Int) (an:Int) (am:Int) (ak:Int) (aj:Int) (b581:List (Int×Int)) (ai:Int) (ah:Int):Option Bool:=
 bif (((((decide (aw≠am))||(decide (av≠ak)))||(decide (au≠aj)))||(decide (aq≠ai)))||(decide (an≠ah)))||(decide ((a575.length:Int)≠(b581.length:Int))) then(
  some false)
 else(
  (Cm N a575 b581 N 0).bind fun ay=>match ay with
   | .inl ()=>(
    some true)
   | .inr bm=>(
    some bm))
@[go_sem] def s48 (N:Nat):Spec:=p0<|pG<|pI fun aw=>pI fun av=>pI fun au=>pS Ap fun a575=>pI fun aq=>pI fun an=>pE<|pG<|pI fun am=>pI fun ak=>pI fun aj=>pS Ap fun b581=>pI fun ai=>pI fun ah=>pE<|pE<|pF (Ep N aw av au a575 aq an am ak aj b581 ai ah) false fun r=> .b r
theorem Y4 (N:Nat):FOK Tryz.prog 48 (s48 N):=by
 refine Al x48.ok<|AW<|Ac fun aw=>Ac fun av=>Ac fun au=>A3 fun a575=>Ac fun aq=>Ac fun an=>Ah<|AW<|Ac fun am=>Ac fun ak=>Ac fun aj=>A3 fun b581=>Ac fun ai=>Ac fun ah=>Ah<|Ah<|An fun r h=>wx x48 (Aj) fun _ hS F=> ?_
 dsimp only[x48,mkX,Ap]
 unfold Ep at h
 refine gcb hS F h (fun _ h=> ?_) (fun _ h=> ?_)
 ·exact Ad hS F h
 ·obtain⟨ay,br,h⟩:=un h
  refine go hS F ?_
  refine Au ay (fun z:Nat=>⟨[],[],z⟩) (fun z=>(.inl ():Sum Unit Bool)) (.x 0) ?_ ?_
  ·refine Aq (fun n (y:Int×Nat)=>Cm N a575 b581 n y.1) (fun y=>⟨[(2,.box (0,1) 0),(3,.box (1,1) 0),(5,.i y.1)],[(.c (1,1) 0,.i am),(.c (1,1) 1,.i ak),(.c (1,1) 2,.i aj),(.c (1,1) 3,A1 b581),(.c (1,1) 4,.i ai),(.c (1,1) 5,.i ah),(.c (0,1) 0,.i aw),(.c (0,1) 1,.i av),(.c (0,1) 2,.i au),(.c (0,1) 3,A1 a575),(.c (0,1) 4,.i aq),(.c (0,1) 5,.i an)],y.2⟩) (0,3) br (leF F) ?_
   rintro n ⟨af,bj⟩ aa
   simp only[Cm] at aa
   refine gcb hS F aa (fun _ aa=> ?_) (fun _ aa=> ?_)
   ·obtain⟨⟨bg,be⟩,bi,aa⟩:=un aa
    obtain⟨bp,F⟩:=rqG Br bi F
    obtain⟨⟨bb,az⟩,bh,aa⟩:=un aa
    obtain⟨bo,F⟩:=rqG Br bh F
    refine gcb hS F aa (fun _ aa=> ?_) (fun _ aa=> ?_)
    ·obtain rfl:=yJ aa
     exact Ad hS F h
    ·obtain⟨bq,aa⟩:=un aa
     exact gbk hS F (n,af+1,bj+1+1+1) aa
   ·exact gck hS F (bj+1) aa
  ·rintro bu rfl
   exact Ad hS F h
end Go.Proofs.YtciphecegkfaiaaGreat.Am
namespace Go.Proofs.YtciphecegkfaiaaGreat.Am
open Go
attribute [local irreducible] awp B5 BR Bx B3 Bw Bn BS B1 itK
set_option maxRecDepth 100000
set_option maxHeartbeats 8000000
set_option linter.unusedSimpArgs false
set_option linter.unusedVariables false
def Gz (x:Int×Int×Int):List AV:=[.i x.1,.i x.2.1,.i x.2.2]
def QQ:List AV→Int×Int×Int
 |[.v (.int _ a1),.v (.int _ a2),.v (.int _ a3)]=>(a1,a2,a3)
 |_=>(0,0,0)
theorem fU (x:Int×Int×Int):QQ (Gz x)=x:=by rfl
theorem fW (R:List (Int×Int×Int)):(R.map Gz).map QQ=R:=by
 induction R with
 |nil=>rfl
 |cons r R ih=>rw[List.map_cons,List.map_cons,ih,fU]
theorem VX (R:List (Int×Int×Int)) (i:Nat):BJ (R.map Gz) [.i 0,.i 0,.i 0] i=Gz (R.getD i (0,0,0)):=by
 unfold BJ;rw[List.getD_eq_getElem?_getD,List.getD_eq_getElem?_getD,List.getElem?_map];cases R[i]? <;>rfl
theorem aH (A B:List (Int×Int×Int)) (i:Nat):BJ (A.map Gz++B.map Gz) [.i 0,.i 0,.i 0] i=Gz ((A++B).getD i (0,0,0)):=by
 rw[←List.map_append];exact VX _ _
def lE:Rw (Int×Int×Int):=⟨3,Gz,QQ,[.i 0,.i 0,.i 0]⟩
def lF (l:List (Int×Int×Int)):AV:= .sl 3 false (l.map Gz) [.i 0,.i 0,.i 0]
def Ej (l:List (Int×Int×Int)):AV:= .sl 3 true (l.map Gz) [.i 0,.i 0,.i 0]
attribute [go_sem] lE lF Ej Gz QQ fW VX aH
def C0 (N:Nat) (a805:List (Int×Int)):Nat→Int→(List (Int×Int×Int))→Option ((List (Int×Int×Int)))
 |0,_,_=>none
 |n+1,d8,l826=>
  bif decide (d8<(a805.length:Int)) then(
   (nth a805 d8).bind fun(cy,cu)=>
   (B2 N a805 d8).bind fun(dq,dp)=>
   gd (I64 (cu-dp))<|
   gd (I64 (dq-cy))<|
   gd (I64 (dp-cu))<|
   gd (I64 ((dp-cu)*cy))<|
   gd (I64 (dq-cy))<|
   gd (I64 ((dq-cy)*cu))<|
   gd (I64 (((dp-cu)*cy)-((dq-cy)*cu)))<|
   gd ((l826.length+1)*24≤140737488355328)<|
   gd (I64 (d8+1))<|
   C0 N a805 n (d8+1) (l826++[(cu-dp,dq-cy,((dp-cu)*cy)-((dq-cy)*cu))]))
  else(
   some l826)
def C1 (N:Nat) (b806:List (Int×Int)):Nat→Int→(List (Int×Int×Int))→Option ((List (Int×Int×Int)))
 |0,_,_=>none
 |n+1,d7,l856=>
  bif decide (d7<(b806.length:Int)) then(
   (nth b806 d7).bind fun(cr,cq)=>
   (B2 N b806 d7).bind fun(dm,dl)=>
   gd (I64 (cq-dl))<|
   gd (I64 (dm-cr))<|
   gd (I64 (dl-cq))<|
   gd (I64 ((dl-cq)*cr))<|
   gd (I64 (dm-cr))<|
   gd (I64 ((dm-cr)*cq))<|
   gd (I64 (((dl-cq)*cr)-((dm-cr)*cq)))<|
   gd ((l856.length+1)*24≤140737488355328)<|
   gd (I64 (d7+1))<|
   C1 N b806 n (d7+1) (l856++[(cq-dl,dm-cr,((dl-cq)*cr)-((dm-cr)*cq))]))
  else(
   some l856)
def CR (N:Nat) (l837:List (Int×Int×Int)) (l867:List (Int×Int×Int)) (bg:Int) (be:Int) (bm:Int):Nat→Bool→Int→Option Bool
 |0,_,_=>none
 |n+1,ae,n1141=>
  bif decide (n1141<((l837++l867).length:Int)) then(
   gd (ae=true→(0≤n1141∧n1141<((l837++l867).length:Int)))<|
   gd (ae=true→(0≤n1141∧n1141<((l837++l867).length:Int)))<|
   gd (ae=true→(I64 ((((l837++l867).getD n1141.toNat (0,0,0)).1)*bg)))<|
   gd (ae=true→(0≤n1141∧n1141<((l837++l867).length:Int)))<|
   gd (ae=true→(0≤n1141∧n1141<((l837++l867).length:Int)))<|
   gd (ae=true→(I64 ((((l837++l867).getD n1141.toNat (0,0,0)).2.1)*be)))<|
   gd (ae=true→(I64 (((((l837++l867).getD n1141.toNat (0,0,0)).1)*bg)+((((l837++l867).getD n1141.toNat (0,0,0)).2.1)*be))))<|
   gd (ae=true→(0≤n1141∧n1141<((l837++l867).length:Int)))<|
   gd (ae=true→(0≤n1141∧n1141<((l837++l867).length:Int)))<|
   gd (ae=true→(I64 ((((l837++l867).getD n1141.toNat (0,0,0)).2.2)*bm)))<|
   gd (ae=true→(I64 ((((((l837++l867).getD n1141.toNat (0,0,0)).1)*bg)+((((l837++l867).getD n1141.toNat (0,0,0)).2.1)*be))+((((l837++l867).getD n1141.toNat (0,0,0)).2.2)*bm))))<|
   gd (I64 (n1141+1))<|
   CR N l837 l867 bg be bm n (ae&&(decide (0≤(((((l837++l867).getD n1141.toNat (0,0,0)).1)*bg)+((((l837++l867).getD n1141.toNat (0,0,0)).2.1)*be))+((((l837++l867).getD n1141.toNat (0,0,0)).2.2)*bm)))) (n1141+1))
  else(
   some ae)
def B9 (N:Nat) (l837:List (Int×Int×Int)) (l867:List (Int×Int×Int)) (af:Int):Nat→Int→(List (Int×Int×Int))→Option ((List (Int×Int×Int)))
 |0,_,_=>none
 |n+1,bb,l1106=>
  bif decide (bb<((l837++l867).length:Int)) then(
   (nth (l837++l867) af).bind fun(au,aq,az)=>
   (nth (l837++l867) bb).bind fun(an,am,ay)=>
   gd (I64 (aq*ay))<|
   gd (I64 (am*az))<|
   gd (I64 ((aq*ay)-(am*az)))<|
   gd (I64 (az*an))<|
   gd (I64 (ay*au))<|
   gd (I64 ((az*an)-(ay*au)))<|
   gd (I64 (au*am))<|
   gd (I64 (an*aq))<|
   gd (I64 ((au*am)-(an*aq)))<|
   bif decide ((au*am)-(an*aq)=0) then(
    gd (I64 (bb+1))<|
    B9 N l837 l867 af n (bb+1) l1106)
   else(
    (bif decide ((au*am)-(an*aq)<0) then(
      gd (I64 (-((aq*ay)-(am*az))))<|
      gd (I64 (-((az*an)-(ay*au))))<|
      gd (I64 (-((au*am)-(an*aq))))<|
      some (-((aq*ay)-(am*az)),-((az*an)-(ay*au)),-((au*am)-(an*aq))))
     else(
      some ((aq*ay)-(am*az),(az*an)-(ay*au),(au*am)-(an*aq))):Option (Int×Int×Int)).bind fun(bg,be,bm)=>
    (CR N l837 l867 bg be bm N true 0).bind fun gh=>
    bif gh then(
     gd ((l1106.length+1)*24≤140737488355328)<|
     gd (I64 (bb+1))<|
     B9 N l837 l867 af n (bb+1) (l1106++[(bg,be,bm)]))
    else(
     gd (I64 (bb+1))<|
     B9 N l837 l867 af n (bb+1) l1106)))
  else(
   some l1106)
def CS (N:Nat) (l837:List (Int×Int×Int)) (l867:List (Int×Int×Int)):Nat→Int→(List (Int×Int×Int))→Option ((List (Int×Int×Int)))
 |0,_,_=>none
 |n+1,af,dz=>
  bif decide (af<((l837++l867).length:Int)) then(
   gd (I64 (af+1))<|
   (B9 N l837 l867 af N (af+1) dz).bind fun gf=>
   gd (I64 (af+1))<|
   CS N l837 l867 n (af+1) gf)
  else(
   some dz)
def Bu (N:Nat) (bo:Int) (l1158:List (Int×Int×Int)) (ai:Int):Nat→Int→Option (Sum Unit Bool)
 |0,_=>none
 |n+1,dg=>
  bif decide (dg<bo) then(
   (nth l1158 ai).bind fun(du,dt,eh)=>
   (nth l1158 bo).bind fun(bw,bv,bj)=>
   (nth l1158 dg).bind fun(bu,br,bi)=>
   gd (I64 (bv*bi))<|
   gd (I64 (bj*br))<|
   gd (I64 ((bv*bi)-(bj*br)))<|
   gd (I64 (du*((bv*bi)-(bj*br))))<|
   gd (I64 (bw*bi))<|
   gd (I64 (bj*bu))<|
   gd (I64 ((bw*bi)-(bj*bu)))<|
   gd (I64 (dt*((bw*bi)-(bj*bu))))<|
   gd (I64 ((du*((bv*bi)-(bj*br)))-(dt*((bw*bi)-(bj*bu)))))<|
   gd (I64 (bw*br))<|
   gd (I64 (bv*bu))<|
   gd (I64 ((bw*br)-(bv*bu)))<|
   gd (I64 (eh*((bw*br)-(bv*bu))))<|
   gd (I64 (((du*((bv*bi)-(bj*br)))-(dt*((bw*bi)-(bj*bu))))+(eh*((bw*br)-(bv*bu)))))<|
   bif decide (((du*((bv*bi)-(bj*br)))-(dt*((bw*bi)-(bj*bu))))+(eh*((bw*br)-(bv*bu)))≠0) then(
    some (.inr true))
   else(
    gd (I64 (dg+1))<|
    Bu N bo l1158 ai n (dg+1)))
  else(
   some (.inl ()))
def BP (N:Nat) (ai:Int) (l1158:List (Int×Int×Int)):Nat→Int→Option (Sum Unit Bool)
 |0,_=>none
 |n+1,bo=>
  bif decide (bo<ai) then(
   (Bu N bo l1158 ai N 0).bind fun fq=>match fq with
    | .inl ()=>(
     gd (I64 (bo+1))<|
     BP N ai l1158 n (bo+1))
    | .inr jg=>(
     some (.inr jg)))
  else(
   some (.inl ()))
def BQ (N:Nat) (l1158:List (Int×Int×Int)):Nat→Int→Option (Sum Unit Bool)
 |0,_=>none
 |n+1,ai=>
  bif decide (ai<(l1158.length:Int)) then(
   (BP N ai l1158 N 0).bind fun fj=>match fj with
    | .inl ()=>(
     gd (I64 (ai+1))<|
     BQ N l1158 n (ai+1))
    | .inr jf=>(
     some (.inr jf)))
  else(
   some (.inl ()))
def BO (N:Nat) (a805:List (Int×Int)) (b806:List (Int×Int)):Option Bool:=
 (Bo N a805).bind fun ip=>
 gd ((!(!ip))=true→((Bo N b806).isSome=true))<|
 bif (!ip)||(!((Bo N b806).getD false)) then(
  some false)
 else(
  (C0 N a805 N 0 []).bind fun l837=>
  (C1 N b806 N 0 []).bind fun l867=>
  gd ((l837.length+l867.length)*24≤140737488355328)<|
  (CS N l837 l867 N 0 []).bind fun l1158=>
  (BQ N l1158 N 0).bind fun fh=>match fh with
   | .inl ()=>(
    some false)
   | .inr je=>(
    some je))
@[go_sem] def oH (N:Nat):Spec:=p0<|pS Ap fun a805=>pS Ap fun b806=>pE<|pF (BO N a805 b806) false fun r=> .b r
theorem VY (N:Nat):FOK Tryz.prog 145 (oH N):=by
 refine Al x145.ok<|A3 fun a805=>A3 fun b806=>Ah<|An fun r h=>wx x145 (Aa (My N)<|Aa (OQ N)<|Aj) fun _ hS F=> ?_
 dsimp only[x145,mkX,Ap]
 unfold BO at h
 obtain⟨ip,jq,pv,h⟩:=un h
 replace F:=fc jq F
 refine gcb hS F h (fun _ h=> ?_) (fun _ h=> ?_)
 ·exact Ad hS F h
 ·refine go hS F ?_
  refine Vh hS 1 3 (by decide) x168.hf x168.hc x168.hn x168.ok x168.hf x168.hc x168.hn x168.ok rfl rfl (ev F) (ev F) (ev F) ?_ rfl (ev F) (Nat.le_of_ble_eq_true rfl) fun hb=> ?_
  ·exact goc hS F
  dsimp only[x168,mkX]
  refine go hS F ?_
  refine Cb 1000001 3 3 [.i 0,.i 0,.i 0] (by show(3:Nat)<52;omega) (by omega) (ev F) ?_
  obtain⟨j7,qb,h⟩:=un h
  refine go hS F ?_
  refine Au j7 (fun z:(List (Int×Int×Int))×Nat=>⟨[(3,.own (1000001,7) z.1.length)],[(.a (1000001,7),Ej z.1)],z.2⟩) (fun z=>(z.1:(List (Int×Int×Int)))) (.x 0) ?_ ?_
  ·refine Aq (fun n (y:Int×(List (Int×Int×Int))×Nat)=>C0 N a805 n y.1 y.2.1) (fun y=>⟨[(0,A1 a805),(3,.own (1000001,7) y.2.1.length),(4,.i y.1)],[(.a (1000001,7),Ej y.2.1)],y.2.2⟩) (0,[],7) qb (leF F) ?_
   rintro n ⟨d8,l826,ju⟩ e9
   simp only[C0] at e9
   refine gcb hS F e9 (fun _ e9=> ?_) (fun _ e9=> ?_)
   ·obtain⟨⟨cy,cu⟩,js,e9⟩:=un e9
    obtain⟨lj,F⟩:=rqG Br js F
    obtain⟨⟨dq,dp⟩,jp,e9⟩:=un e9
    obtain⟨qe,qd,qc,m8,ma,lr,kf,ke,j9,e9⟩:=un e9
    exact gbk hS (fc jp F) (n,d8+1,l826++[(cu-dp,dq-cy,((dp-cu)*cy)-((dq-cy)*cu))],ju+1+1+1+1+1) e9
   ·exact gck hS F (l826,ju+1) e9
  ·rintro⟨l837,gi⟩ rfl
   refine go hS F ?_
   first|refine dJ (ev F) (ev F) ?_ ?_ rfl (ev F) (by simp) fun hb=> ?_|refine dH (ev F) (ev F) ?_ ?_ rfl (ev F) (by simp) fun hb=> ?_
   ·exact goc hS F
   ·exact goc hS F
   try dsimp only[x168,mkX]
   refine go hS F ?_
   refine Cb 1000002 3 3 [.i 0,.i 0,.i 0] (by show(3:Nat)<52;omega) (by omega) (ev F) ?_
   obtain⟨j6,jc,h⟩:=un h
   refine go hS F ?_
   refine Au j6 (fun z:(List (Int×Int×Int))×Nat=>⟨[(3,.own (1000002,gi+1+1+1+1+1+1) z.1.length)],[(.a (1000001,7),Ej l837),(.a (1000002,gi+1+1+1+1+1+1),Ej z.1)],z.2⟩) (fun z=>(z.1:(List (Int×Int×Int)))) (.x 0) ?_ ?_
   ·refine Aq (fun n (y:Int×(List (Int×Int×Int))×Nat)=>C1 N b806 n y.1 y.2.1) (fun y=>⟨[(0,A1 b806),(3,.own (1000002,gi+1+1+1+1+1+1) y.2.1.length),(4,.i y.1)],[(.a (1000001,7),Ej l837),(.a (1000002,gi+1+1+1+1+1+1),Ej y.2.1)],y.2.2⟩) (0,[],gi+1+1+1+1+1+1) jc (leF F) ?_
    rintro n ⟨d7,l856,jt⟩ aj
    simp only[C1] at aj
    refine gcb hS F aj (fun _ aj=> ?_) (fun _ aj=> ?_)
    ·obtain⟨⟨cr,cq⟩,jr,aj⟩:=un aj
     obtain⟨li,F⟩:=rqG Br jr F
     obtain⟨⟨dm,dl⟩,jo,aj⟩:=un aj
     obtain⟨j8,pq,pp,po,pn,pj,ph,pd,o9,aj⟩:=un aj
     exact gbk hS (fc jo F) (n,d7+1,l856++[(cq-dl,dm-cr,((dl-cq)*cr)-((dm-cr)*cq))],jt+1+1+1+1+1) aj
    ·exact gck hS F (l856,jt+1) aj
   ·rintro⟨l867,av⟩ rfl
    obtain⟨o8,h⟩:=un h
    refine go hS F ?_
    refine Cb 1000004 6 3 [.i 0,.i 0,.i 0] (by show(6:Nat)<245;omega) (by omega) (ev F) ?_
    obtain⟨jj,lh,h⟩:=un h
    refine go hS F ?_
    refine Au jj (fun z:(List (Int×Int×Int))×Nat=>⟨[(6,.own (1000004,av+1+1+1+1+1) z.1.length)],[(.a (1000004,av+1+1+1+1+1),Ej z.1)],z.2⟩) (fun z=>(z.1:(List (Int×Int×Int)))) (.x 0) ?_ ?_
    ·refine Aq (fun n (y:Int×(List (Int×Int×Int))×Nat)=>CS N l837 l867 n y.1 y.2.1) (fun y=>⟨[(5,.own (1000001,7) (l837++l867).length),(6,.own (1000004,av+1+1+1+1+1) y.2.1.length),(7,.i y.1)],[(.a (1000004,av+1+1+1+1+1),Ej y.2.1),(.a (1000001,7),Ej (l837++l867))],y.2.2⟩) (0,[],av+1+1+1+1+1) lh (leF F) ?_
     rintro n ⟨af,dz,ij⟩ cz
     simp only[CS] at cz
     refine gcb hS F cz (fun _ cz=> ?_) (fun _ cz=> ?_)
     ·obtain⟨o7,cz⟩:=un cz
      obtain⟨jk,lg,cz⟩:=un cz
      refine go hS F ?_
      refine Au jk (fun z:(List (Int×Int×Int))×Nat=>⟨[(5,.own (1000001,7) (l837++l867).length),(6,.own (1000004,av+1+1+1+1+1) z.1.length),(7,.i af)],[(.a (1000004,av+1+1+1+1+1),Ej z.1),(.a (1000001,7),Ej (l837++l867))],z.2⟩) (fun z=>(z.1:(List (Int×Int×Int)))) (.x 2) ?_ ?_
      ·refine Aq (fun n (y:Int×(List (Int×Int×Int))×Nat)=>B9 N l837 l867 af n y.1 y.2.1) (fun y=>⟨[(5,.own (1000001,7) (l837++l867).length),(6,.own (1000004,av+1+1+1+1+1) y.2.1.length),(7,.i af),(8,.i y.1)],[(.a (1000004,av+1+1+1+1+1),Ej y.2.1),(.a (1000001,7),Ej (l837++l867))],y.2.2⟩) (af+1,dz,ij+1+1) lg (leF F) ?_
       rintro n ⟨bb,l1106,aw⟩ ah
       simp only[B9] at ah
       refine gcb hS F ah (fun _ ah=> ?_) (fun _ ah=> ?_)
       ·obtain⟨⟨au,aq,az⟩,jb,ah⟩:=un ah
        obtain⟨kr,F⟩:=rqG Gz jb F
        obtain⟨⟨an,am,ay⟩,ja,ah⟩:=un ah
        obtain⟨kq,F⟩:=rqG Gz ja F
        obtain⟨o0,oz,oy,ox,ov,ot,om,oj,oh,ah⟩:=un ah
        refine gcb hS F ah (fun _ ah=> ?_) (fun _ ah=> ?_)
        ·obtain⟨og,ah⟩:=un ah
         exact gbk hS F (n,bb+1,l1106,aw+1+1+1+1) ah
        ·obtain⟨jn,d9,ah⟩:=un ah
         refine go hS F ?_
         refine Au jn (fun z:Int×Int×Int×Nat=>⟨[(5,.own (1000001,7) (l837++l867).length),(6,.own (1000004,av+1+1+1+1+1) l1106.length),(7,.i af),(8,.i bb),(9,.box (1170,aw+1+1) 0)],[(.c (1170,aw+1+1) 0,.i z.1),(.c (1170,aw+1+1) 1,.i z.2.1),(.c (1170,aw+1+1) 2,.i z.2.2.1),(.a (1000004,av+1+1+1+1+1),Ej l1106),(.a (1000001,7),Ej (l837++l867))],z.2.2.2⟩) (fun z=>((z.1,z.2.1,z.2.2.1):Int×Int×Int)) .n ?_ ?_
         ·refine gcb hS F d9 (fun _ d9=> ?_) (fun _ d9=> ?_)
          ·obtain⟨oe,od,oc,d9⟩:=un d9
           exact gck hS F (-((aq*ay)-(am*az)),-((az*an)-(ay*au)),-((au*am)-(an*aq)),aw+1+1+1+1+1) d9
          ·exact gck hS F ((aq*ay)-(am*az),(az*an)-(ay*au),(au*am)-(an*aq),aw+1+1+1+1) d9
         ·rintro⟨bg,be,bm,j5⟩ rfl
          obtain⟨jm,lf,ah⟩:=un ah
          refine go hS F ?_
          refine Au jm (fun z:Bool×Nat=>⟨[(5,.own (1000001,7) (l837++l867).length),(6,.own (1000004,av+1+1+1+1+1) l1106.length),(7,.i af),(8,.i bb),(9,.box (1170,aw+1+1) 0),(10,.b z.1)],[(.c (1170,aw+1+1) 0,.i bg),(.c (1170,aw+1+1) 1,.i be),(.c (1170,aw+1+1) 2,.i bm),(.a (1000004,av+1+1+1+1+1),Ej l1106),(.a (1000001,7),Ej (l837++l867))],z.2⟩) (fun z=>(z.1:Bool)) (.x 4) ?_ ?_
          ·refine Aq (fun n (y:Bool×Int×Nat)=>CR N l837 l867 bg be bm n y.1 y.2.1) (fun y=>⟨[(5,.own (1000001,7) (l837++l867).length),(6,.own (1000004,av+1+1+1+1+1) l1106.length),(7,.i af),(8,.i bb),(9,.box (1170,aw+1+1) 0),(10,.b y.1),(11,.i y.2.1)],[(.c (1170,aw+1+1) 0,.i bg),(.c (1170,aw+1+1) 1,.i be),(.c (1170,aw+1+1) 2,.i bm),(.a (1000004,av+1+1+1+1+1),Ej l1106),(.a (1000001,7),Ej (l837++l867))],y.2.2⟩) (true,0,j5+1+1) lf (leF F) ?_
           rintro n ⟨ae,n1141,ig⟩ d5
           simp only[CR] at d5
           refine gcb hS F d5 (fun _ d5=> ?_) (fun _ d5=> ?_)
           ·obtain⟨oa,n9,n8,n7,n5,n4,nz,ny,nw,nv,nu,nr,d5⟩:=un d5
            exact gbk hS F (n,ae&&(decide (0≤(((((l837++l867).getD n1141.toNat (0,0,0)).1)*bg)+((((l837++l867).getD n1141.toNat (0,0,0)).2.1)*be))+((((l837++l867).getD n1141.toNat (0,0,0)).2.2)*bm))),n1141+1,ig+1+1+1) d5
           ·exact gck hS F (ae,ig+1) d5
          ·rintro⟨gh,ie⟩ rfl
           refine gcb hS F ah (fun _ ah=> ?_) (fun _ ah=> ?_)
           ·obtain⟨nk,nj,ah⟩:=un ah
            exact gbk hS F (n,bb+1,l1106++[(bg,be,bm)],ie+1+1+1) ah
           ·obtain⟨nh,ah⟩:=un ah
            exact gbk hS F (n,bb+1,l1106,ie+1+1) ah
       ·exact gck hS F (l1106,aw+1) ah
      ·rintro⟨gf,jz⟩ rfl
       obtain⟨ng,cz⟩:=un cz
       exact gbk hS F (n,af+1,gf,jz+1) cz
     ·exact gck hS F (dz,ij+1) cz
    ·rintro⟨l1158,jy⟩ rfl
     obtain⟨fh,k9,h⟩:=un h
     refine go hS F ?_
     refine Au fh (fun z:Nat=>⟨[],[],z⟩) (fun z=>(.inl ():Sum Unit Bool)) (.x 6) ?_ ?_
     ·refine Aq (fun n (y:Int×Nat)=>BQ N l1158 n y.1) (fun y=>⟨[(6,.own (1000004,av+1+1+1+1+1) l1158.length),(12,.i y.1)],[(.a (1000004,av+1+1+1+1+1),Ej l1158)],y.2⟩) (0,jy+1) k9 (leF F) ?_
      rintro n ⟨ai,ic⟩ de
      simp only[BQ] at de
      refine gcb hS F de (fun _ de=> ?_) (fun _ de=> ?_)
      ·obtain⟨fj,kw,de⟩:=un de
       refine go hS F ?_
       refine Au fj (fun z:Nat=>⟨[(6,.own (1000004,av+1+1+1+1+1) l1158.length),(12,.i ai)],[(.a (1000004,av+1+1+1+1+1),Ej l1158)],z⟩) (fun z=>(.inl ():Sum Unit Bool)) (.x 8) ?_ ?_
       ·refine Aq (fun n (y:Int×Nat)=>BP N ai l1158 n y.1) (fun y=>⟨[(6,.own (1000004,av+1+1+1+1+1) l1158.length),(12,.i ai),(13,.i y.1)],[(.a (1000004,av+1+1+1+1+1),Ej l1158)],y.2⟩) (0,ic+1+1) kw (leF F) ?_
        rintro n ⟨bo,g9⟩ db
        simp only[BP] at db
        refine gcb hS F db (fun _ db=> ?_) (fun _ db=> ?_)
        ·obtain⟨fq,kv,db⟩:=un db
         refine go hS F ?_
         refine Au fq (fun z:Nat=>⟨[(6,.own (1000004,av+1+1+1+1+1) l1158.length),(12,.i ai),(13,.i bo)],[(.a (1000004,av+1+1+1+1+1),Ej l1158)],z⟩) (fun z=>(.inl ():Sum Unit Bool)) (.x 10) ?_ ?_
         ·refine Aq (fun n (y:Int×Nat)=>Bu N bo l1158 ai n y.1) (fun y=>⟨[(6,.own (1000004,av+1+1+1+1+1) l1158.length),(12,.i ai),(13,.i bo),(14,.i y.1)],[(.a (1000004,av+1+1+1+1+1),Ej l1158)],y.2⟩) (0,g9+1+1) kv (leF F) ?_
          rintro n ⟨dg,g8⟩ bp
          simp only[Bu] at bp
          refine gcb hS F bp (fun _ bp=> ?_) (fun _ bp=> ?_)
          ·obtain⟨⟨du,dt,eh⟩,i9,bp⟩:=un bp
           obtain⟨km,F⟩:=rqG Gz i9 F
           obtain⟨⟨bw,bv,bj⟩,i8,bp⟩:=un bp
           obtain⟨kl,F⟩:=rqG Gz i8 F
           obtain⟨⟨bu,br,bi⟩,i7,bp⟩:=un bp
           obtain⟨kj,F⟩:=rqG Gz i7 F
           obtain⟨nb,m9,m7,mz,my,mr,mq,mo,mh,mg,me,mb,l7,l6,bp⟩:=un bp
           refine gcb hS F bp (fun _ bp=> ?_) (fun _ bp=> ?_)
           ·obtain rfl:=yJ bp
            obtain rfl:=yJ db
            obtain rfl:=yJ de
            exact Ad hS F h
           ·obtain⟨l5,bp⟩:=un bp
            exact gbk hS F (n,dg+1,g8+1+1+1+1+1+1) bp
          ·exact gck hS F (g8+1) bp
         ·rintro jx rfl
          obtain⟨lz,db⟩:=un db
          exact gbk hS F (n,bo+1,jx+1) db
        ·exact gck hS F (g9+1) db
       ·rintro jw rfl
        obtain⟨lw,de⟩:=un de
        exact gbk hS F (n,ai+1,jw+1) de
      ·exact gck hS F (ic+1) de
     ·rintro lq rfl
      exact Ad hS F h
def C2 (N:Nat) (a1216:List (Int×Int)) (ak:Int) (aa:List (Int×Int)):Nat→Int→(List (Int×Int))→Option ((List (Int×Int)))
 |0,_,_=>none
 |n+1,bh,l1263=>
  bif decide (bh≤40) then(
   (CT N a1216 ak bh).bind fun fb=>
   gd ((decide (fb=0))=true→((CT N aa ak bh).isSome=true))<|
   bif (decide (fb=0))&&(decide ((CT N aa ak bh).getD 0=0)) then(
    gd ((l1263.length+1)*16≤140737488355328)<|
    gd (I64 (bh+1))<|
    C2 N a1216 ak aa n (bh+1) (l1263++[(ak,bh)]))
   else(
    gd (I64 (bh+1))<|
    C2 N a1216 ak aa n (bh+1) l1263))
  else(
   some l1263)
def DD (N:Nat) (a1216:List (Int×Int)) (aa:List (Int×Int)):Nat→Int→(List (Int×Int))→Option ((List (Int×Int)))
 |0,_,_=>none
 |n+1,ak,dw=>
  bif decide (ak≤40) then(
   (C2 N a1216 ak aa N 0 dw).bind fun gc=>
   gd (I64 (ak+1))<|
   DD N a1216 aa n (ak+1) gc)
  else(
   some dw)
def B7 (N:Nat) (a1216:List (Int×Int)) (co:Int) (ce:Int) (b9:Int) (bz:Int):Nat→Int→Option (Sum Unit ((((Int×Int)×(Int×Int))×Bool)))
 |0,_=>none
 |n+1,dh=>
  bif decide (dh<(a1216.length:Int)) then(
   (nth a1216 dh).bind fun(gw,gu)=>
   (C6 N co ce b9 bz gw gu).bind fun gx=>
   bif decide (gx<0) then(
    some (.inr (((b9,bz),(co,ce)),true)))
   else(
    gd (I64 (dh+1))<|
    B7 N a1216 co ce b9 bz n (dh+1)))
  else(
   some (.inl ()))
def C7 (N:Nat) (a1216:List (Int×Int)) (aa:List (Int×Int)):Option (((Int×Int)×(Int×Int))×Bool):=
 (Bo N a1216).bind fun ez=>
 gd ((!(!ez))=true→((Bo N aa).isSome=true))<|
 gd ((!((!ez)||(!((Bo N aa).getD false))))=true→((BO N a1216 aa).isSome=true))<|
 bif ((!ez)||(!((Bo N aa).getD false)))||((BO N a1216 aa).getD false) then(
  some (((0,0),(0,0)),false))
 else(
  (DD N a1216 aa N 0 []).bind fun l1276=>
  bif decide ((l1276.length:Int)<2) then(
   some (((0,0),(0,0)),false))
  else(
   (nth l1276 0).bind fun(co,ce)=>
   gd (I64 ((l1276.length:Int)-1))<|
   (nth l1276 ((l1276.length:Int)-1)).bind fun(b9,bz)=>
   (B7 N a1216 co ce b9 bz N 0).bind fun fg=>match fg with
    | .inl ()=>(
     some (((co,ce),(b9,bz)),true))
    | .inr jd=>(
     some jd)))
@[go_sem] def oI (N:Nat):Spec:=p0<|pS Ap fun a1216=>pS Ap fun aa=>pE<|pF (C7 N a1216 aa) (((0,0),(0,0)),false) fun r=> .tup [.agg [.i r.1.1.1,.i r.1.1.2,.i r.1.2.1,.i r.1.2.2],.b r.2]
end Go.Proofs.YtciphecegkfaiaaGreat.Am
namespace Go.Proofs.YtciphecegkfaiaaGreat.Am
open Go
attribute [local irreducible] awp B5 BR Bx B3 Bw Bn BS B1 itK
set_option maxRecDepth 100000
set_option maxHeartbeats 8000000
set_option linter.unusedSimpArgs false
set_option linter.unusedVariables false
attribute [local go_sem] isB KO
def Bs (N:Nat) (cr:Int) (cq:Int) (co:Int) (ce:List (Int×Int)) (ay:Int) (aw:Int):Option Bool:=
 bif (((((decide (cr<0))||(decide (99<cr)))||(decide (cq<1)))||(decide (8<cq)))||(decide (co<0)))||(decide (7<co)) then(
  some false)
 else(
  gd ((((decide (0≤ay))&&(decide (ay<aw)))&&(decide (aw≤8)))=true→((Bo N ce).isSome=true))<|
  some ((((decide (0≤ay))&&(decide (ay<aw)))&&(decide (aw≤8)))&&((Bo N ce).getD false)))
@[go_sem] def oZ (N:Nat):Spec:=p0<|pG<|pI fun cr=>pI fun cq=>pI fun co=>pS Ap fun ce=>pI fun ay=>pI fun aw=>pE<|pE<|pF (Bs N cr cq co ce ay aw) false fun r=> .b r
theorem Kg (N:Nat):FOK Tryz.prog 107 (oZ N):=by
 refine Al x107.ok<|AW<|Ac fun cr=>Ac fun cq=>Ac fun co=>A3 fun ce=>Ac fun ay=>Ac fun aw=>Ah<|Ah<|An fun r h=>wx x107 (Aa (My N)<|Aj) fun _ hS F=> ?_
 dsimp only[x107,mkX,Ap]
 unfold Bs at h
 refine gcb hS F h (fun _ h=> ?_) (fun _ h=> ?_)
 ·exact Ad hS F h
 ·obtain⟨jt,h⟩:=un h
  exact Ad hS F h
def Er (N:Nat) (eh:Int) (d9:Int) (d8:Int) (b9:List (Int×Int)) (av:Int) (au:Int):Option Int:=
 (Bs N eh d9 d8 b9 av au).bind fun jc=>
 bif !jc then(
  some 0)
 else(
  (Du N b9).bind fun ij=>
  gd (I64 (au-av))<|
  gd (I64 (ij*(au-av)))<|
  some (ij*(au-av)))
@[go_sem] def pA (N:Nat):Spec:=p0<|pG<|pI fun eh=>pI fun d9=>pI fun d8=>pS Ap fun b9=>pI fun av=>pI fun au=>pE<|pE<|pF (Er N eh d9 d8 b9 av au) 0 fun r=> .i r
def DU (N:Nat) (gz:Int) (gy:Int) (gx:Int) (gw:List (Int×Int)) (dw:Int) (du:Int) (dl:Int) (dh:Int) (dg:Int) (de:List (Int×Int)) (bi:Int) (bh:Int):Option Bool:=
 (Bs N gz gy gx gw dw du).bind fun ig=>
 gd (ig=true→((Bs N dl dh dg de bi bh).isSome=true))<|
 some ((ig&&((Bs N dl dh dg de bi bh).getD false))&&(decide (max dw bi<min du bh)))
@[go_sem] def pC (N:Nat):Spec:=p0<|pG<|pI fun gz=>pI fun gy=>pI fun gx=>pS Ap fun gw=>pI fun dw=>pI fun du=>pE<|pG<|pI fun dl=>pI fun dh=>pI fun dg=>pS Ap fun de=>pI fun bi=>pI fun bh=>pE<|pE<|pF (DU N gz gy gx gw dw du dl dh dg de bi bh) false fun r=> .b r
theorem V4 (N:Nat):FOK Tryz.prog 144 (pC N):=by
 refine Al x144.ok<|AW<|Ac fun gz=>Ac fun gy=>Ac fun gx=>A3 fun gw=>Ac fun dw=>Ac fun du=>Ah<|AW<|Ac fun dl=>Ac fun dh=>Ac fun dg=>A3 fun de=>Ac fun bi=>Ac fun bh=>Ah<|Ah<|An fun r h=>wx x144 (Aa (Kg N)<|Aj) fun _ hS F=> ?_
 dsimp only[x144,mkX,Ap]
 unfold DU at h
 obtain⟨ig,jm,jt,h⟩:=un h
 exact Ad hS (fc jm F) h
def DF (N:Nat) (gu:Int) (gt:Int) (gj:Int) (bj:List (Int×Int)) (gi:Int) (gh:Int) (fq:Int) (fj:Int) (fh:Int) (bg:List (Int×Int)) (fg:Int) (fb:Int):Option Bool:=
 (DU N gu gt gj bj gi gh fq fj fh bg fg fb).bind fun ie=>
 gd (ie=true→((BO N bj bg).isSome=true))<|
 some (ie&&((BO N bj bg).getD false))
@[go_sem] def pH (N:Nat):Spec:=p0<|pG<|pI fun gu=>pI fun gt=>pI fun gj=>pS Ap fun bj=>pI fun gi=>pI fun gh=>pE<|pG<|pI fun fq=>pI fun fj=>pI fun fh=>pS Ap fun bg=>pI fun fg=>pI fun fb=>pE<|pE<|pF (DF N gu gt gj bj gi gh fq fj fh bg fg fb) false fun r=> .b r
theorem gS (N:Nat):FOK Tryz.prog 108 (pH N):=by
 refine Al x108.ok<|AW<|Ac fun gu=>Ac fun gt=>Ac fun gj=>A3 fun bj=>Ac fun gi=>Ac fun gh=>Ah<|AW<|Ac fun fq=>Ac fun fj=>Ac fun fh=>A3 fun bg=>Ac fun fg=>Ac fun fb=>Ah<|Ah<|An fun r h=>wx x108 (Aa (V4 N)<|Aa (VY N)<|Aj) fun _ hS F=> ?_
 dsimp only[x108,mkX,Ap]
 unfold DF at h
 obtain⟨ie,jk,jt,h⟩:=un h
 exact Ad hS (fc jk F) h
def EW (N:Nat) (dt:Int) (gf:Int) (gc:Int) (dq:List (Int×Int)) (dp:Int) (dm:Int) (db:Int) (e9:Int) (ez:Int) (cz:List (Int×Int)) (cy:Int) (cu:Int):Option ((Int×Int×((Int×Int)×(Int×Int))×Int×Int)×Bool):=
 (DU N dt gf gc dq dp dm db e9 ez cz cy cu).bind fun jb=>
 bif !jb then(
  some ((0,0,((0,0),(0,0)),0,0),false))
 else(
  (C7 N dq cz).bind fun(((ja,i9),(i8,i7)),i6)=>
  bif !i6 then(
   some ((0,0,((0,0),(0,0)),0,0),false))
  else(
   some ((dt,db,((ja,i9),(i8,i7)),max dp cy,min dm cu),true)))
@[go_sem] def pJ (N:Nat):Spec:=p0<|pG<|pI fun dt=>pI fun gf=>pI fun gc=>pS Ap fun dq=>pI fun dp=>pI fun dm=>pE<|pG<|pI fun db=>pI fun e9=>pI fun ez=>pS Ap fun cz=>pI fun cy=>pI fun cu=>pE<|pE<|pF (EW N dt gf gc dq dp dm db e9 ez cz cy cu) ((0,0,((0,0),(0,0)),0,0),false) fun r=> .tup [.agg [.i r.1.1,.i r.1.2.1,.i r.1.2.2.1.1.1,.i r.1.2.2.1.1.2,.i r.1.2.2.1.2.1,.i r.1.2.2.1.2.2,.i r.1.2.2.2.1,.i r.1.2.2.2.2],.b r.2]
def CH (N:Nat) (u1369:List (Int×Int)):Nat→Int→(List (Int×Int))→Option ((List (Int×Int)))
 |0,_,_=>none
 |n+1,ae,l1385=>
  bif decide (ae<(u1369.length:Int)) then(
   (nth u1369 ae).bind fun(ic,d7)=>
   bif decide (d7=0) then(
    gd ((l1385.length+1)*16≤140737488355328)<|
    gd (I64 (ae+1))<|
    CH N u1369 n (ae+1) (l1385++[(ic,d7)]))
   else(
    gd (I64 (ae+1))<|
    CH N u1369 n (ae+1) l1385))
  else(
   some l1385)
def DV (N:Nat) (aq:Int) (bb:Int) (az:Int) (u1369:List (Int×Int)) (an:Int) (am:Int):Option ((Int×Int×((Int×Int)×(Int×Int))×Int×Int)×Bool):=
 (Bs N aq bb az u1369 an am).bind fun iz=>
 bif !iz then(
  some ((0,0,((0,0),(0,0)),0,0),false))
 else(
  (CH N u1369 N 0 []).bind fun l1393=>
  bif decide ((l1393.length:Int)≠2) then(
   some ((0,0,((0,0),(0,0)),0,0),false))
  else(
   (nth l1393 0).bind fun(d6,g9)=>
   (nth l1393 1).bind fun(d5,g8)=>
   bif decide (d5<d6) then(
    some ((aq,(-1),((d5,g8),(d6,g9)),an,am),true))
   else(
    some ((aq,(-1),((d6,g9),(d5,g8)),an,am),true))))
@[go_sem] def pM (N:Nat):Spec:=p0<|pG<|pI fun aq=>pI fun bb=>pI fun az=>pS Ap fun u1369=>pI fun an=>pI fun am=>pE<|pE<|pF (DV N aq bb az u1369 an am) ((0,0,((0,0),(0,0)),0,0),false) fun r=> .tup [.agg [.i r.1.1,.i r.1.2.1,.i r.1.2.2.1.1.1,.i r.1.2.2.1.1.2,.i r.1.2.2.1.2.1,.i r.1.2.2.1.2.2,.i r.1.2.2.2.1,.i r.1.2.2.2.2],.b r.2]
def Fe (N:Nat) (bz:Int) (bw:Int) (bv:Int) (bu:List (Int×Int)) (br:Int) (bq:Int) (bo:Int) (bm:Int):Option ((Int×Int×Int×(List (Int×Int))×Int×Int)×Int):=
 (Bs N bz bw bv bu br bq).bind fun iy=>
 bif !iy then(
  some ((0,0,0,[],0,0),80))
 else(
  (DQ N bu bo bm).bind fun(iw,iv)=>
  bif decide (iv≠0) then(
   some ((0,0,0,[],0,0),80))
  else(
   some ((bz,bw,bv,iw,br,bq),0)))
@[go_sem] def pN (N:Nat):Spec:=p0<|pG<|pI fun bz=>pI fun bw=>pI fun bv=>pS Ap fun bu=>pI fun br=>pI fun bq=>pE<|pI fun bo=>pI fun bm=>pE<|pF (Fe N bz bw bv bu br bq bo bm) ((0,0,0,[],0,0),0) fun r=> .tup [.agg [.i r.1.1,.i r.1.2.1,.i r.1.2.2.1,A1 r.1.2.2.2.1,.i r.1.2.2.2.2.1,.i r.1.2.2.2.2.2],.i r.2]
def Js (N:Nat) (ak:Int) (aj:Int) (ai:Int) (u1417:List (Int×Int)) (ah:Int) (af:Int) (how1420:Int) (aa:Int) (bp:Int):Option (Int×Int×Int×(List (Int×Int))×Int×Int):=
 gd ((u1417.length)*16≤140737488355328)<|
 (Fd N how1420 6).bind fun be=>
 bif decide (be=0) then(
  some (aa,aj,ai,u1417,ah,af))
 else(
  bif decide (be=1) then(
   some (ak,aa,ai,u1417,ah,af))
  else(
   bif decide (be=2) then(
    some (ak,aj,aa,u1417,ah,af))
   else(
    bif decide (be=3) then(
     some (ak,aj,ai,u1417,aa,af))
    else(
     bif decide (be=4) then(
      some (ak,aj,ai,u1417,ah,aa))
     else(
      gd (I64 (how1420.tdiv 6))<|
      (Fc N u1417 bp aa (how1420.tdiv 6)).bind fun iq=>
      some (ak,aj,ai,iq,ah,af))))))
@[go_sem] def s52 (N:Nat):Spec:=p0<|pG<|pI fun ak=>pI fun aj=>pI fun ai=>pS Ap fun u1417=>pI fun ah=>pI fun af=>pE<|pI fun how1420=>pI fun aa=>pI fun bp=>pE<|pF (Js N ak aj ai u1417 ah af how1420 aa bp) (0,0,0,[],0,0) fun r=> .agg [.i r.1,.i r.2.1,.i r.2.2.1,A1 r.2.2.2.1,.i r.2.2.2.2.1,.i r.2.2.2.2.2]
end Go.Proofs.YtciphecegkfaiaaGreat.Am
namespace Go.Proofs.YtciphecegkfaiaaGreat.Am
open Go
attribute [local irreducible] awp B5 BR Bx B3 Bw Bn BS B1 itK
set_option maxRecDepth 100000
set_option maxHeartbeats 8000000
set_option linter.unusedSimpArgs false
set_option linter.unusedVariables false
def Kh (x:Int):List AV:=[.v (.int .u8 x)]
def Ux:List AV→Int
 |[.v (.int _ a1)]=>a1
 |_=>0
theorem lP (x:Int):Ux (Kh x)=x:=by rfl
theorem lQ (R:List Int):(R.map Kh).map Ux=R:=by
 induction R with
 |nil=>rfl
 |cons r R ih=>rw[List.map_cons,List.map_cons,ih,lP]
theorem lR (R:List Int) (i:Nat):BJ (R.map Kh) [.v (.int .u8 0)] i=Kh (R.getD i 0):=by
 unfold BJ;rw[List.getD_eq_getElem?_getD,List.getD_eq_getElem?_getD,List.getElem?_map];cases R[i]? <;>rfl
def pP:Rw Int:=⟨1,Kh,Ux,[.v (.int .u8 0)]⟩
def pQ (l:List Int):AV:= .sl 1 false (l.map Kh) [.v (.int .u8 0)]
def Yf (l:List Int):AV:= .sl 1 true (l.map Kh) [.v (.int .u8 0)]
attribute [go_sem] pP pQ Yf Kh Ux lQ lR
theorem pU (l:List Int):(l.map Kh).map KO=l.map fun x=>UInt8.ofNat x.toNat:=by rw[List.map_map];rfl
theorem pW (l:List Int):(l.map Kh).all isB=true:=by induction l with|nil=>rfl|cons x l ih=>simp[Kh,isB]
attribute [local go_sem] List.all_append isB KO pU pW
def EK (N:Nat) (n1:Int):Option Int:=
 bif decide (n1<0) then(
  gd (I64 (-n1))<|
  gd (IntKind.wrap .u64 ((IntKind.wrap .u64 (-n1))*2)=((IntKind.wrap .u64 (-n1))*2))<|
  gd (IntKind.wrap .u64 (((IntKind.wrap .u64 (-n1))*2)-1)=(((IntKind.wrap .u64 (-n1))*2)-1))<|
  some (((IntKind.wrap .u64 (-n1))*2)-1))
 else(
  gd (IntKind.wrap .u64 ((IntKind.wrap .u64 n1)*2)=((IntKind.wrap .u64 n1)*2))<|
  some ((IntKind.wrap .u64 n1)*2))
@[go_sem] def pX (N:Nat):Spec:=p0<|pI fun n1=>pE<|pF (EK N n1) 0 fun r=> .v (.int .u64 r)
def Dc (N:Nat):Nat→Int→(List Int)→Option (Int×(List Int))
 |0,_,_=>none
 |n+1,z10,l11=>
  bif decide (128≤z10) then(
   gd (IntKind.wrap .u64 ((z10.tmod 128)+128)=((z10.tmod 128)+128))<|
   gd ((l11.length+1)*1≤140737488355328)<|
   gd (IntKind.wrap .u64 (z10.tdiv 128)=(z10.tdiv 128))<|
   Dc N n (z10.tdiv 128) (l11++[IntKind.wrap .u8 ((z10.tmod 128)+128)]))
  else(
   some (z10,l11))
def CM (N:Nat) (n2:Int):Option ((List UInt8)×Int):=
 bif (decide (n2<(-4611686018427387903)))||(decide (4611686018427387903<n2)) then(
  some ([],10))
 else(
  (EK N n2).bind fun r3=>
  (Dc N N r3 []).bind fun(d6,l17)=>
  gd ((l17.length+1)*1≤140737488355328)<|
  some ((l17++[IntKind.wrap .u8 d6]).map fun x=>UInt8.ofNat x.toNat,0))
@[go_sem] def s64 (N:Nat):Spec:=p0<|pI fun n2=>pE<|pF (CM N n2) ([],0) fun r=> .tup [.v (.string (sB r.1)),.i r.2]
def DW (N:Nat) (at20:Int) (s19:List UInt8):Nat→Int→Int→Option (Sum Unit ((Int×Int×Int)))
 |0,_,_=>none
 |n+1,an,ae=>
  gd ((decide (ae<9))=true→(I64 (at20+ae)))<|
  bif (decide (ae<9))&&(decide (at20+ae<(s19.length:Int))) then(
   gd (I64 (at20+ae))<|
   gd (0≤at20+ae∧at20+ae<(s19.length:Int))<|
   gd (I64 (7*ae))<|
   gd (0≤7*ae)<|
   gd (IntKind.wrap .u64 (an+(Cp .shl .u64 ((IntKind.wrap .u64 ((s19.getD (at20+ae).toNat 0).toNat:Int)).tmod 128) (7*ae)))=(an+(Cp .shl .u64 ((IntKind.wrap .u64 ((s19.getD (at20+ae).toNat 0).toNat:Int)).tmod 128) (7*ae))))<|
   bif decide (128≤IntKind.wrap .u64 ((s19.getD (at20+ae).toNat 0).toNat:Int)) then(
    gd (I64 (ae+1))<|
    DW N at20 s19 n (an+(Cp .shl .u64 ((IntKind.wrap .u64 ((s19.getD (at20+ae).toNat 0).toNat:Int)).tmod 128) (7*ae))) (ae+1))
   else(
    gd (IntKind.wrap .u64 ((an+(Cp .shl .u64 ((IntKind.wrap .u64 ((s19.getD (at20+ae).toNat 0).toNat:Int)).tmod 128) (7*ae))).tdiv 2)=((an+(Cp .shl .u64 ((IntKind.wrap .u64 ((s19.getD (at20+ae).toNat 0).toNat:Int)).tmod 128) (7*ae))).tdiv 2))<|
    (bif decide ((an+(Cp .shl .u64 ((IntKind.wrap .u64 ((s19.getD (at20+ae).toNat 0).toNat:Int)).tmod 128) (7*ae))).tmod 2=1) then(
      gd (I64 (-(IntKind.wrap .i64 ((an+(Cp .shl .u64 ((IntKind.wrap .u64 ((s19.getD (at20+ae).toNat 0).toNat:Int)).tmod 128) (7*ae))).tdiv 2))))<|
      gd (I64 ((-(IntKind.wrap .i64 ((an+(Cp .shl .u64 ((IntKind.wrap .u64 ((s19.getD (at20+ae).toNat 0).toNat:Int)).tmod 128) (7*ae))).tdiv 2)))-1))<|
      some ((-(IntKind.wrap .i64 ((an+(Cp .shl .u64 ((IntKind.wrap .u64 ((s19.getD (at20+ae).toNat 0).toNat:Int)).tmod 128) (7*ae))).tdiv 2)))-1))
     else(
      some (IntKind.wrap .i64 ((an+(Cp .shl .u64 ((IntKind.wrap .u64 ((s19.getD (at20+ae).toNat 0).toNat:Int)).tmod 128) (7*ae))).tdiv 2))):Option (Int)).bind fun dl=>
    (CM N dl).bind fun(d9,bp)=>
    gd ((!(decide (bp≠0)))=true→(I64 (at20+ae)))<|
    gd ((!(decide (bp≠0)))=true→(I64 ((at20+ae)+1)))<|
    gd ((!(decide (bp≠0)))=true→(0≤at20∧at20≤(at20+ae)+1∧(at20+ae)+1≤(s19.length:Int)))<|
    bif (decide (bp≠0))||(!decide (d9=(s19.drop at20.toNat).take (((at20+ae)+1).toNat-at20.toNat))) then(
     some (.inr (0,0,10)))
    else(
     gd (I64 (at20+ae))<|
     gd (I64 ((at20+ae)+1))<|
     some (.inr (dl,(at20+ae)+1,0)))))
  else(
   some (.inl ()))
def D5 (N:Nat) (s19:List UInt8) (at20:Int):Option (Int×Int×Int):=
 bif (decide (at20<0))||(decide ((s19.length:Int)<at20)) then(
  some (0,0,2))
 else(
  (DW N at20 s19 N 0 0).bind fun dg=>match dg with
   | .inl ()=>(
    some (0,0,10))
   | .inr r47=>(
    some r47))
@[go_sem] def s70 (N:Nat):Spec:=p0<|pT fun s19=>pI fun at20=>pE<|pF (D5 N s19 at20) (0,0,0) fun r=> .tup [.i r.1,.i r.2.1,.i r.2.2]
def Dd (N:Nat) (u52:List (Int×Int)):Nat→Int→(List Int)→Option ((List Int))
 |0,_,_=>none
 |n+1,bo,l63=>
  bif decide (bo<(u52.length:Int)) then(
   (nth u52 bo).bind fun(x64,x65)=>
   gd ((l63.length+2)*8≤140737488355328)<|
   gd (I64 (bo+1))<|
   Dd N u52 n (bo+1) (l63++[x64,x65]))
  else(
   some l63)
def De (N:Nat) (l71:List Int):Nat→(List UInt8)→Int→Option ((List UInt8))
 |0,_,_=>none
 |n+1,s80,bm=>
  bif decide (bm<(l71.length:Int)) then(
   (nth l71 bm).bind fun d7=>
   (CM N d7).bind fun(cu,gt)=>
   gd ((s80++cu).length≤140737488355328)<|
   gd (I64 (bm+1))<|
   De N l71 n (s80++cu) (bm+1))
  else(
   some s80)
def Di (N:Nat) (bg:Int) (be:Int) (bb:Int) (u52:List (Int×Int)) (az:Int) (ay:Int):Option ((List UInt8)×Int):=
 (Bs N bg be bb u52 az ay).bind fun d8=>
 bif !d8 then(
  some ([],80))
 else(
  (Dd N u52 N 0 [bg,be,bb,az,ay,(u52.length:Int)]).bind fun l71=>
  (De N l71 N [] 0).bind fun s91=>
  some (s91,0))
@[go_sem] def s65 (N:Nat):Spec:=p0<|pG<|pI fun bg=>pI fun be=>pI fun bb=>pS Ap fun u52=>pI fun az=>pI fun ay=>pE<|pE<|pF (Di N bg be bb u52 az ay) ([],0) fun r=> .tup [.v (.string (sB r.1)),.i r.2]
def Bh (N:Nat) (s93:List UInt8):Nat→Int→Int→(List Int)→Option (Sum (Int×(List Int)) (((Int×Int×Int×(List (Int×Int))×Int×Int)×Int)))
 |0,_,_,_=>none
 |n+1,aq,ah,l108=>
  gd ((!(decide (ah<6)))=true→(0≤5∧5<(l108.length:Int)))<|
  gd ((!(decide (ah<6)))=true→(0≤5∧5<(l108.length:Int)))<|
  gd ((!(decide (ah<6)))=true→(I64 (2*(l108.getD 5 0))))<|
  gd ((!(decide (ah<6)))=true→(I64 (6+(2*(l108.getD 5 0)))))<|
  bif (decide (ah<6))||(decide (ah<6+(2*(l108.getD 5 0)))) then(
   (D5 N s93 aq).bind fun(au,bh,bq)=>
   bif (decide (bq≠0))||((decide (ah=5))&&((decide (au<3))||(decide (8<au)))) then(
    some (.inr ((0,0,0,[],0,0),80)))
   else(
    gd ((l108.length+1)*8≤140737488355328)<|
    gd (I64 (ah+1))<|
    Bh N s93 n bh (ah+1) (l108++[au])))
  else(
   some (.inl (aq,l108)))
def AbJ (N:Nat) (l119:List Int):Nat→Int→(List (Int×Int))→Option ((List (Int×Int)))
 |0,_,_=>none
 |n+1,ai,l146=>
  bif decide (ai<(l119.length:Int)) then(
   (nth l119 ai).bind fun x147=>
   gd (I64 (ai+1))<|
   (nth l119 (ai+1)).bind fun x149=>
   gd ((l146.length+1)*16≤140737488355328)<|
   gd (I64 (ai+2))<|
   AbJ N l119 n (ai+2) (l146++[(x147,x149)]))
  else(
   some l146)
def EL (N:Nat) (s93:List UInt8):Option ((Int×Int×Int×(List (Int×Int))×Int×Int)×Int):=
 (Bh N s93 N 0 0 []).bind fun bi=>match bi with
  | .inl (ak,l119)=>(
   (nth l119 0).bind fun x122=>
   (nth l119 1).bind fun x124=>
   (nth l119 2).bind fun NJ=>
   (nth l119 3).bind fun x128=>
   (nth l119 4).bind fun Ij=>
   (AbJ N l119 N 6 []).bind fun aw=>
   gd ((!(decide (ak≠(s93.length:Int))))=true→((Bs N x122 x124 NJ aw x128 Ij).isSome=true))<|
   bif (decide (ak≠(s93.length:Int)))||(!((Bs N x122 x124 NJ aw x128 Ij).getD false)) then(
    some ((0,0,0,[],0,0),80))
   else(
    some ((x122,x124,NJ,aw,x128,Ij),0)))
  | .inr de=>(
   some de)
@[go_sem] def s72 (N:Nat):Spec:=p0<|pT fun s93=>pE<|pF (EL N s93) ((0,0,0,[],0,0),0) fun r=> .tup [.agg [.i r.1.1,.i r.1.2.1,.i r.1.2.2.1,A1 r.1.2.2.2.1,.i r.1.2.2.2.2.1,.i r.1.2.2.2.2.2],.i r.2]
end Go.Proofs.YtciphecegkfaiaaGreat.Am
