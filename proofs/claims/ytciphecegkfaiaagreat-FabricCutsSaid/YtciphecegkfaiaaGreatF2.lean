import Derived.Test.YtciphecegkfaiaaGreatE6
import Derived.Test.YtciphecegkfaiaaGreatP3
import Derived.Test.YtciphecegkfaiaaGreatA19
import Derived.Test.YtciphecegkfaiaaGreatK6
import Derived.Test.YtciphecegkfaiaaGreatE1
namespace Go.Proofs.YtciphecegkfaiaaGreat.Am
open Go
attribute [local irreducible] awp B5 BR Bx B3 Bw Bn BS B1 itK
set_option maxRecDepth 100000
set_option maxHeartbeats 8000000
set_option linter.unusedSimpArgs false
set_option linter.unusedVariables false
def I7 (x:List Int):List AV:=[L_i x]
def RY:List AV→List Int
 |[.sl _ _ a1 _]=>(a1.map d_i)
 |_=>[]
theorem lU (x:List Int):RY (I7 x)=x:=by simp only[I7,RY,L_i,fY]
theorem lV (R:List (List Int)):(R.map I7).map RY=R:=by
 induction R with
 |nil=>rfl
 |cons r R ih=>rw[List.map_cons,List.map_cons,ih,lU]
def Ai (x:Int×Int×Int×(List (Int×Int))×Int×Int):List AV:=[.i x.1,.i x.2.1,.i x.2.2.1,A1 x.2.2.2.1,.i x.2.2.2.2.1,.i x.2.2.2.2.2]
def HD:List AV→Int×Int×Int×(List (Int×Int))×Int×Int
 |[.v (.int _ a1),.v (.int _ a2),.v (.int _ a3),.sl _ _ a4 _,.v (.int _ a5),.v (.int _ a6)]=>(a1,a2,a3,(a4.map KV),a5,a6)
 |_=>(0,0,0,[],0,0)
theorem QH (x:Int×Int×Int×(List (Int×Int))×Int×Int):HD (Ai x)=x:=by simp only[Ai,HD,A1,LQ]
theorem QI (R:List (Int×Int×Int×(List (Int×Int))×Int×Int)):(R.map Ai).map HD=R:=by
 induction R with
 |nil=>rfl
 |cons r R ih=>rw[List.map_cons,List.map_cons,ih,QH]
def BG (x:Int×Int×((Int×Int)×(Int×Int))×Int×Int):List AV:=[.i x.1,.i x.2.1,.i x.2.2.1.1.1,.i x.2.2.1.1.2,.i x.2.2.1.2.1,.i x.2.2.1.2.2,.i x.2.2.2.1,.i x.2.2.2.2]
def HS:List AV→Int×Int×((Int×Int)×(Int×Int))×Int×Int
 |[.v (.int _ a1),.v (.int _ a2),.v (.int _ a3),.v (.int _ a4),.v (.int _ a5),.v (.int _ a6),.v (.int _ a7),.v (.int _ a8)]=>(a1,a2,((a3,a4),(a5,a6)),a7,a8)
 |_=>(0,0,((0,0),(0,0)),0,0)
theorem OT (x:Int×Int×((Int×Int)×(Int×Int))×Int×Int):HS (BG x)=x:=by rfl
theorem OU (R:List (Int×Int×((Int×Int)×(Int×Int))×Int×Int)):(R.map BG).map HS=R:=by
 induction R with
 |nil=>rfl
 |cons r R ih=>rw[List.map_cons,List.map_cons,ih,OT]
theorem OV (R:List (Int×Int×((Int×Int)×(Int×Int))×Int×Int)) (i:Nat):BJ (R.map BG) [.i 0,.i 0,.i 0,.i 0,.i 0,.i 0,.i 0,.i 0] i=BG (R.getD i (0,0,((0,0),(0,0)),0,0)):=by
 unfold BJ;rw[List.getD_eq_getElem?_getD,List.getD_eq_getElem?_getD,List.getElem?_map];cases R[i]? <;>rfl
def Uz:Rw (List Int):=⟨1,I7,RY,[.sl 0 true [] []]⟩
def JC (l:List (List Int)):AV:= .sl 1 false (l.map I7) [.sl 0 true [] []]
def Yg (l:List (List Int)):AV:= .sl 1 true (l.map I7) [.sl 0 true [] []]
attribute [go_sem] Uz JC Yg I7 RY lV
def Ak:Rw (Int×Int×Int×(List (Int×Int))×Int×Int):=⟨6,Ai,HD,[.i 0,.i 0,.i 0,.sl 0 true [] [],.i 0,.i 0]⟩
def Af (l:List (Int×Int×Int×(List (Int×Int))×Int×Int)):AV:= .sl 6 false (l.map Ai) [.i 0,.i 0,.i 0,.sl 0 true [] [],.i 0,.i 0]
def BK (l:List (Int×Int×Int×(List (Int×Int))×Int×Int)):AV:= .sl 6 true (l.map Ai) [.i 0,.i 0,.i 0,.sl 0 true [] [],.i 0,.i 0]
attribute [go_sem] Ak Af BK Ai HD QI
@[go_sem] theorem aI (R:List (Int×Int×Int×(List (Int×Int))×Int×Int)) (i:Nat):cut 0 1 (BJ (R.map Ai) [.i 0,.i 0,.i 0,.sl 0 true [] [],.i 0,.i 0] i)=some [.i (R.getD i (0,0,0,[],0,0)).1]:=by
 unfold BJ;rw[List.getD_eq_getElem?_getD,List.getD_eq_getElem?_getD,List.getElem?_map];cases R[i]? <;>rfl
@[go_sem] theorem aJ (R:List (Int×Int×Int×(List (Int×Int))×Int×Int)) (i:Nat):cut 1 1 (BJ (R.map Ai) [.i 0,.i 0,.i 0,.sl 0 true [] [],.i 0,.i 0] i)=some [.i (R.getD i (0,0,0,[],0,0)).2.1]:=by
 unfold BJ;rw[List.getD_eq_getElem?_getD,List.getD_eq_getElem?_getD,List.getElem?_map];cases R[i]? <;>rfl
@[go_sem] theorem aK (R:List (Int×Int×Int×(List (Int×Int))×Int×Int)) (i:Nat):cut 2 1 (BJ (R.map Ai) [.i 0,.i 0,.i 0,.sl 0 true [] [],.i 0,.i 0] i)=some [.i (R.getD i (0,0,0,[],0,0)).2.2.1]:=by
 unfold BJ;rw[List.getD_eq_getElem?_getD,List.getD_eq_getElem?_getD,List.getElem?_map];cases R[i]? <;>rfl
@[go_sem] theorem aL (R:List (Int×Int×Int×(List (Int×Int))×Int×Int)) (i:Nat):cut 4 1 (BJ (R.map Ai) [.i 0,.i 0,.i 0,.sl 0 true [] [],.i 0,.i 0] i)=some [.i (R.getD i (0,0,0,[],0,0)).2.2.2.2.1]:=by
 unfold BJ;rw[List.getD_eq_getElem?_getD,List.getD_eq_getElem?_getD,List.getElem?_map];cases R[i]? <;>rfl
@[go_sem] theorem aM (R:List (Int×Int×Int×(List (Int×Int))×Int×Int)) (i:Nat):cut 5 1 (BJ (R.map Ai) [.i 0,.i 0,.i 0,.sl 0 true [] [],.i 0,.i 0] i)=some [.i (R.getD i (0,0,0,[],0,0)).2.2.2.2.2]:=by
 unfold BJ;rw[List.getD_eq_getElem?_getD,List.getD_eq_getElem?_getD,List.getElem?_map];cases R[i]? <;>rfl
def FM:Rw (Int×Int×((Int×Int)×(Int×Int))×Int×Int):=⟨8,BG,HS,[.i 0,.i 0,.i 0,.i 0,.i 0,.i 0,.i 0,.i 0]⟩
def BD (l:List (Int×Int×((Int×Int)×(Int×Int))×Int×Int)):AV:= .sl 8 false (l.map BG) [.i 0,.i 0,.i 0,.i 0,.i 0,.i 0,.i 0,.i 0]
def BH (l:List (Int×Int×((Int×Int)×(Int×Int))×Int×Int)):AV:= .sl 8 true (l.map BG) [.i 0,.i 0,.i 0,.i 0,.i 0,.i 0,.i 0,.i 0]
attribute [go_sem] FM BD BH BG HS OU OV
def Ae (N:Nat) (c1645:Int) (af:Int):Option Int:=
 bif decide (c1645<0) then(
  gd (I64 (c1645+1))<|
  gd (I64 (-(c1645+1)))<|
  gd (af≠0)<|
  some ((-(c1645+1)).tmod af))
 else(
  gd (af≠0)<|
  some (c1645.tmod af))
@[go_sem] def s50 (N:Nat):Spec:=p0<|pI fun c1645=>pI fun af=>pE<|pF (Ae N c1645 af) 0 fun r=> .i r
theorem Y5 (N:Nat):FOK Tryz.prog 50 (s50 N):=by
 refine Al x50.ok<|Ac fun c1645=>Ac fun af=>Ah<|An fun r h=>wx x50 (Aj) fun _ hS F=> ?_
 dsimp only[x50,mkX]
 unfold Ae at h
 refine gcb hS F h (fun _ h=> ?_) (fun _ h=> ?_)
 ·obtain⟨oj,o0,kw,h⟩:=un h
  exact Ad hS F h
 ·obtain⟨oh,h⟩:=un h
  exact Ad hS F h
def BM (N:Nat) (be:Int) (bb:Int) (az:Int) (u1650:List (Int×Int)) (ay:Int) (aw:Int):Option (Int×Int×Int×(List (Int×Int))×Int×Int):=
 gd ((u1650.length)*16≤140737488355328)<|
 some (be,bb,az,u1650,ay,aw)
@[go_sem] def s53 (N:Nat):Spec:=p0<|pG<|pI fun be=>pI fun bb=>pI fun az=>pS Ap fun u1650=>pI fun ay=>pI fun aw=>pE<|pE<|pF (BM N be bb az u1650 ay aw) (0,0,0,[],0,0) fun r=> .agg [.i r.1,.i r.2.1,.i r.2.2.1,A1 r.2.2.2.1,.i r.2.2.2.2.1,.i r.2.2.2.2.2]
theorem QV (N:Nat):FOK Tryz.prog 53 (s53 N):=by
 refine Al x53.ok<|AW<|Ac fun be=>Ac fun bb=>Ac fun az=>A3 fun u1650=>Ac fun ay=>Ac fun aw=>Ah<|Ah<|An fun r h=>wx x53 (Aj) fun _ hS F=> ?_
 dsimp only[x53,mkX,Ap]
 unfold BM at h
 obtain⟨oj,h⟩:=un h
 exact Ad hS F h
def Fk (N:Nat) (f1653:List (Int×Int×Int×(List (Int×Int))×Int×Int)):Nat→Int→(List (Int×Int×Int×(List (Int×Int))×Int×Int))→Option ((List (Int×Int×Int×(List (Int×Int))×Int×Int)))
 |0,_,_=>none
 |n+1,an,l1688=>
  bif decide (an<(f1653.length:Int)) then(
   (nth f1653 an).bind fun(g9,g8,gz,gy,gx,gw)=>
   (BM N g9 g8 gz gy gx gw).bind fun(bv,bu,br,bq,bp,bo)=>
   gd ((l1688.length+1)*64≤140737488355328)<|
   gd (I64 (an+1))<|
   Fk N f1653 n (an+1) (l1688++[(bv,bu,br,bq,bp,bo)]))
  else(
   some l1688)
def Jt (N:Nat) (f1653:List (Int×Int×Int×(List (Int×Int))×Int×Int)):Option (List (Int×Int×Int×(List (Int×Int))×Int×Int)):=
 (Fk N f1653 N 0 []).bind fun ki=>
 some ki
@[go_sem] def s51 (N:Nat):Spec:=p0<|pG<|pD Ak fun f1653=>pE<|pE<|pF (Jt N f1653) [] fun r=> .agg [Af r]
def Fl (N:Nat) (a1709:List (Int×Int×Int×(List (Int×Int))×Int×Int)) (b1710:List (Int×Int×Int×(List (Int×Int))×Int×Int)):Nat→Int→Option (Sum Unit Bool)
 |0,_=>none
 |n+1,am=>
  bif decide (am<(a1709.length:Int)) then(
   (nth a1709 am).bind fun(gu,gt,gj,gi,gh,gf)=>
   (nth b1710 am).bind fun(gc,fq,fj,fh,fg,fb)=>
   (Ep N gu gt gj gi gh gf gc fq fj fh fg fb).bind fun kh=>
   bif !kh then(
    some (.inr false))
   else(
    gd (I64 (am+1))<|
    Fl N a1709 b1710 n (am+1)))
  else(
   some (.inl ()))
def AD (N:Nat) (a1709:List (Int×Int×Int×(List (Int×Int))×Int×Int)) (b1710:List (Int×Int×Int×(List (Int×Int))×Int×Int)):Option Bool:=
 bif decide ((a1709.length:Int)≠(b1710.length:Int)) then(
  some false)
 else(
  (Fl N a1709 b1710 N 0).bind fun co=>match co with
   | .inl ()=>(
    some true)
   | .inr nw=>(
    some nw))
@[go_sem] def s20 (N:Nat):Spec:=p0<|pG<|pD Ak fun a1709=>pE<|pG<|pD Ak fun b1710=>pE<|pE<|pF (AD N a1709 b1710) false fun r=> .b r
theorem UA (N:Nat):FOK Tryz.prog 20 (s20 N):=by
 refine Al x20.ok<|AW<|CQ fun a1709=>Ah<|AW<|CQ fun b1710=>Ah<|Ah<|An fun r h=>wx x20 (Aa (Y4 N)<|Aj) fun _ hS F=> ?_
 dsimp only[x20,mkX,Ak]
 unfold AD at h
 refine gcb hS F h (fun _ h=> ?_) (fun _ h=> ?_)
 ·exact Ad hS F h
 ·obtain⟨co,cq,h⟩:=un h
  refine go hS F ?_
  refine Au co (fun z:Nat=>⟨[],[],z⟩) (fun z=>(.inl ():Sum Unit Bool)) (.x 0) ?_ ?_
  ·refine Aq (fun n (y:Int×Nat)=>Fl N a1709 b1710 n y.1) (fun y=>⟨[(2,.box (0,1) 0),(3,.box (1,1) 0),(5,.i y.1)],[(.c (1,1) 0,Af b1710),(.c (0,1) 0,Af a1709)],y.2⟩) (0,3) cq (leF F) ?_
   rintro n ⟨am,kr⟩ aa
   simp only[Fl] at aa
   refine gcb hS F aa (fun _ aa=> ?_) (fun _ aa=> ?_)
   ·obtain⟨⟨gu,gt,gj,gi,gh,gf⟩,nh,aa⟩:=un aa
    obtain⟨oe,F⟩:=rqG Ai nh F
    obtain⟨⟨gc,fq,fj,fh,fg,fb⟩,ng,aa⟩:=un aa
    obtain⟨od,F⟩:=rqG Ai ng F
    obtain⟨kh,mh,aa⟩:=un aa
    replace F:=fc mh F
    refine gcb hS F aa (fun _ aa=> ?_) (fun _ aa=> ?_)
    ·obtain rfl:=yJ aa
     exact Ad hS F h
    ·obtain⟨kw,aa⟩:=un aa
     exact gbk hS F (n,am+1,kr+1+1+1) aa
   ·exact gck hS F (kr+1) aa
  ·rintro oy rfl
   exact Ad hS F h
def DG (N:Nat) (a1751:List (Int×Int×((Int×Int)×(Int×Int))×Int×Int)) (b1752:List (Int×Int×((Int×Int)×(Int×Int))×Int×Int)):Nat→Int→Option (Sum Unit Bool)
 |0,_=>none
 |n+1,ak=>
  bif decide (ak<(a1751.length:Int)) then(
   (nth a1751 ak).bind fun(e9,ez,((eh,d9),(d8,d7)),d6,d5)=>
   (nth b1752 ak).bind fun(dz,dw,((du,dt),(dq,dp)),dm,dl)=>
   bif !(decide (e9=dz)&&(decide (ez=dw)&&(decide (eh=du)&&(decide (d9=dt)&&(decide (d8=dq)&&(decide (d7=dp)&&(decide (d6=dm)&&decide (d5=dl)))))))) then(
    some (.inr false))
   else(
    gd (I64 (ak+1))<|
    DG N a1751 b1752 n (ak+1)))
  else(
   some (.inl ()))
def Bj (N:Nat) (a1751:List (Int×Int×((Int×Int)×(Int×Int))×Int×Int)) (b1752:List (Int×Int×((Int×Int)×(Int×Int))×Int×Int)):Option Bool:=
 bif decide ((a1751.length:Int)≠(b1752.length:Int)) then(
  some false)
 else(
  (DG N a1751 b1752 N 0).bind fun ce=>match ce with
   | .inl ()=>(
    some true)
   | .inr nv=>(
    some nv))
@[go_sem] def s38 (N:Nat):Spec:=p0<|pS FM fun a1751=>pS FM fun b1752=>pE<|pF (Bj N a1751 b1752) false fun r=> .b r
theorem UB (N:Nat):FOK Tryz.prog 38 (s38 N):=by
 refine Al x38.ok<|A3 fun a1751=>A3 fun b1752=>Ah<|An fun r h=>wx x38 (Aj) fun _ hS F=> ?_
 dsimp only[x38,mkX,FM]
 unfold Bj at h
 refine gcb hS F h (fun _ h=> ?_) (fun _ h=> ?_)
 ·exact Ad hS F h
 ·obtain⟨ce,cq,h⟩:=un h
  refine go hS F ?_
  refine Au ce (fun z:Nat=>⟨[],[],z⟩) (fun z=>(.inl ():Sum Unit Bool)) (.x 0) ?_ ?_
  ·refine Aq (fun n (y:Int×Nat)=>DG N a1751 b1752 n y.1) (fun y=>⟨[(0,BD a1751),(1,BD b1752),(5,.i y.1)],[],y.2⟩) (0,3) cq (leF F) ?_
   rintro n ⟨ak,kq⟩ aa
   simp only[DG] at aa
   refine gcb hS F aa (fun _ aa=> ?_) (fun _ aa=> ?_)
   ·obtain⟨⟨e9,ez,⟨⟨eh,d9⟩,⟨d8,d7⟩⟩,d6,d5⟩,nb,aa⟩:=un aa
    obtain⟨oc,F⟩:=rqG BG nb F
    obtain⟨⟨dz,dw,⟨⟨du,dt⟩,⟨dq,dp⟩⟩,dm,dl⟩,m9,aa⟩:=un aa
    obtain⟨oa,F⟩:=rqG BG m9 F
    refine gcb hS F aa (fun _ aa=> ?_) (fun _ aa=> ?_)
    ·obtain rfl:=yJ aa
     exact Ad hS F h
    ·obtain⟨kw,aa⟩:=un aa
     exact gbk hS F (n,ak+1,kq+1+1+1) aa
   ·exact gck hS F (kq+1) aa
  ·rintro ox rfl
   exact Ad hS F h
def Ek (N:Nat) (a1797:List (Int×Int)) (b1798:List (Int×Int)):Nat→Int→Option (Sum Unit Bool)
 |0,_=>none
 |n+1,aj=>
  bif decide (aj<(a1797.length:Int)) then(
   (nth a1797 aj).bind fun(dh,dg)=>
   (nth b1798 aj).bind fun(de,db)=>
   bif !(decide (dh=de)&&decide (dg=db)) then(
    some (.inr false))
   else(
    gd (I64 (aj+1))<|
    Ek N a1797 b1798 n (aj+1)))
  else(
   some (.inl ()))
def Cq (N:Nat) (a1797:List (Int×Int)) (b1798:List (Int×Int)):Option Bool:=
 bif decide ((a1797.length:Int)≠(b1798.length:Int)) then(
  some false)
 else(
  (Ek N a1797 b1798 N 0).bind fun b9=>match b9 with
   | .inl ()=>(
    some true)
   | .inr nu=>(
    some nu))
@[go_sem] def s40 (N:Nat):Spec:=p0<|pS Ap fun a1797=>pS Ap fun b1798=>pE<|pF (Cq N a1797 b1798) false fun r=> .b r
theorem UC (N:Nat):FOK Tryz.prog 40 (s40 N):=by
 refine Al x40.ok<|A3 fun a1797=>A3 fun b1798=>Ah<|An fun r h=>wx x40 (Aj) fun _ hS F=> ?_
 dsimp only[x40,mkX,Ap]
 unfold Cq at h
 refine gcb hS F h (fun _ h=> ?_) (fun _ h=> ?_)
 ·exact Ad hS F h
 ·obtain⟨b9,cq,h⟩:=un h
  refine go hS F ?_
  refine Au b9 (fun z:Nat=>⟨[],[],z⟩) (fun z=>(.inl ():Sum Unit Bool)) (.x 0) ?_ ?_
  ·refine Aq (fun n (y:Int×Nat)=>Ek N a1797 b1798 n y.1) (fun y=>⟨[(0,A1 a1797),(1,A1 b1798),(5,.i y.1)],[],y.2⟩) (0,3) cq (leF F) ?_
   rintro n ⟨aj,km⟩ aa
   simp only[Ek] at aa
   refine gcb hS F aa (fun _ aa=> ?_) (fun _ aa=> ?_)
   ·obtain⟨⟨dh,dg⟩,m8,aa⟩:=un aa
    obtain⟨n9,F⟩:=rqG Br m8 F
    obtain⟨⟨de,db⟩,m7,aa⟩:=un aa
    obtain⟨n8,F⟩:=rqG Br m7 F
    refine gcb hS F aa (fun _ aa=> ?_) (fun _ aa=> ?_)
    ·obtain rfl:=yJ aa
     exact Ad hS F h
    ·obtain⟨kw,aa⟩:=un aa
     exact gbk hS F (n,aj+1,km+1+1+1) aa
   ·exact gck hS F (km+1) aa
  ·rintro ov rfl
   exact Ad hS F h
def Fm (N:Nat) (a1819:List Int) (b1820:List Int):Nat→Int→Option (Sum Unit Bool)
 |0,_=>none
 |n+1,ai=>
  bif decide (ai<(a1819.length:Int)) then(
   (nth a1819 ai).bind fun cz=>
   (nth b1820 ai).bind fun cy=>
   bif decide (cz≠cy) then(
    some (.inr false))
   else(
    gd (I64 (ai+1))<|
    Fm N a1819 b1820 n (ai+1)))
  else(
   some (.inl ()))
def C8 (N:Nat) (a1819:List Int) (b1820:List Int):Option Bool:=
 bif decide ((a1819.length:Int)≠(b1820.length:Int)) then(
  some false)
 else(
  (Fm N a1819 b1820 N 0).bind fun bz=>match bz with
   | .inl ()=>(
    some true)
   | .inr nr=>(
    some nr))
@[go_sem] def s41 (N:Nat):Spec:=p0<|pS R_i fun a1819=>pS R_i fun b1820=>pE<|pF (C8 N a1819 b1820) false fun r=> .b r
theorem UD (N:Nat):FOK Tryz.prog 41 (s41 N):=by
 refine Al x41.ok<|A3 fun a1819=>A3 fun b1820=>Ah<|An fun r h=>wx x41 (Aj) fun _ hS F=> ?_
 dsimp only[x41,mkX,R_i]
 unfold C8 at h
 refine gcb hS F h (fun _ h=> ?_) (fun _ h=> ?_)
 ·exact Ad hS F h
 ·obtain⟨bz,cq,h⟩:=un h
  refine go hS F ?_
  refine Au bz (fun z:Nat=>⟨[],[],z⟩) (fun z=>(.inl ():Sum Unit Bool)) (.x 0) ?_ ?_
  ·refine Aq (fun n (y:Int×Nat)=>Fm N a1819 b1820 n y.1) (fun y=>⟨[(0,L_i a1819),(1,L_i b1820),(5,.i y.1)],[],y.2⟩) (0,3) cq (leF F) ?_
   rintro n ⟨ai,kl⟩ aa
   simp only[Fm] at aa
   refine gcb hS F aa (fun _ aa=> ?_) (fun _ aa=> ?_)
   ·obtain⟨cz,mz,cy,my,aa⟩:=un aa
    obtain⟨n7,F⟩:=rqG e_i mz F
    obtain⟨n5,F⟩:=rqG e_i my F
    refine gcb hS F aa (fun _ aa=> ?_) (fun _ aa=> ?_)
    ·obtain rfl:=yJ aa
     exact Ad hS F h
    ·obtain⟨kw,aa⟩:=un aa
     exact gbk hS F (n,ai+1,kl+1+1+1) aa
   ·exact gck hS F (kl+1) aa
  ·rintro ot rfl
   exact Ad hS F h
def Ec (N:Nat) (a1837:List (List Int)) (b1838:List (List Int)):Nat→Int→Option (Sum Unit Bool)
 |0,_=>none
 |n+1,ah=>
  bif decide (ah<(a1837.length:Int)) then(
   (nth a1837 ah).bind fun cu=>
   (nth b1838 ah).bind fun cr=>
   (C8 N cu cr).bind fun kg=>
   bif !kg then(
    some (.inr false))
   else(
    gd (I64 (ah+1))<|
    Ec N a1837 b1838 n (ah+1)))
  else(
   some (.inl ()))
def Ce (N:Nat) (a1837:List (List Int)) (b1838:List (List Int)):Option Bool:=
 bif decide ((a1837.length:Int)≠(b1838.length:Int)) then(
  some false)
 else(
  (Ec N a1837 b1838 N 0).bind fun bw=>match bw with
   | .inl ()=>(
    some true)
   | .inr nk=>(
    some nk))
@[go_sem] def s39 (N:Nat):Spec:=p0<|pD Uz fun a1837=>pD Uz fun b1838=>pE<|pF (Ce N a1837 b1838) false fun r=> .b r
theorem Y6 (N:Nat):FOK Tryz.prog 39 (s39 N):=by
 refine Al x39.ok<|CQ fun a1837=>CQ fun b1838=>Ah<|An fun r h=>wx x39 (Aa (UD N)<|Aj) fun _ hS F=> ?_
 dsimp only[x39,mkX,Uz]
 unfold Ce at h
 refine gcb hS F h (fun _ h=> ?_) (fun _ h=> ?_)
 ·exact Ad hS F h
 ·obtain⟨bw,cq,h⟩:=un h
  refine go hS F ?_
  refine Au bw (fun z:Nat=>⟨[],[],z⟩) (fun z=>(.inl ():Sum Unit Bool)) (.x 0) ?_ ?_
  ·refine Aq (fun n (y:Int×Nat)=>Ec N a1837 b1838 n y.1) (fun y=>⟨[(0,JC a1837),(1,JC b1838),(5,.i y.1)],[],y.2⟩) (0,3) cq (leF F) ?_
   rintro n ⟨ah,kj⟩ aa
   simp only[Ec] at aa
   refine gcb hS F aa (fun _ aa=> ?_) (fun _ aa=> ?_)
   ·obtain⟨cu,mr,cr,mq,kg,mg,aa⟩:=un aa
    obtain⟨n4,F⟩:=rqG I7 mr F
    obtain⟨nz,F⟩:=rqG I7 mq F
    replace F:=fc mg F
    refine gcb hS F aa (fun _ aa=> ?_) (fun _ aa=> ?_)
    ·obtain rfl:=yJ aa
     exact Ad hS F h
    ·obtain⟨kw,aa⟩:=un aa
     exact gbk hS F (n,ah+1,kj+1+1+1) aa
   ·exact gck hS F (kj+1) aa
  ·rintro om rfl
   exact Ad hS F h
def BB (N:Nat) (c1859:Int) (ae:Int):Option Int:=
 bif decide (c1859<0) then(
  gd (I64 (c1859+1))<|
  gd (I64 (-(c1859+1)))<|
  gd (ae≠0)<|
  some ((-(c1859+1)).tmod ae))
 else(
  gd (ae≠0)<|
  some (c1859.tmod ae))
@[go_sem] def s15 (N:Nat):Spec:=p0<|pI fun c1859=>pI fun ae=>pE<|pF (BB N c1859 ae) 0 fun r=> .i r
theorem M7 (N:Nat):FOK Tryz.prog 15 (s15 N):=by
 refine Al x15.ok<|Ac fun c1859=>Ac fun ae=>Ah<|An fun r h=>wx x15 (Aj) fun _ hS F=> ?_
 dsimp only[x15,mkX]
 unfold BB at h
 refine gcb hS F h (fun _ h=> ?_) (fun _ h=> ?_)
 ·obtain⟨oj,o0,kw,h⟩:=un h
  exact Ad hS F h
 ·obtain⟨oh,h⟩:=un h
  exact Ad hS F h
def Av (N:Nat) (av:Int) (au:Int):Option (Int×Int):=
 some (av,au)
@[go_sem] def s37 (N:Nat):Spec:=p0<|pI fun av=>pI fun au=>pE<|pF (Av N av au) (0,0) fun r=> .agg [.i r.1,.i r.2]
theorem QW (N:Nat):FOK Tryz.prog 37 (s37 N):=by
 refine Al x37.ok<|Ac fun av=>Ac fun au=>Ah<|An fun r h=>wx x37 (Aj) fun _ hS F=> ?_
 dsimp only[x37,mkX]
 unfold Av at h
 exact Ad hS F h
def Ee (N:Nat) (aq:Int) (bg:List (Int×Int)):Option (Int×Int×Int×(List (Int×Int))×Int×Int):=
 some (aq,2,0,bg,0,2)
@[go_sem] def pY (N:Nat):Spec:=p0<|pI fun aq=>pS Ap fun bg=>pE<|pF (Ee N aq bg) (0,0,0,[],0,0) fun r=> .agg [.i r.1,.i r.2.1,.i r.2.2.1,A1 r.2.2.2.1,.i r.2.2.2.2.1,.i r.2.2.2.2.2]
theorem gX (N:Nat):FOK Tryz.prog 103 (pY N):=by
 refine Al x103.ok<|Ac fun aq=>A3 fun bg=>Ah<|An fun r h=>wx x103 (Aj) fun _ hS F=> ?_
 dsimp only[x103,mkX,Ap]
 unfold Ee at h
 exact Ad hS F h
def GM (N:Nat):Option (List (Int×Int×Int×(List (Int×Int))×Int×Int)):=
 (Av N 0 0).bind fun(kf,ke)=>
 (Av N 4 0).bind fun(j9,j8)=>
 (Av N 4 4).bind fun(j7,j6)=>
 (Av N 0 4).bind fun(bm,bj)=>
 (Ee N 1 [(kf,ke),(j9,j8),(j7,j6),(bm,bj)]).bind fun(j5,jz,jy,jx,jw,jv)=>
 (Av N 8 0).bind fun(ju,jt)=>
 (Av N 12 0).bind fun(js,jr)=>
 (Av N 12 4).bind fun(bi,bh)=>
 (Av N 8 4).bind fun(jq,jp)=>
 (Ee N 2 [(ju,jt),(js,jr),(bi,bh),(jq,jp)]).bind fun(jo,jn,jm,jk,jj,ji)=>
 (Av N 12 6).bind fun(jh,jg)=>
 (Av N 0 6).bind fun(jf,je)=>
 (Ee N 3 [(bm,bj),(bi,bh),(jh,jg),(jf,je)]).bind fun(jd,jc,jb,ja,i9,i8)=>
 (Av N 20 8).bind fun(i7,i6)=>
 (Av N 24 8).bind fun(iz,iy)=>
 (Av N 22 12).bind fun(iw,iv)=>
 (Ee N 7 [(i7,i6),(iz,iy),(iw,iv)]).bind fun(iq,ip,ij,ig,ie,ic)=>
 some [(j5,jz,jy,jx,jw,jv),(jo,jn,jm,jk,jj,ji),(jd,jc,jb,ja,i9,i8),(iq,ip,ij,ig,ie,ic)]
@[go_sem] def s47 (N:Nat):Spec:=p0<|pE<|pF (GM N) [] fun r=> .agg [Af r]
theorem lW (N:Nat):FOK Tryz.prog 47 (s47 N):=by
 refine Al x47.ok<|Ah<|An fun r h=>wx x47 (Aa (QW N)<|Aa (gX N)<|Aj) fun _ hS F=> ?_
 dsimp only[x47,mkX]
 unfold GM at h
 obtain⟨⟨kf,ke⟩,me,h⟩:=un h
 obtain⟨⟨j9,j8⟩,mb,h⟩:=un h
 obtain⟨⟨j7,j6⟩,ma,h⟩:=un h
 obtain⟨⟨bm,bj⟩,l7,h⟩:=un h
 obtain⟨⟨j5,jz,jy,jx,jw,jv⟩,l6,h⟩:=un h
 obtain⟨⟨ju,jt⟩,l5,h⟩:=un h
 obtain⟨⟨js,jr⟩,lz,h⟩:=un h
 obtain⟨⟨bi,bh⟩,lw,h⟩:=un h
 obtain⟨⟨jq,jp⟩,lr,h⟩:=un h
 obtain⟨⟨jo,jn,jm,jk,jj,ji⟩,lq,h⟩:=un h
 obtain⟨⟨jh,jg⟩,lm,h⟩:=un h
 obtain⟨⟨jf,je⟩,lj,h⟩:=un h
 obtain⟨⟨jd,jc,jb,ja,i9,i8⟩,li,h⟩:=un h
 obtain⟨⟨i7,i6⟩,lh,h⟩:=un h
 obtain⟨⟨iz,iy⟩,lg,h⟩:=un h
 obtain⟨⟨iw,iv⟩,lf,h⟩:=un h
 obtain⟨⟨iq,ip,ij,ig,ie,ic⟩,k9,h⟩:=un h
 exact Ad hS (fc k9 (fc lf (fc lg (fc lh (fc li (fc lj (fc lm (fc lq (fc lr (fc lw (fc lz (fc l5 (fc l6 (fc l7 (fc ma (fc mb (fc me F))))))))))))))))) h
end Go.Proofs.YtciphecegkfaiaaGreat.Am
namespace Go.Proofs.YtciphecegkfaiaaGreat.Am
open Go
attribute [local irreducible] awp B5 BR Bx B3 Bw Bn BS B1 itK
set_option maxRecDepth 100000
set_option maxHeartbeats 8000000
set_option linter.unusedSimpArgs false
set_option linter.unusedVariables false
abbrev Un:=Int×Int×Int×(List (Int×Int))×Int×Int
def DC {α:Type}:List α→List (α×α)
 |[]=>[]
 |u::r=>r.map (fun v=>(u,v))++DC r
def prA (e:Un×Un):List AV:=[.agg (Ai e.1),.agg (Ai e.2)]
theorem YO {α:Type} {l:List α} {i:Nat} {u:α} (h:l[i]? =some u):DC (l.drop i)=(l.drop (i+1)).map (fun v=>(u,v))++DC (l.drop (i+1)):=by
 obtain⟨h1,h2⟩:=List.getElem?_eq_some_iff.1 h
 rw[List.drop_eq_getElem_cons h1,h2,DC]
theorem WR {l:List Un} {i:Nat} {u:Un} (h:l[i]? =some u) (d:List AV):BJ (l.map Ai) d i=Ai u:=by
 unfold BJ;rw[List.getD_eq_getElem?_getD,List.getElem?_map,h];rfl
theorem jJ {α:Type} {l:List α} {k:Nat} {x:α} {r:List α} (h:l.drop k=x::r):l[k]? =some x∧l.drop (k+1)=r∧k<l.length:=by
 have h1:(l.drop k)[0]? =some x:=by rw[h];rfl
 rw[List.getElem?_drop] at h1
 refine⟨h1, ?_,(List.getElem?_eq_some_iff.1 h1).1⟩
 rw[←List.drop_drop,h];rfl
section
attribute [local go_sem] Br LQ LR KV OO OP List.set_cons_succ List.isEmpty_map List.map_append List.map_eq_nil_iff ne_eq List.length_replicate Td Te List.length_set Option.isSome_some
theorem Sr (l:List Un) (f:Bool) (hlen:l.length≤1000000000):ItC Tryz.prog 124 [] [.ro [.sl 6 f (l.map Ai) [.i 0,.i 0,.i 0,.sl 0 true [] [],.i 0,.i 0]] 0] ((DC l).map prA):=by
 refine S1 (Aj (P:=Tryz.prog)) _ x124.hf x124.hc x124.hn (by simp[x124,mkX,gs]) (Nat.le_of_ble_eq_true rfl) fun y Γ hOK hTS hY hYD=> ?_
 have hS:=Aj (P:=Tryz.prog)
 have F:=fc hTS f0
 dsimp only[x124,mkX,CZ]
 refine go hOK F ?_
 refine G4 (fun x:Nat×Nat×Nat=>⟨[(10,.i x.1),(9,.i l.length),(8,.sl 6 f (l.map Ai) [.i 0,.i 0,.i 0,.sl 0 true [] [],.i 0,.i 0]),(1,.ro [.sl 6 f (l.map Ai) [.i 0,.i 0,.i 0,.sl 0 true [] [],.i 0,.i 0]] 0),(gs,Ck x.2.1),(0,.clo (.yield y) [] [])],[],x.2.2⟩)
  (fun x=>x.1≤l.length∧x.2.1≤(DC l).length∧(DC l).drop x.2.1=DC (l.drop x.1)) (fun x=>l.length-x.1) (0,0,50) ?_ ?_ ?_
 ·simp
 ·exact leF F
 ·rintro⟨i,k,c⟩ ⟨hi,hk,hd⟩
  simp only at hi hk hd
  refine go hOK F ?_
  refine cb F (decide ((i:Int)<l.length)) (fun hi1=> ?_) (fun hi1=> ?_)
  ·have hi':i<l.length:=by simpa using hi1
   obtain⟨⟨a1,a2,a3,a4,a5,a6⟩,hu⟩:∃u,l[i]? =some u:=⟨_,List.getElem?_eq_getElem hi'⟩
   rw[YO hu] at hd
   have hrow:=WR hu
   simp only[Ai] at hrow
   have htn:((i:Int)+1).toNat=i+1:=by omega
   replace F:=fc hrow (fc htn F)
   refine go hOK F ?_
   refine G4 (fun x:Nat×Nat×Nat=>⟨[(21,.i x.1),(20,.i (l.drop (i+1)).length),(19,.sl 6 f ((l.drop (i+1)).map Ai) [.i 0,.i 0,.i 0,.sl 0 true [] [],.i 0,.i 0]),(10,.i i),(9,.i l.length),(8,.sl 6 f (l.map Ai) [.i 0,.i 0,.i 0,.sl 0 true [] [],.i 0,.i 0]),(4,.box (203,c+1+1) 0),(1,.ro [.sl 6 f (l.map Ai) [.i 0,.i 0,.i 0,.sl 0 true [] [],.i 0,.i 0]] 0),(gs,Ck x.2.1),(0,.clo (.yield y) [] [])],[(.c (203,c+1+1) 0,.i a1),(.c (203,c+1+1) 1,.i a2),(.c (203,c+1+1) 2,.i a3),(.c (203,c+1+1) 3,.sl 2 false (a4.map Br) [.i 0,.i 0]),(.c (203,c+1+1) 4,.i a5),(.c (203,c+1+1) 5,.i a6)],x.2.2⟩)
    (fun x=>x.1≤(l.drop (i+1)).length∧x.2.1≤(DC l).length∧(DC l).drop x.2.1=((l.drop (i+1)).drop x.1).map (fun v=>((a1,a2,a3,a4,a5,a6),v))++DC (l.drop (i+1))) (fun x=>(l.drop (i+1)).length-x.1) (0,k,c+50) ?_ ?_ ?_
   ·exact⟨Nat.zero_le _,hk,hd⟩
   ·exact leF F
   ·rintro⟨j,k2,c2⟩ ⟨hj,hk2,hd2⟩
    simp only at hj hk2 hd2
    refine go hOK F ?_
    refine cb F (decide ((j:Int)<(l.drop (i+1)).length)) (fun hj1=> ?_) (fun hj1=> ?_)
    ·have hj':j<(l.drop (i+1)).length:=by simpa using hj1
     obtain⟨⟨b1,b2,b3,b4,b5,b6⟩,hv⟩:∃u,(l.drop (i+1))[j]? =some u:=⟨_,List.getElem?_eq_getElem hj'⟩
     have hrow2:=WR hv
     simp only[Ai] at hrow2
     have q1:((j+1:Nat):Int)=(j:Int)+1:=rfl
     have q2:((k2+1:Nat):Int)=(k2:Int)+1:=rfl
     replace F:=fc q1 (fc q2 (fc hrow2 F))
     rw[List.drop_eq_getElem_cons hj',show(l.drop (i+1))[j]=(b1,b2,b3,b4,b5,b6) from(List.getElem?_eq_some_iff.1 hv).2,List.map_cons,List.cons_append] at hd2
     obtain⟨g1,g2,g3⟩:=jJ hd2
     refine go hOK F ?_
     refine hY 3 (args:=prA ((a1,a2,a3,a4,a5,a6),(b1,b2,b3,b4,b5,b6))) rfl rfl (by simp only[go_sem,seval,F]<;>eq_refl) ?_ (by simp only[go_sem,seval]<;>eq_refl) (by simp only[go_sem,seval]<;>eq_refl) (by simp only[go_sem,seval]<;>eq_refl) (by simp only[go_sem,seval,Am.prA,Am.Ai]<;>eq_refl) ?_ (by simp only[go_sem,seval,F]<;>eq_refl) ?_ ?_ (by simp only[go_sem,seval,F]<;>eq_refl) ?_ ?_
     ·repeat' (first|exact yT|omega|apply And.intro)
     ·rw[List.getElem?_map,g1];rfl
     ·exact yT
     ·refine go hOK F ?_
      refine cf F ?_
      refine go hOK F ?_
      exact GG (j+1,k2+1,c2+50) ⟨by show j+1≤_;omega,by show k2+1≤_;omega,g2⟩ (by show(l.drop (i+1)).length-(j+1)<(l.drop (i+1)).length-j;omega) (leF F)
     ·exact yT
     ·refine go hOK F ?_
      refine ct F ?_
      refine go hOK F ?_
      refine OM ?_
      simp only[go_sem,seval]
    ·have:j=(l.drop (i+1)).length:=by
      have:¬((j:Int)<(l.drop (i+1)).length):=by simpa using hj1
      omega
     subst this
     rw[List.drop_length,List.map_nil,List.nil_append] at hd2
     have q1:((i+1:Nat):Int)=(i:Int)+1:=rfl
     replace F:=fc q1 F
     refine go hOK F ?_
     exact GG (i+1,k2,c2+50) ⟨by show i+1≤_;omega,hk2,hd2⟩ (by show l.length-(i+1)<l.length-i;omega) (leF F)
  ·refine go hOK F ?_
   refine YX ?_
   have:i=l.length:=by
    have:¬((i:Int)<l.length):=by simpa using hi1
    omega
   subst this
   rw[List.drop_length,DC] at hd
   have:k=(DC l).length:=Nat.le_antisymm hk (List.drop_eq_nil_iff.1 hd)
   simp only[go_sem,seval,this,List.length_map]
def Pg:Spec
 |[.agg [.sl z f rows d]]=>some (True,.clo (.func 124) [] [.ro [.sl z f rows d] 0])
 |_=>none
theorem Qu:FOK Tryz.prog 85 Pg:=⟨x85.ok,by
 intro args vc r h hv
 unfold Pg at h
 split at h
 ·cases h
  refine LD (Aj (P:=Tryz.prog)) _ x85.hf x85.hc x85.hn (Nat.le_of_ble_eq_true rfl) fun _=> ?_
  have hS:=Aj (P:=Tryz.prog)
  dsimp only[x85,mkX,CZ]
  repeat' (first
  |((with_reducible first|apply AN|apply Bg|apply Bb|apply By|apply AO|apply AP);(·(first|exact Ctx.fn_ok hS|exact Ctx.rd_ok hS|assumption|exact yT));iterate 2 (·(simp only[go_sem,seval]<;>eq_refl)))
  |(with_reducible first|apply AI|apply A5|apply AF|apply AH|apply Ar|apply Ao|apply Ay|apply AZ|apply A6|apply A7|apply A8|apply A9|apply A4)
  |(with_reducible apply Ba;(·first|rfl|decide))
  |(with_reducible first|apply AJ|apply AM|apply Bd|apply Be|apply Bf|apply yT|apply And.intro yT yT)
  |(fail_if_success with_reducible apply B6);(fail_if_success with_reducible apply Bc);first|omega|(simp only[go_sem,seval];done)
  |fail)
  first|refine J9 (by simp only[go_sem,seval]<;>eq_refl) (by simp only[go_sem,seval]) (by simp only[go_sem,seval]) ?_ rfl|refine Ka (by simp only[go_sem,seval]<;>eq_refl) (by simp only[go_sem,seval]) (by simp only[go_sem,seval]) ?_ rfl
  simp only[go_sem,seval]
 ·simp at h⟩
end
end Go.Proofs.YtciphecegkfaiaaGreat.Am
namespace Go.Proofs.YtciphecegkfaiaaGreat.Am
open Go
attribute [local irreducible] awp B5 BR Bx B3 Bw Bn BS B1 itK
set_option maxRecDepth 100000
set_option maxHeartbeats 8000000
set_option linter.unusedSimpArgs false
set_option linter.unusedVariables false
theorem qN:okF Tryz.prog 79:=⟨_,Tryz.func79,by kernel_rfl,by kernel_rfl⟩
theorem qO:okF Tryz.prog 82:=⟨_,Tryz.func82,by kernel_rfl,by kernel_rfl⟩
theorem Nl {l:List Un}:∀r∈l.map Ai,r.length=6∧AB r=true:=fun r hr=>by
 obtain⟨x,_,rfl⟩:=List.mem_map.1 hr
 exact⟨rfl,rfl⟩
theorem cR {l:List Un} {i:Int} {u:Un} {d:List AV} (h0:0≤i) (h1:i≤l.length) (h2:(l.length+1)*64≤140737488355328):
  MZ Tryz.prog 79 6 (l.map Ai) [.i i,.sl 6 false [Ai u] d] ((l.take i.toNat++[u]++l.drop i.toNat).map Ai):=by
 have h:=aW (rows:=l.map Ai) (u:=Ai u) (d:=d) (i:=i.toNat) (by rw[List.length_map];omega) (by rw[List.length_map];exact h2) (fun r hr=>(Nl r hr).1)
 rw[show((i.toNat:Nat):Int)=i by omega] at h
 rw[List.map_append,List.map_append,List.map_take,List.map_drop]
 exact h
theorem cS {l:List Un} {i:Int} (h0:0≤i) (h1:i<l.length) (h2:(l.length:Int)≤9223372036854775807):
  MZ Tryz.prog 82 6 (l.map Ai) [.i i,.i (i+1)] ((l.take i.toNat++l.drop (i.toNat+1)).map Ai):=by
 have h:=aV (rows:=l.map Ai) (i:=i.toNat) (by rw[List.length_map];omega) (by rw[List.length_map];omega) (fun r hr=>(Nl r hr).1)
 rw[show((i.toNat:Nat):Int)=i by omega,show((i.toNat+1:Nat):Int)=i+1 by omega] at h
 rw[List.map_append,List.map_take,List.map_drop]
 exact h
end Go.Proofs.YtciphecegkfaiaaGreat.Am
namespace Go.Proofs.YtciphecegkfaiaaGreat.Am
open Go
attribute [local irreducible] awp B5 BR Bx B3 Bw Bn BS B1 itK
set_option maxRecDepth 100000
set_option maxHeartbeats 8000000
set_option linter.unusedSimpArgs false
set_option linter.unusedVariables false
attribute [local go_sem] Pg
def CG (N:Nat) (f1:List (Int×Int×Int×(List (Int×Int))×Int×Int)):Nat→Int→Option (Sum Unit Bool)
 |0,_=>none
 |n+1,x13=>
  bif decide (x13<(f1.length:Int)) then(
   (nth f1 x13).bind fun(x14,x15,x16,x17,x18,x19)=>
   (BA N x14 x15 x16 x17 x18 x19).bind fun ip=>
   gd ((decide (0<x13))=true→(I64 (x13-1)))<|
   gd ((decide (0<x13))=true→(0≤x13-1∧x13-1<(f1.length:Int)))<|
   bif (!ip)||((decide (0<x13))&&(decide (x14≤(f1.getD (x13-1).toNat (0,0,0,[],0,0)).1))) then(
    some (.inr false))
   else(
    gd (I64 (x13+1))<|
    CG N f1 n (x13+1)))
  else(
   some (.inl ()))
def Dp (N:Nat):List ((Int×Int×Int×(List (Int×Int))×Int×Int)×(Int×Int×Int×(List (Int×Int))×Int×Int))→Option (Sum Unit Bool)
 |[]=>
  some (.inl ())
 |((g8,gz,gy,gx,gw,gu),(gt,gj,gi,gh,gf,gc))::ys=>
  (Cz N g8 gz gy gx gw gu gt gj gi gh gf gc).bind fun ij=>
  bif ij then(
   some (.inr false))
  else(
   Dp N ys)
def AT (N:Nat) (f1:List (Int×Int×Int×(List (Int×Int))×Int×Int)):Option Bool:=
 bif decide (12<(f1.length:Int)) then(
  some false)
 else(
  (CG N f1 N 0).bind fun dw=>match dw with
   | .inl ()=>(
    gd (f1.length≤1000000000)<|
    (Dp N (DC f1)).bind fun dl=>match dl with
     | .inl ()=>(
      some true)
     | .inr i7=>(
      some i7))
   | .inr i8=>(
    some i8))
@[go_sem] def s27 (N:Nat):Spec:=p0<|pG<|pD Ak fun f1=>pE<|pE<|pF (AT N f1) false fun r=> .b r
theorem G5 (N:Nat):FOK Tryz.prog 27 (s27 N):=by
 refine Al x27.ok<|AW<|CQ fun f1=>Ah<|Ah<|An fun r h=>wx x27 (Aa (JQ N)<|Aa Qu<|Aa (Uv N)<|Aj) fun _ hS F=> ?_
 dsimp only[x27,mkX,Ak]
 unfold AT at h
 refine gcb hS F h (fun _ h=> ?_) (fun _ h=> ?_)
 ·exact Ad hS F h
 ·obtain⟨dw,bi,h⟩:=un h
  refine go hS F ?_
  refine Au dw (fun z:Nat=>⟨[(1,.box (0,1) 0),(2,.box (1,1) 0)],[(.c (1,1) 0,.b false),(.c (0,1) 0,Af f1)],z⟩) (fun z=>(.inl ():Sum Unit Bool)) (.x 0) ?_ ?_
  ·refine Aq (fun n (y:Int×Nat)=>CG N f1 n y.1) (fun y=>⟨[(1,.box (0,1) 0),(2,.box (1,1) 0),(12,Af f1),(13,.i (f1.length:Int)),(14,.i y.1)],[(.c (1,1) 0,.b false),(.c (0,1) 0,Af f1)],y.2⟩) (0,3) bi (leF F) ?_
   rintro n ⟨x13,i6⟩ ae
   simp only[CG] at ae
   refine gcb hS F ae (fun _ ae=> ?_) (fun _ ae=> ?_)
   ·obtain⟨⟨x14,x15,x16,x17,x18,x19⟩,fh,ae⟩:=un ae
    obtain⟨jc,F⟩:=rqG Ai fh F
    obtain⟨ip,e9,d6,d5,ae⟩:=un ae
    replace F:=fc e9 F
    refine gcb hS F ae (fun _ ae=> ?_) (fun _ ae=> ?_)
    ·obtain rfl:=yJ ae
     exact Ad hS F h
    ·obtain⟨iv,ae⟩:=un ae
     exact gbk hS F (n,x13+1,i6+1+1+1+1) ae
   ·exact gck hS F (i6+1) ae
  ·rintro je rfl
   obtain⟨iq,h⟩:=un h
   obtain⟨dl,jd,h⟩:=un h
   refine go hS F ?_
   refine Au dl (fun z:Nat=>⟨[(2,.box (1,1) 0)],[(.c (1,1) 0,.b false)],z⟩) (fun z=>(.inl ():Sum Unit Bool)) .n ?_ ?_
   ·refine Kd (fun y:Nat×Nat=>([(.c (1,1) 0,.b false)],y.2)) (fun y=>Dp N ((DC f1).drop y.1)=some dl∧y.1≤(DC f1).length) (fun y=>y.1) (0,je+1) (ev F) (Sr f1 false (by assumption)) x124.ok ⟨rfl,rfl⟩ (by simp[x27,mkX]) (by intro a ha;obtain⟨y,_,rfl⟩:=List.mem_map.1 ha;exact⟨rfl,rfl⟩) ⟨jd,Nat.zero_le _⟩ rfl ?_ ?_ ?_
    ·exact leF F
    ·rintro l ⟨n,fq⟩ ⟨ak,hle⟩ args iz
     obtain⟨⟨⟨g8,gz,gy,gx,gw,gu⟩,⟨gt,gj,gi,gh,gf,gc⟩⟩,co,rfl,hlt⟩:=Iv iz
     simp only[co,Dp] at ak
     clear iz co
     simp only[prA,FF]
     obtain⟨ij,ez,ak⟩:=un ak
     replace F:=fc ez F
     refine gcb hS F ak (fun _ ak=> ?_) (fun _ ak=> ?_)
     ·obtain rfl:=yJ ak
      exact Ad hS F h
     ·exact grg hS F (n+1,fq+1+1+1) ak
    ·rintro⟨n,fq⟩ ⟨ak,hle⟩ hk
     rw[show n=_ from hk,Io] at ak
     simp only[Dp] at ak
     exact gck hS F fq ak
   ·rintro jk rfl
    exact Ad hS F h
def Fy (N:Nat) (dh:Int) (dt:Int) (dq:Int) (dp:List (Int×Int)) (dm:Int) (u52:Int) (av:Int):Option Int:=
 (CU N dh av).bind fun ig=>
 some ig
@[go_sem] def s74 (N:Nat):Spec:=p0<|pG<|pI fun dh=>pI fun dt=>pI fun dq=>pS Ap fun dp=>pI fun dm=>pI fun u52=>pE<|pI fun av=>pE<|pF (Fy N dh dt dq dp dm u52 av) 0 fun r=> .i r
theorem lX (N:Nat):FOK Tryz.prog 74 (s74 N):=by
 refine Al x74.ok<|AW<|Ac fun dh=>Ac fun dt=>Ac fun dq=>A3 fun dp=>Ac fun dm=>Ac fun u52=>Ah<|Ac fun av=>Ah<|An fun r h=>wx x74 (Aa (QR N)<|Aj) fun _ hS F=> ?_
 dsimp only[x74,mkX,Ap]
 unfold Fy at h
 obtain⟨ig,eh,h⟩:=un h
 exact Ad hS (fc eh F) h
def Az (N:Nat) (x56:List (Int×Int×Int×(List (Int×Int))×Int×Int)) (aa:Int):Nat→Int→Int→Option Int
 |0,_,_=>none
 |n+1,aj,an=>
  bif decide (aj<an) then(
   gd (I64 (aj+an))<|
   (nth x56 (IntKind.wrap .i64 (Cp .shr .u64 (IntKind.wrap .u64 (aj+an)) 1))).bind fun(x71,x72,x73,x74,x75,x76)=>
   (Fy N x71 x72 x73 x74 x75 x76 aa).bind fun r78=>
   bif decide (r78<0) then(
    gd (I64 ((IntKind.wrap .i64 (Cp .shr .u64 (IntKind.wrap .u64 (aj+an)) 1))+1))<|
    Az N x56 aa n ((IntKind.wrap .i64 (Cp .shr .u64 (IntKind.wrap .u64 (aj+an)) 1))+1) an)
   else(
    Az N x56 aa n aj (IntKind.wrap .i64 (Cp .shr .u64 (IntKind.wrap .u64 (aj+an)) 1))))
  else(
   some aj)
def AG (N:Nat) (x56:List (Int×Int×Int×(List (Int×Int))×Int×Int)) (aa:Int):Option (Int×Bool):=
 (Az N x56 aa N 0 (x56.length:Int)).bind fun i84=>
 gd ((decide (i84<(x56.length:Int)))=true→(0≤i84∧i84<(x56.length:Int)))<|
 gd ((decide (i84<(x56.length:Int)))=true→((Fy N ((x56.getD i84.toNat (0,0,0,[],0,0)).1) ((x56.getD i84.toNat (0,0,0,[],0,0)).2.1) ((x56.getD i84.toNat (0,0,0,[],0,0)).2.2.1) ((x56.getD i84.toNat (0,0,0,[],0,0)).2.2.2.1) ((x56.getD i84.toNat (0,0,0,[],0,0)).2.2.2.2.1) ((x56.getD i84.toNat (0,0,0,[],0,0)).2.2.2.2.2) aa).isSome=true))<|
 some (i84,(decide (i84<(x56.length:Int)))&&(decide ((Fy N ((x56.getD i84.toNat (0,0,0,[],0,0)).1) ((x56.getD i84.toNat (0,0,0,[],0,0)).2.1) ((x56.getD i84.toNat (0,0,0,[],0,0)).2.2.1) ((x56.getD i84.toNat (0,0,0,[],0,0)).2.2.2.1) ((x56.getD i84.toNat (0,0,0,[],0,0)).2.2.2.2.1) ((x56.getD i84.toNat (0,0,0,[],0,0)).2.2.2.2.2) aa).getD 0=0)))
@[go_sem] def aN (N:Nat):Spec:=p0<|pD Ak fun x56=>pI fun aa=>pL 74<|pE<|pE<|pF (AG N x56 aa) (0,false) fun r=> .tup [.i r.1,.b r.2]
theorem MA (N:Nat):FOK Tryz.prog 73 (aN N):=by
 refine Al x73.ok<|CQ fun x56=>Ac fun aa=>JJ<|Ah<|Ah<|An fun r h=>wx x73 (Aa (lX N)<|Aj) fun _ hS F=> ?_
 dsimp only[x73,mkX,Ak]
 unfold AG at h
 obtain⟨i9,bi,h⟩:=un h
 refine go hS F ?_
 refine Au i9 (fun z:Int×Nat=>⟨[(0,Af x56),(1,.i aa),(2,.clo (.func 74) [] []),(8,.i (x56.length:Int)),(9,.i z.1)],[],z.2⟩) (fun z=>(z.1:Int)) (.x 0) ?_ ?_
 ·refine Aq (fun n (y:Int×Int×Nat)=>Az N x56 aa n y.1 y.2.1) (fun y=>⟨[(0,Af x56),(1,.i aa),(2,.clo (.func 74) [] []),(8,.i (x56.length:Int)),(9,.i y.1),(10,.i y.2.1)],[],y.2.2⟩) (0,(x56.length:Int),3) bi (leF F) ?_
  rintro n ⟨aj,an,fj⟩ ae
  simp only[Az] at ae
  refine gcb hS F ae (fun _ ae=> ?_) (fun _ ae=> ?_)
  ·obtain⟨d6,⟨x71,x72,x73,x74,x75,x76⟩,fg,ae⟩:=un ae
   obtain⟨jb,F⟩:=rqG Ai fg F
   obtain⟨r78,d9,ae⟩:=un ae
   replace F:=fc d9 F
   refine gcb hS F ae (fun _ ae=> ?_) (fun _ ae=> ?_)
   ·obtain⟨d5,ae⟩:=un ae
    exact gbk hS F (n,(IntKind.wrap .i64 (Cp .shr .u64 (IntKind.wrap .u64 (aj+an)) 1))+1,an,fj+1+1+1+1) ae
   ·exact gbk hS F (n,aj,IntKind.wrap .i64 (Cp .shr .u64 (IntKind.wrap .u64 (aj+an)) 1),fj+1+1+1+1) ae
  ·exact gck hS F (aj,fj+1) ae
 ·rintro⟨i84,jj⟩ rfl
  obtain⟨iv,iq,h⟩:=un h
  by_cases hi:i84<(x56.length:Int)
  ·have hd:decide (i84<(x56.length:Int))=true:=decide_eq_true hi
   obtain⟨c,hc⟩:=yX (iq hd)
   have hq:=(rqG Ai (ON (0,0,0,[],0,0) (iv hd).1 hi) F).2.1
   exact Ad hS (fc hc (fc hd (fc hq F))) h
  ·have hd:decide (i84<(x56.length:Int))=false:=decide_eq_false hi
   exact Ad hS (fc (dW Ai hi) (fc hd F)) h
def El (N:Nat) (bj:List (Int×Int×Int×(List (Int×Int))×Int×Int)) (au:Int):Option ((Int×Int×Int×(List (Int×Int))×Int×Int)×Bool):=
 (AT N bj).bind fun ie=>
 bif !ie then(
  some ((0,0,0,[],0,0),false))
 else(
  (AG N bj au).bind fun(ic,g9)=>
  bif !g9 then(
   some ((0,0,0,[],0,0),false))
  else(
   (nth bj ic).bind fun(x93,x94,x95,x96,x97,x98)=>
   gd (x96≠[])<|
   gd ((x96.length)*16≤140737488355328)<|
   some ((x93,x94,x95,x96,x97,x98),true)))
@[go_sem] def s22 (N:Nat):Spec:=p0<|pG<|pD Ak fun bj=>pE<|pI fun au=>pE<|pF (El N bj au) ((0,0,0,[],0,0),false) fun r=> .tup [.agg [.i r.1.1,.i r.1.2.1,.i r.1.2.2.1,A1 r.1.2.2.2.1,.i r.1.2.2.2.2.1,.i r.1.2.2.2.2.2],.b r.2]
theorem QX (N:Nat):FOK Tryz.prog 22 (s22 N):=by
 refine Al x22.ok<|AW<|CQ fun bj=>Ah<|Ac fun au=>Ah<|An fun r h=>wx x22 (Aa (G5 N)<|Aa (MA N)<|Aj) fun _ hS F=> ?_
 dsimp only[x22,mkX,Ak]
 unfold El at h
 obtain⟨ie,d8,h⟩:=un h
 replace F:=fc d8 F
 refine gcb hS F h (fun _ h=> ?_) (fun _ h=> ?_)
 ·exact Ad hS F h
 ·obtain⟨⟨ic,g9⟩,d7,h⟩:=un h
  replace F:=fc d7 F
  refine gcb hS F h (fun _ h=> ?_) (fun _ h=> ?_)
  ·exact Ad hS F h
  ·obtain⟨⟨x93,x94,x95,x96,x97,x98⟩,fb,h⟩:=un h
   obtain⟨ja,F⟩:=rqG Ai fb F
   refine go hS F ?_
   refine Df hS 2 x78.hf x78.hc x78.hn x78.ok rfl (ev F) (ev F) ?_ rfl (ev F) (Nat.le_of_ble_eq_true rfl) fun hb=> ?_
   ·exact goc hS F
   dsimp only[x78,mkX]
   obtain⟨ji,h⟩:=un h
   refine gcf hS F ?_
   obtain⟨jh,h⟩:=un h
   exact Ad hS F h
def FY (N:Nat) (f100:List (Int×Int×Int×(List (Int×Int))×Int×Int)):Nat→Int→Int→Option Int
 |0,_,_=>none
 |n+1,ai,x115=>
  bif decide (x115<(f100.length:Int)) then(
   (nth f100 x115).bind fun(x116,x117,x118,bw,bv,x121)=>
   (CJ N x116 x117 x118 bw bv x121).bind fun aq=>
   gd (I64 (ai+aq))<|
   gd (I64 (x115+1))<|
   FY N f100 n (ai+aq) (x115+1))
  else(
   some ai)
def Bk (N:Nat) (f100:List (Int×Int×Int×(List (Int×Int))×Int×Int)):Option Int:=
 (AT N f100).bind fun r101=>
 bif !r101 then(
  some 0)
 else(
  (FY N f100 N 0 0).bind fun am=>
  some am)
@[go_sem] def s25 (N:Nat):Spec:=p0<|pG<|pD Ak fun f100=>pE<|pE<|pF (Bk N f100) 0 fun r=> .i r
theorem UE (N:Nat):FOK Tryz.prog 25 (s25 N):=by
 refine Al x25.ok<|AW<|CQ fun f100=>Ah<|Ah<|An fun r h=>wx x25 (Aa (G5 N)<|Aa (Y2 N)<|Aj) fun _ hS F=> ?_
 dsimp only[x25,mkX,Ak]
 unfold Bk at h
 obtain⟨r101,cy,h⟩:=un h
 replace F:=fc cy F
 refine gcb hS F h (fun _ h=> ?_) (fun _ h=> ?_)
 ·exact Ad hS F h
 ·obtain⟨dz,bi,h⟩:=un h
  refine go hS F ?_
  refine Au dz (fun z:Int×Nat=>⟨[(3,.i z.1)],[],z.2⟩) (fun z=>(z.1:Int)) (.x 0) ?_ ?_
  ·refine Aq (fun n (y:Int×Int×Nat)=>FY N f100 n y.1 y.2.1) (fun y=>⟨[(3,.i y.1),(10,Af f100),(11,.i (f100.length:Int)),(12,.i y.2.1)],[],y.2.2⟩) (0,0,4) bi (leF F) ?_
   rintro n ⟨ai,x115,dg⟩ ae
   simp only[FY] at ae
   refine gcb hS F ae (fun _ ae=> ?_) (fun _ ae=> ?_)
   ·obtain⟨⟨x116,x117,x118,bw,bv,x121⟩,db,ae⟩:=un ae
    obtain⟨iy,F⟩:=rqG Ai db F
    obtain⟨aq,cu,d6,d5,ae⟩:=un ae
    exact gbk hS (fc cu F) (n,ai+aq,x115+1,dg+1+1+1+1) ae
   ·exact gck hS F (ai,dg+1) ae
  ·rintro⟨am,jg⟩ rfl
   exact Ad hS F h
def G6 (N:Nat) (f131:List (Int×Int×Int×(List (Int×Int))×Int×Int)) (ah:Int) (af:Int):Nat→Int→(List (Int×Int×Int×(List (Int×Int))×Int×Int))→Option (Sum ((List (Int×Int×Int×(List (Int×Int))×Int×Int))) (((List (Int×Int×Int×(List (Int×Int))×Int×Int))×Int)))
 |0,_,_=>none
 |n+1,x171,l172=>
  bif decide (x171<(f131.length:Int)) then(
   (nth f131 x171).bind fun(bu,br,bq,bp,bo,bm)=>
   (H5 N bu br bq bp bo bm ah af).bind fun((bg,be,bb,az,ay,aw),bz)=>
   bif decide (bz≠0) then(
    some (.inr ([],120)))
   else(
    gd ((l172.length+1)*64≤140737488355328)<|
    gd (I64 (x171+1))<|
    G6 N f131 ah af n (x171+1) (l172++[(bg,be,bb,az,ay,aw)])))
  else(
   some (.inl l172))
def Ic (N:Nat) (f131:List (Int×Int×Int×(List (Int×Int))×Int×Int)) (ah:Int) (af:Int):Option ((List (Int×Int×Int×(List (Int×Int))×Int×Int))×Int):=
 (AT N f131).bind fun b9=>
 bif !b9 then(
  some ([],120))
 else(
  (G6 N f131 ah af N 0 []).bind fun bh=>match bh with
   | .inl ce=>(
    some (ce,0))
   | .inr du=>(
    some du))
@[go_sem] def s36 (N:Nat):Spec:=p0<|pG<|pD Ak fun f131=>pE<|pI fun ah=>pI fun af=>pE<|pF (Ic N f131 ah af) ([],0) fun r=> .tup [.agg [Af r.1],.i r.2]
theorem Y7 (N:Nat):FOK Tryz.prog 36 (s36 N):=by
 refine Al x36.ok<|AW<|CQ fun f131=>Ah<|Ac fun ah=>Ac fun af=>Ah<|An fun r h=>wx x36 (Aa (G5 N)<|Aa (lO N)<|Aj) fun _ hS F=> ?_
 dsimp only[x36,mkX,Ak]
 unfold Ic at h
 obtain⟨b9,cr,h⟩:=un h
 replace F:=fc cr F
 refine gcb hS F h (fun _ h=> ?_) (fun _ h=> ?_)
 ·exact Ad hS F h
 ·refine go hS F ?_
  refine DR 1000001 (300,3) 0 6 [.i 0,.i 0,.i 0,.sl 0 true [] [],.i 0,.i 0] (by omega) (ev F) ?_
  obtain⟨bh,bi,h⟩:=un h
  refine go hS F ?_
  refine Au bh (fun z:(List (Int×Int×Int×(List (Int×Int))×Int×Int))×Nat=>⟨[(6,.box (1,1) 0),(8,.box (300,3) 0)],[(.c (300,3) 0,.own (1000001,5) z.1.length),(.a (1000001,5),BK z.1),(.c (1,1) 0,.sl 0 true [] [])],z.2⟩) (fun z=>(.inl z.1:Sum ((List (Int×Int×Int×(List (Int×Int))×Int×Int))) (((List (Int×Int×Int×(List (Int×Int))×Int×Int))×Int)))) (.x 0) ?_ ?_
  ·refine Aq (fun n (y:Int×(List (Int×Int×Int×(List (Int×Int))×Int×Int))×Nat)=>G6 N f131 ah af n y.1 y.2.1) (fun y=>⟨[(1,.i ah),(2,.i af),(6,.box (1,1) 0),(8,.box (300,3) 0),(18,Af f131),(19,.i (f131.length:Int)),(20,.i y.1)],[(.c (300,3) 0,.own (1000001,5) y.2.1.length),(.a (1000001,5),BK y.2.1),(.c (1,1) 0,.sl 0 true [] [])],y.2.2⟩) (0,[],5) bi (leF F) ?_
   rintro n ⟨x171,l172,de⟩ ae
   simp only[G6] at ae
   refine gcb hS F ae (fun _ ae=> ?_) (fun _ ae=> ?_)
   ·obtain⟨⟨bu,br,bq,bp,bo,bm⟩,cz,ae⟩:=un ae
    obtain⟨iw,F⟩:=rqG Ai cz F
    obtain⟨⟨⟨bg,be,bb,az,ay,aw⟩,bz⟩,cq,ae⟩:=un ae
    replace F:=fc cq F
    refine gcb hS F ae (fun _ ae=> ?_) (fun _ ae=> ?_)
    ·obtain rfl:=yJ ae
     exact Ad hS F h
    ·obtain⟨d6,d5,ae⟩:=un ae
     exact gbk hS F (n,x171+1,l172++[(bg,be,bb,az,ay,aw)],de+1+1+1+1+1+1) ae
   ·exact gck hS F (l172,de+1) ae
  ·rintro⟨ce,jf⟩ rfl
   exact Ad hS F h
end Go.Proofs.YtciphecegkfaiaaGreat.Am
