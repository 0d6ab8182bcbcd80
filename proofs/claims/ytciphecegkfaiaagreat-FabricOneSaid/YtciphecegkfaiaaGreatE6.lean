import Derived.Test.YtciphecegkfaiaaGreatDR
import Derived.Test.YtciphecegkfaiaaGreatA15
import Derived.Test.YtciphecegkfaiaaGreatP3
namespace Go.Proofs.YtciphecegkfaiaaGreat.Am
open Go
attribute [local irreducible] awp B5 BR Bx B3 Bw Bn BS B1 itK
set_option maxRecDepth 100000
set_option maxHeartbeats 8000000
set_option linter.unusedSimpArgs false
set_option linter.unusedVariables false
def Fd (N:Nat) (c570:Int) (ab:Int):Option Int:=
 bif decide (c570<0) then(
  gd (I64 (c570+1))<|
  gd (I64 (-(c570+1)))<|
  gd (ab≠0)<|
  some ((-(c570+1)).tmod ab))
 else(
  gd (ab≠0)<|
  some (c570.tmod ab))
@[go_sem] def oY (N:Nat):Spec:=p0<|pI fun c570=>pI fun ab=>pE<|pF (Fd N c570 ab) 0 fun r=> .i r
def Cm (N:Nat) (a575:List (Int×Int)) (b581:List (Int×Int)):Nat→Int→Option (Sum Unit Bool)
 |0,_=>none
 |n+1,ae=>
  bif decide (ae<(a575.length:Int)) then(
   (nth a575 ae).bind fun(bb,ba)=>
   (nth b581 ae).bind fun(az,ay)=>
   bif !(decide (bb=az)&&decide (ba=ay)) then(
    some (.inr false))
   else(
    gd (I64 (ae+1))<|
    Cm N a575 b581 n (ae+1)))
  else(
   some (.inl ()))
def Ep (N:Nat) (av:Int) (au:Int) (aq:Int) (a575:List (Int×Int)) (an:Int) (am:Int) (ak:Int) (aj:Int) (ai:Int) (b581:List (Int×Int)) (ah:Int) (af:Int):Option Bool:=
 bif (((((decide (av≠ak))||(decide (au≠aj)))||(decide (aq≠ai)))||(decide (an≠ah)))||(decide (am≠af)))||(decide ((a575.length:Int)≠(b581.length:Int))) then(
  some false)
 else(
  (Cm N a575 b581 N 0).bind fun aw=>match aw with
   | .inl ()=>(
    some true)
   | .inr bi=>(
    some bi))
@[go_sem] def s48 (N:Nat):Spec:=p0<|pG<|pI fun av=>pI fun au=>pI fun aq=>pS Ap fun a575=>pI fun an=>pI fun am=>pE<|pG<|pI fun ak=>pI fun aj=>pI fun ai=>pS Ap fun b581=>pI fun ah=>pI fun af=>pE<|pE<|pF (Ep N av au aq a575 an am ak aj ai b581 ah af) false fun r=> .b r
theorem Y4 (N:Nat):FOK Tryz.prog 48 (s48 N):=by
 refine Al x48.ok<|AW<|Ac fun av=>Ac fun au=>Ac fun aq=>A3 fun a575=>Ac fun an=>Ac fun am=>Ah<|AW<|Ac fun ak=>Ac fun aj=>Ac fun ai=>A3 fun b581=>Ac fun ah=>Ac fun af=>Ah<|Ah<|An fun r h=>wx x48 (Aj) fun _ hS F=> ?_
 dsimp only[x48,mkX,Ap]
 unfold Ep at h
 refine gcb hS F h (fun _ h=> ?_) (fun _ h=> ?_)
 ·exact Ad hS F h
 ·obtain⟨aw,bp,h⟩:=un h
  refine go hS F ?_
  refine Au aw (fun z:Nat=>⟨[],[],z⟩) (fun z=>(.inl ():Sum Unit Bool)) (.x 0) ?_ ?_
  ·refine Aq (fun n (y:Int×Nat)=>Cm N a575 b581 n y.1) (fun y=>⟨[(2,.box (0,1) 0),(3,.box (1,1) 0),(5,.i y.1)],[(.c (1,1) 0,.i ak),(.c (1,1) 1,.i aj),(.c (1,1) 2,.i ai),(.c (1,1) 3,A1 b581),(.c (1,1) 4,.i ah),(.c (1,1) 5,.i af),(.c (0,1) 0,.i av),(.c (0,1) 1,.i au),(.c (0,1) 2,.i aq),(.c (0,1) 3,A1 a575),(.c (0,1) 4,.i an),(.c (0,1) 5,.i am)],y.2⟩) (0,3) bp (leF F) ?_
   rintro n ⟨ae,bh⟩ aa
   simp only[Cm] at aa
   refine gcb hS F aa (fun _ aa=> ?_) (fun _ aa=> ?_)
   ·obtain⟨⟨bb,ba⟩,bg,aa⟩:=un aa
    obtain⟨bm,F⟩:=rqG Br bg F
    obtain⟨⟨az,ay⟩,be,aa⟩:=un aa
    obtain⟨bj,F⟩:=rqG Br be F
    refine gcb hS F aa (fun _ aa=> ?_) (fun _ aa=> ?_)
    ·obtain rfl:=yJ aa
     exact Ad hS F h
    ·obtain⟨bo,aa⟩:=un aa
     exact gbk hS F (n,ae+1,bh+1+1+1) aa
   ·exact gck hS F (bh+1) aa
  ·rintro bq rfl
   exact Ad hS F h
end Go.Proofs.YtciphecegkfaiaaGreat.Am
namespace Go.Proofs.YtciphecegkfaiaaGreat.Am
open Go
attribute [local irreducible] awp B5 BR Bx B3 Bw Bn BS B1 itK
set_option maxRecDepth 100000
set_option maxHeartbeats 8000000
set_option linter.unusedSimpArgs false
set_option linter.unusedVariables false
def Gz (x:Int×Int×Int):List AV:=[.i x.1,.i x.2.1,.i x.2.2]
def QQ:List AV→Int×Int×Int
 |[.v (.int _ a1),.v (.int _ a2),.v (.int _ a3)]=>(a1,a2,a3)
 |_=>(0,0,0)
theorem fU (x:Int×Int×Int):QQ (Gz x)=x:=by rfl
theorem fW (R:List (Int×Int×Int)):(R.map Gz).map QQ=R:=by
 induction R with
 |nil=>rfl
 |cons r R ih=>rw[List.map_cons,List.map_cons,ih,fU]
theorem VX (R:List (Int×Int×Int)) (i:Nat):BJ (R.map Gz) [.i 0,.i 0,.i 0] i=Gz (R.getD i (0,0,0)):=by
 unfold BJ;rw[List.getD_eq_getElem?_getD,List.getD_eq_getElem?_getD,List.getElem?_map];cases R[i]? <;>rfl
theorem aH (A B:List (Int×Int×Int)) (i:Nat):BJ (A.map Gz++B.map Gz) [.i 0,.i 0,.i 0] i=Gz ((A++B).getD i (0,0,0)):=by
 rw[←List.map_append];exact VX _ _
def lE:Rw (Int×Int×Int):=⟨3,Gz,QQ,[.i 0,.i 0,.i 0]⟩
def lF (l:List (Int×Int×Int)):AV:= .sl 3 false (l.map Gz) [.i 0,.i 0,.i 0]
def Ej (l:List (Int×Int×Int)):AV:= .sl 3 true (l.map Gz) [.i 0,.i 0,.i 0]
attribute [go_sem] lE lF Ej Gz QQ fW VX aH
def C0 (N:Nat) (a805:List (Int×Int)):Nat→Int→(List (Int×Int×Int))→Option ((List (Int×Int×Int)))
 |0,_,_=>none
 |n+1,du,l826=>
  bif decide (du<(a805.length:Int)) then(
   (nth a805 du).bind fun(ck,cj)=>
   (B2 N a805 du).bind fun(de,db)=>
   gd (I64 (cj-db))<|
   gd (I64 (de-ck))<|
   gd (I64 (db-cj))<|
   gd (I64 ((db-cj)*ck))<|
   gd (I64 (de-ck))<|
   gd (I64 ((de-ck)*cj))<|
   gd (I64 (((db-cj)*ck)-((de-ck)*cj)))<|
   gd ((l826.length+1)*24≤140737488355328)<|
   gd (I64 (du+1))<|
   C0 N a805 n (du+1) (l826++[(cj-db,de-ck,((db-cj)*ck)-((de-ck)*cj))]))
  else(
   some l826)
def C1 (N:Nat) (b806:List (Int×Int)):Nat→Int→(List (Int×Int×Int))→Option ((List (Int×Int×Int)))
 |0,_,_=>none
 |n+1,dt,l856=>
  bif decide (dt<(b806.length:Int)) then(
   (nth b806 dt).bind fun(ci,ce)=>
   (B2 N b806 dt).bind fun(cz,cy)=>
   gd (I64 (ce-cy))<|
   gd (I64 (cz-ci))<|
   gd (I64 (cy-ce))<|
   gd (I64 ((cy-ce)*ci))<|
   gd (I64 (cz-ci))<|
   gd (I64 ((cz-ci)*ce))<|
   gd (I64 (((cy-ce)*ci)-((cz-ci)*ce)))<|
   gd ((l856.length+1)*24≤140737488355328)<|
   gd (I64 (dt+1))<|
   C1 N b806 n (dt+1) (l856++[(ce-cy,cz-ci,((cy-ce)*ci)-((cz-ci)*ce))]))
  else(
   some l856)
def CR (N:Nat) (l837:List (Int×Int×Int)) (l867:List (Int×Int×Int)) (bb:Int) (ba:Int) (bi:Int):Nat→Bool→Int→Option Bool
 |0,_,_=>none
 |n+1,ab,n1141=>
  bif decide (n1141<((l837++l867).length:Int)) then(
   gd (ab=true→(0≤n1141∧n1141<((l837++l867).length:Int)))<|
   gd (ab=true→(0≤n1141∧n1141<((l837++l867).length:Int)))<|
   gd (ab=true→(I64 ((((l837++l867).getD n1141.toNat (0,0,0)).1)*bb)))<|
   gd (ab=true→(0≤n1141∧n1141<((l837++l867).length:Int)))<|
   gd (ab=true→(0≤n1141∧n1141<((l837++l867).length:Int)))<|
   gd (ab=true→(I64 ((((l837++l867).getD n1141.toNat (0,0,0)).2.1)*ba)))<|
   gd (ab=true→(I64 (((((l837++l867).getD n1141.toNat (0,0,0)).1)*bb)+((((l837++l867).getD n1141.toNat (0,0,0)).2.1)*ba))))<|
   gd (ab=true→(0≤n1141∧n1141<((l837++l867).length:Int)))<|
   gd (ab=true→(0≤n1141∧n1141<((l837++l867).length:Int)))<|
   gd (ab=true→(I64 ((((l837++l867).getD n1141.toNat (0,0,0)).2.2)*bi)))<|
   gd (ab=true→(I64 ((((((l837++l867).getD n1141.toNat (0,0,0)).1)*bb)+((((l837++l867).getD n1141.toNat (0,0,0)).2.1)*ba))+((((l837++l867).getD n1141.toNat (0,0,0)).2.2)*bi))))<|
   gd (I64 (n1141+1))<|
   CR N l837 l867 bb ba bi n (ab&&(decide (0≤(((((l837++l867).getD n1141.toNat (0,0,0)).1)*bb)+((((l837++l867).getD n1141.toNat (0,0,0)).2.1)*ba))+((((l837++l867).getD n1141.toNat (0,0,0)).2.2)*bi)))) (n1141+1))
  else(
   some ab)
def B9 (N:Nat) (l837:List (Int×Int×Int)) (l867:List (Int×Int×Int)) (ae:Int):Nat→Int→(List (Int×Int×Int))→Option ((List (Int×Int×Int)))
 |0,_,_=>none
 |n+1,az,l1106=>
  bif decide (az<((l837++l867).length:Int)) then(
   (nth (l837++l867) ae).bind fun(aq,an,ay)=>
   (nth (l837++l867) az).bind fun(am,ak,aw)=>
   gd (I64 (an*aw))<|
   gd (I64 (ak*ay))<|
   gd (I64 ((an*aw)-(ak*ay)))<|
   gd (I64 (ay*am))<|
   gd (I64 (aw*aq))<|
   gd (I64 ((ay*am)-(aw*aq)))<|
   gd (I64 (aq*ak))<|
   gd (I64 (am*an))<|
   gd (I64 ((aq*ak)-(am*an)))<|
   bif decide ((aq*ak)-(am*an)=0) then(
    gd (I64 (az+1))<|
    B9 N l837 l867 ae n (az+1) l1106)
   else(
    (bif decide ((aq*ak)-(am*an)<0) then(
      gd (I64 (-((an*aw)-(ak*ay))))<|
      gd (I64 (-((ay*am)-(aw*aq))))<|
      gd (I64 (-((aq*ak)-(am*an))))<|
      some (-((an*aw)-(ak*ay)),-((ay*am)-(aw*aq)),-((aq*ak)-(am*an))))
     else(
      some ((an*aw)-(ak*ay),(ay*am)-(aw*aq),(aq*ak)-(am*an))):Option (Int×Int×Int)).bind fun(bb,ba,bi)=>
    (CR N l837 l867 bb ba bi N true 0).bind fun eu=>
    bif eu then(
     gd ((l1106.length+1)*24≤140737488355328)<|
     gd (I64 (az+1))<|
     B9 N l837 l867 ae n (az+1) (l1106++[(bb,ba,bi)]))
    else(
     gd (I64 (az+1))<|
     B9 N l837 l867 ae n (az+1) l1106)))
  else(
   some l1106)
def CS (N:Nat) (l837:List (Int×Int×Int)) (l867:List (Int×Int×Int)):Nat→Int→(List (Int×Int×Int))→Option ((List (Int×Int×Int)))
 |0,_,_=>none
 |n+1,ae,dm=>
  bif decide (ae<((l837++l867).length:Int)) then(
   gd (I64 (ae+1))<|
   (B9 N l837 l867 ae N (ae+1) dm).bind fun em=>
   gd (I64 (ae+1))<|
   CS N l837 l867 n (ae+1) em)
  else(
   some dm)
def Bu (N:Nat) (bj:Int) (l1158:List (Int×Int×Int)) (ah:Int):Nat→Int→Option (Sum Unit Bool)
 |0,_=>none
 |n+1,cr=>
  bif decide (cr<bj) then(
   (nth l1158 ah).bind fun(dh,dg,dz)=>
   (nth l1158 bj).bind fun(bu,br,bh)=>
   (nth l1158 cr).bind fun(bq,bp,bg)=>
   gd (I64 (br*bg))<|
   gd (I64 (bh*bp))<|
   gd (I64 ((br*bg)-(bh*bp)))<|
   gd (I64 (dh*((br*bg)-(bh*bp))))<|
   gd (I64 (bu*bg))<|
   gd (I64 (bh*bq))<|
   gd (I64 ((bu*bg)-(bh*bq)))<|
   gd (I64 (dg*((bu*bg)-(bh*bq))))<|
   gd (I64 ((dh*((br*bg)-(bh*bp)))-(dg*((bu*bg)-(bh*bq)))))<|
   gd (I64 (bu*bp))<|
   gd (I64 (br*bq))<|
   gd (I64 ((bu*bp)-(br*bq)))<|
   gd (I64 (dz*((bu*bp)-(br*bq))))<|
   gd (I64 (((dh*((br*bg)-(bh*bp)))-(dg*((bu*bg)-(bh*bq))))+(dz*((bu*bp)-(br*bq)))))<|
   bif decide (((dh*((br*bg)-(bh*bp)))-(dg*((bu*bg)-(bh*bq))))+(dz*((bu*bp)-(br*bq)))≠0) then(
    some (.inr true))
   else(
    gd (I64 (cr+1))<|
    Bu N bj l1158 ah n (cr+1)))
  else(
   some (.inl ()))
def BP (N:Nat) (ah:Int) (l1158:List (Int×Int×Int)):Nat→Int→Option (Sum Unit Bool)
 |0,_=>none
 |n+1,bj=>
  bif decide (bj<ah) then(
   (Bu N bj l1158 ah N 0).bind fun ei=>match ei with
    | .inl ()=>(
     gd (I64 (bj+1))<|
     BP N ah l1158 n (bj+1))
    | .inr ic=>(
     some (.inr ic)))
  else(
   some (.inl ()))
def BQ (N:Nat) (l1158:List (Int×Int×Int)):Nat→Int→Option (Sum Unit Bool)
 |0,_=>none
 |n+1,ah=>
  bif decide (ah<(l1158.length:Int)) then(
   (BP N ah l1158 N 0).bind fun eh=>match eh with
    | .inl ()=>(
     gd (I64 (ah+1))<|
     BQ N l1158 n (ah+1))
    | .inr ib=>(
     some (.inr ib)))
  else(
   some (.inl ()))
def BO (N:Nat) (a805:List (Int×Int)) (b806:List (Int×Int)):Option Bool:=
 (Bo N a805).bind fun gc=>
 gd ((!(!gc))=true→((Bo N b806).isSome=true))<|
 bif (!gc)||(!((Bo N b806).getD false)) then(
  some false)
 else(
  (C0 N a805 N 0 []).bind fun l837=>
  (C1 N b806 N 0 []).bind fun l867=>
  gd ((l837.length+l867.length)*24≤140737488355328)<|
  (CS N l837 l867 N 0 []).bind fun l1158=>
  (BQ N l1158 N 0).bind fun d9=>match d9 with
   | .inl ()=>(
    some false)
   | .inr g9=>(
    some g9))
@[go_sem] def oH (N:Nat):Spec:=p0<|pS Ap fun a805=>pS Ap fun b806=>pE<|pF (BO N a805 b806) false fun r=> .b r
theorem VY (N:Nat):FOK Tryz.prog 145 (oH N):=by
 refine Al x145.ok<|A3 fun a805=>A3 fun b806=>Ah<|An fun r h=>wx x145 (Aa (My N)<|Aa (OQ N)<|Aj) fun _ hS F=> ?_
 dsimp only[x145,mkX,Ap]
 unfold BO at h
 obtain⟨gc,iu,nz,h⟩:=un h
 replace F:=fc iu F
 refine gcb hS F h (fun _ h=> ?_) (fun _ h=> ?_)
 ·exact Ad hS F h
 ·refine go hS F ?_
  refine Vh hS 1 3 (by decide) x168.hf x168.hc x168.hn x168.ok x168.hf x168.hc x168.hn x168.ok rfl rfl (ev F) (ev F) (ev F) ?_ rfl (ev F) (Nat.le_of_ble_eq_true rfl) fun hb=> ?_
  ·exact goc hS F
  dsimp only[x168,mkX]
  refine go hS F ?_
  refine Cb 1000001 3 3 [.i 0,.i 0,.i 0] (by show(3:Nat)<52;omega) (by omega) (ev F) ?_
  obtain⟨jd,n7,h⟩:=un h
  refine go hS F ?_
  refine Au jd (fun z:(List (Int×Int×Int))×Nat=>⟨[(3,.own (1000001,7) z.1.length)],[(.a (1000001,7),Ej z.1)],z.2⟩) (fun z=>(z.1:(List (Int×Int×Int)))) (.x 0) ?_ ?_
  ·refine Aq (fun n (y:Int×(List (Int×Int×Int))×Nat)=>C0 N a805 n y.1 y.2.1) (fun y=>⟨[(0,A1 a805),(3,.own (1000001,7) y.2.1.length),(4,.i y.1)],[(.a (1000001,7),Ej y.2.1)],y.2.2⟩) (0,[],7) n7 (leF F) ?_
   rintro n ⟨du,l826,iz⟩ d6
   simp only[C0] at d6
   refine gcb hS F d6 (fun _ d6=> ?_) (fun _ d6=> ?_)
   ·obtain⟨⟨ck,cj⟩,iw,d6⟩:=un d6
    obtain⟨jx,F⟩:=rqG Br iw F
    obtain⟨⟨de,db⟩,ir,d6⟩:=un d6
    obtain⟨oa,n9,n8,kw,ke,j4,jh,jg,jf,d6⟩:=un d6
    exact gbk hS (fc ir F) (n,du+1,l826++[(cj-db,de-ck,((db-cj)*ck)-((de-ck)*cj))],iz+1+1+1+1+1) d6
   ·exact gck hS F (l826,iz+1) d6
  ·rintro⟨l837,ez⟩ rfl
   refine go hS F ?_
   first|refine dJ (ev F) (ev F) ?_ ?_ rfl (ev F) (by simp) fun hb=> ?_|refine dH (ev F) (ev F) ?_ ?_ rfl (ev F) (by simp) fun hb=> ?_
   ·exact goc hS F
   ·exact goc hS F
   try dsimp only[x168,mkX]
   refine go hS F ?_
   refine Cb 1000002 3 3 [.i 0,.i 0,.i 0] (by show(3:Nat)<52;omega) (by omega) (ev F) ?_
   obtain⟨jc,gz,h⟩:=un h
   refine go hS F ?_
   refine Au jc (fun z:(List (Int×Int×Int))×Nat=>⟨[(3,.own (1000002,ez+1+1+1+1+1+1) z.1.length)],[(.a (1000001,7),Ej l837),(.a (1000002,ez+1+1+1+1+1+1),Ej z.1)],z.2⟩) (fun z=>(z.1:(List (Int×Int×Int)))) (.x 0) ?_ ?_
   ·refine Aq (fun n (y:Int×(List (Int×Int×Int))×Nat)=>C1 N b806 n y.1 y.2.1) (fun y=>⟨[(0,A1 b806),(3,.own (1000002,ez+1+1+1+1+1+1) y.2.1.length),(4,.i y.1)],[(.a (1000001,7),Ej l837),(.a (1000002,ez+1+1+1+1+1+1),Ej y.2.1)],y.2.2⟩) (0,[],ez+1+1+1+1+1+1) gz (leF F) ?_
    rintro n ⟨dt,l856,iy⟩ ai
    simp only[C1] at ai
    refine gcb hS F ai (fun _ ai=> ?_) (fun _ ai=> ?_)
    ·obtain⟨⟨ci,ce⟩,iv,ai⟩:=un ai
     obtain⟨jw,F⟩:=rqG Br iv F
     obtain⟨⟨cz,cy⟩,iq,ai⟩:=un ai
     obtain⟨je,ny,nw,nv,nu,nr,nk,nj,nh,ai⟩:=un ai
     exact gbk hS (fc iq F) (n,dt+1,l856++[(ce-cy,cz-ci,((cy-ce)*ci)-((cz-ci)*ce))],iy+1+1+1+1+1) ai
    ·exact gck hS F (l856,iy+1) ai
   ·rintro⟨l867,au⟩ rfl
    obtain⟨ng,h⟩:=un h
    refine go hS F ?_
    refine Cb 1000004 6 3 [.i 0,.i 0,.i 0] (by show(6:Nat)<245;omega) (by omega) (ev F) ?_
    obtain⟨ij,jv,h⟩:=un h
    refine go hS F ?_
    refine Au ij (fun z:(List (Int×Int×Int))×Nat=>⟨[(6,.own (1000004,au+1+1+1+1+1) z.1.length)],[(.a (1000004,au+1+1+1+1+1),Ej z.1)],z.2⟩) (fun z=>(z.1:(List (Int×Int×Int)))) (.x 0) ?_ ?_
    ·refine Aq (fun n (y:Int×(List (Int×Int×Int))×Nat)=>CS N l837 l867 n y.1 y.2.1) (fun y=>⟨[(5,.own (1000001,7) (l837++l867).length),(6,.own (1000004,au+1+1+1+1+1) y.2.1.length),(7,.i y.1)],[(.a (1000004,au+1+1+1+1+1),Ej y.2.1),(.a (1000001,7),Ej (l837++l867))],y.2.2⟩) (0,[],au+1+1+1+1+1) jv (leF F) ?_
     rintro n ⟨ae,dm,fy⟩ cn
     simp only[CS] at cn
     refine gcb hS F cn (fun _ cn=> ?_) (fun _ cn=> ?_)
     ·obtain⟨nb,cn⟩:=un cn
      obtain⟨il,ju,cn⟩:=un cn
      refine go hS F ?_
      refine Au il (fun z:(List (Int×Int×Int))×Nat=>⟨[(5,.own (1000001,7) (l837++l867).length),(6,.own (1000004,au+1+1+1+1+1) z.1.length),(7,.i ae)],[(.a (1000004,au+1+1+1+1+1),Ej z.1),(.a (1000001,7),Ej (l837++l867))],z.2⟩) (fun z=>(z.1:(List (Int×Int×Int)))) (.x 2) ?_ ?_
      ·refine Aq (fun n (y:Int×(List (Int×Int×Int))×Nat)=>B9 N l837 l867 ae n y.1 y.2.1) (fun y=>⟨[(5,.own (1000001,7) (l837++l867).length),(6,.own (1000004,au+1+1+1+1+1) y.2.1.length),(7,.i ae),(8,.i y.1)],[(.a (1000004,au+1+1+1+1+1),Ej y.2.1),(.a (1000001,7),Ej (l837++l867))],y.2.2⟩) (ae+1,dm,fy+1+1) ju (leF F) ?_
       rintro n ⟨az,l1106,av⟩ af
       simp only[B9] at af
       refine gcb hS F af (fun _ af=> ?_) (fun _ af=> ?_)
       ·obtain⟨⟨aq,an,ay⟩,gy,af⟩:=un af
        obtain⟨jp,F⟩:=rqG Gz gy F
        obtain⟨⟨am,ak,aw⟩,gx,af⟩:=un af
        obtain⟨jo,F⟩:=rqG Gz gx F
        obtain⟨m9,m8,m7,mz,my,mu,mr,mq,mo,af⟩:=un af
        refine gcb hS F af (fun _ af=> ?_) (fun _ af=> ?_)
        ·obtain⟨mn,af⟩:=un af
         exact gbk hS F (n,az+1,l1106,av+1+1+1+1) af
        ·obtain⟨ip,dw,af⟩:=un af
         refine go hS F ?_
         refine Au ip (fun z:Int×Int×Int×Nat=>⟨[(5,.own (1000001,7) (l837++l867).length),(6,.own (1000004,au+1+1+1+1+1) l1106.length),(7,.i ae),(8,.i az),(9,.box (1170,av+1+1) 0)],[(.c (1170,av+1+1) 0,.i z.1),(.c (1170,av+1+1) 1,.i z.2.1),(.c (1170,av+1+1) 2,.i z.2.2.1),(.a (1000004,au+1+1+1+1+1),Ej l1106),(.a (1000001,7),Ej (l837++l867))],z.2.2.2⟩) (fun z=>((z.1,z.2.1,z.2.2.1):Int×Int×Int)) .n ?_ ?_
         ·refine gcb hS F dw (fun _ dw=> ?_) (fun _ dw=> ?_)
          ·obtain⟨mj,mh,mg,dw⟩:=un dw
           exact gck hS F (-((an*aw)-(ak*ay)),-((ay*am)-(aw*aq)),-((aq*ak)-(am*an)),av+1+1+1+1+1) dw
          ·exact gck hS F ((an*aw)-(ak*ay),(ay*am)-(aw*aq),(aq*ak)-(am*an),av+1+1+1+1) dw
         ·rintro⟨bb,ba,bi,jb⟩ rfl
          obtain⟨im,jt,af⟩:=un af
          refine go hS F ?_
          refine Au im (fun z:Bool×Nat=>⟨[(5,.own (1000001,7) (l837++l867).length),(6,.own (1000004,au+1+1+1+1+1) l1106.length),(7,.i ae),(8,.i az),(9,.box (1170,av+1+1) 0),(10,.b z.1)],[(.c (1170,av+1+1) 0,.i bb),(.c (1170,av+1+1) 1,.i ba),(.c (1170,av+1+1) 2,.i bi),(.a (1000004,au+1+1+1+1+1),Ej l1106),(.a (1000001,7),Ej (l837++l867))],z.2⟩) (fun z=>(z.1:Bool)) (.x 4) ?_ ?_
          ·refine Aq (fun n (y:Bool×Int×Nat)=>CR N l837 l867 bb ba bi n y.1 y.2.1) (fun y=>⟨[(5,.own (1000001,7) (l837++l867).length),(6,.own (1000004,au+1+1+1+1+1) l1106.length),(7,.i ae),(8,.i az),(9,.box (1170,av+1+1) 0),(10,.b y.1),(11,.i y.2.1)],[(.c (1170,av+1+1) 0,.i bb),(.c (1170,av+1+1) 1,.i ba),(.c (1170,av+1+1) 2,.i bi),(.a (1000004,au+1+1+1+1+1),Ej l1106),(.a (1000001,7),Ej (l837++l867))],y.2.2⟩) (true,0,jb+1+1) jt (leF F) ?_
           rintro n ⟨ab,n1141,fx⟩ dp
           simp only[CR] at dp
           refine gcb hS F dp (fun _ dp=> ?_) (fun _ dp=> ?_)
           ·obtain⟨me,md,mb,ma,l7,l6,l5,lz,lw,lr,lq,lm,dp⟩:=un dp
            exact gbk hS F (n,ab&&(decide (0≤(((((l837++l867).getD n1141.toNat (0,0,0)).1)*bb)+((((l837++l867).getD n1141.toNat (0,0,0)).2.1)*ba))+((((l837++l867).getD n1141.toNat (0,0,0)).2.2)*bi))),n1141+1,fx+1+1+1) dp
           ·exact gck hS F (ab,fx+1) dp
          ·rintro⟨eu,fr⟩ rfl
           refine gcb hS F af (fun _ af=> ?_) (fun _ af=> ?_)
           ·obtain⟨lj,li,af⟩:=un af
            exact gbk hS F (n,az+1,l1106++[(bb,ba,bi)],fr+1+1+1) af
           ·obtain⟨lh,af⟩:=un af
            exact gbk hS F (n,az+1,l1106,fr+1+1) af
       ·exact gck hS F (l1106,av+1) af
      ·rintro⟨em,ja⟩ rfl
       obtain⟨lg,cn⟩:=un cn
       exact gbk hS F (n,ae+1,em,ja+1) cn
     ·exact gck hS F (dm,fy+1) cn
    ·rintro⟨l1158,i9⟩ rfl
     obtain⟨d9,js,h⟩:=un h
     refine go hS F ?_
     refine Au d9 (fun z:Nat=>⟨[],[],z⟩) (fun z=>(.inl ():Sum Unit Bool)) (.x 6) ?_ ?_
     ·refine Aq (fun n (y:Int×Nat)=>BQ N l1158 n y.1) (fun y=>⟨[(6,.own (1000004,au+1+1+1+1+1) l1158.length),(12,.i y.1)],[(.a (1000004,au+1+1+1+1+1),Ej l1158)],y.2⟩) (0,i9+1) js (leF F) ?_
      rintro n ⟨ah,fq⟩ cq
      simp only[BQ] at cq
      refine gcb hS F cq (fun _ cq=> ?_) (fun _ cq=> ?_)
      ·obtain⟨eh,jr,cq⟩:=un cq
       refine go hS F ?_
       refine Au eh (fun z:Nat=>⟨[(6,.own (1000004,au+1+1+1+1+1) l1158.length),(12,.i ah)],[(.a (1000004,au+1+1+1+1+1),Ej l1158)],z⟩) (fun z=>(.inl ():Sum Unit Bool)) (.x 8) ?_ ?_
       ·refine Aq (fun n (y:Int×Nat)=>BP N ah l1158 n y.1) (fun y=>⟨[(6,.own (1000004,au+1+1+1+1+1) l1158.length),(12,.i ah),(13,.i y.1)],[(.a (1000004,au+1+1+1+1+1),Ej l1158)],y.2⟩) (0,fq+1+1) jr (leF F) ?_
        rintro n ⟨bj,fp⟩ co
        simp only[BP] at co
        refine gcb hS F co (fun _ co=> ?_) (fun _ co=> ?_)
        ·obtain⟨ei,jq,co⟩:=un co
         refine go hS F ?_
         refine Au ei (fun z:Nat=>⟨[(6,.own (1000004,au+1+1+1+1+1) l1158.length),(12,.i ah),(13,.i bj)],[(.a (1000004,au+1+1+1+1+1),Ej l1158)],z⟩) (fun z=>(.inl ():Sum Unit Bool)) (.x 10) ?_ ?_
         ·refine Aq (fun n (y:Int×Nat)=>Bu N bj l1158 ah n y.1) (fun y=>⟨[(6,.own (1000004,au+1+1+1+1+1) l1158.length),(12,.i ah),(13,.i bj),(14,.i y.1)],[(.a (1000004,au+1+1+1+1+1),Ej l1158)],y.2⟩) (0,fp+1+1) jq (leF F) ?_
          rintro n ⟨cr,fo⟩ bm
          simp only[Bu] at bm
          refine gcb hS F bm (fun _ bm=> ?_) (fun _ bm=> ?_)
          ·obtain⟨⟨dh,dg,dz⟩,gw,bm⟩:=un bm
           obtain⟨jn,F⟩:=rqG Gz gw F
           obtain⟨⟨bu,br,bh⟩,gu,bm⟩:=un bm
           obtain⟨jm,F⟩:=rqG Gz gu F
           obtain⟨⟨bq,bp,bg⟩,gt,bm⟩:=un bm
           obtain⟨jl,F⟩:=rqG Gz gt F
           obtain⟨lf,k9,kv,kr,kq,km,kl,kj,ki,kh,kg,kf,j9,j8,bm⟩:=un bm
           refine gcb hS F bm (fun _ bm=> ?_) (fun _ bm=> ?_)
           ·obtain rfl:=yJ bm
            obtain rfl:=yJ co
            obtain rfl:=yJ cq
            exact Ad hS F h
           ·obtain⟨j7,bm⟩:=un bm
            exact gbk hS F (n,cr+1,fo+1+1+1+1+1+1) bm
          ·exact gck hS F (fo+1) bm
         ·rintro i8 rfl
          obtain⟨j6,co⟩:=un co
          exact gbk hS F (n,bj+1,i8+1) co
        ·exact gck hS F (fp+1) co
       ·rintro i7 rfl
        obtain⟨j5,cq⟩:=un cq
        exact gbk hS F (n,ah+1,i7+1) cq
      ·exact gck hS F (fq+1) cq
     ·rintro jz rfl
      exact Ad hS F h
def C2 (N:Nat) (a1216:List (Int×Int)) (aj:Int) (aa:List (Int×Int)):Nat→Int→(List (Int×Int))→Option ((List (Int×Int)))
 |0,_,_=>none
 |n+1,be,l1263=>
  bif decide (be≤40) then(
   (CT N a1216 aj be).bind fun d7=>
   gd ((decide (d7=0))=true→((CT N aa aj be).isSome=true))<|
   bif (decide (d7=0))&&(decide ((CT N aa aj be).getD 0=0)) then(
    gd ((l1263.length+1)*16≤140737488355328)<|
    gd (I64 (be+1))<|
    C2 N a1216 aj aa n (be+1) (l1263++[(aj,be)]))
   else(
    gd (I64 (be+1))<|
    C2 N a1216 aj aa n (be+1) l1263))
  else(
   some l1263)
def DD (N:Nat) (a1216:List (Int×Int)) (aa:List (Int×Int)):Nat→Int→(List (Int×Int))→Option ((List (Int×Int)))
 |0,_,_=>none
 |n+1,aj,dl=>
  bif decide (aj≤40) then(
   (C2 N a1216 aj aa N 0 dl).bind fun ej=>
   gd (I64 (aj+1))<|
   DD N a1216 aa n (aj+1) ej)
  else(
   some dl)
def B7 (N:Nat) (a1216:List (Int×Int)) (b9:Int) (bz:Int) (bw:Int) (bv:Int):Nat→Int→Option (Sum Unit ((((Int×Int)×(Int×Int))×Bool)))
 |0,_=>none
 |n+1,cu=>
  bif decide (cu<(a1216.length:Int)) then(
   (nth a1216 cu).bind fun(fg,fb)=>
   (C6 N b9 bz bw bv fg fb).bind fun fh=>
   bif decide (fh<0) then(
    some (.inr (((bw,bv),(b9,bz)),true)))
   else(
    gd (I64 (cu+1))<|
    B7 N a1216 b9 bz bw bv n (cu+1)))
  else(
   some (.inl ()))
def C7 (N:Nat) (a1216:List (Int×Int)) (aa:List (Int×Int)):Option (((Int×Int)×(Int×Int))×Bool):=
 (Bo N a1216).bind fun d5=>
 gd ((!(!d5))=true→((Bo N aa).isSome=true))<|
 gd ((!((!d5)||(!((Bo N aa).getD false))))=true→((BO N a1216 aa).isSome=true))<|
 bif ((!d5)||(!((Bo N aa).getD false)))||((BO N a1216 aa).getD false) then(
  some (((0,0),(0,0)),false))
 else(
  (DD N a1216 aa N 0 []).bind fun l1276=>
  bif decide ((l1276.length:Int)<2) then(
   some (((0,0),(0,0)),false))
  else(
   (nth l1276 0).bind fun(b9,bz)=>
   gd (I64 ((l1276.length:Int)-1))<|
   (nth l1276 ((l1276.length:Int)-1)).bind fun(bw,bv)=>
   (B7 N a1216 b9 bz bw bv N 0).bind fun d8=>match d8 with
    | .inl ()=>(
     some (((b9,bz),(bw,bv)),true))
    | .inr g8=>(
     some g8)))
@[go_sem] def oI (N:Nat):Spec:=p0<|pS Ap fun a1216=>pS Ap fun aa=>pE<|pF (C7 N a1216 aa) (((0,0),(0,0)),false) fun r=> .tup [.agg [.i r.1.1.1,.i r.1.1.2,.i r.1.2.1,.i r.1.2.2],.b r.2]
end Go.Proofs.YtciphecegkfaiaaGreat.Am
namespace Go.Proofs.YtciphecegkfaiaaGreat.Am
open Go
attribute [local irreducible] awp B5 BR Bx B3 Bw Bn BS B1 itK
set_option maxRecDepth 100000
set_option maxHeartbeats 8000000
set_option linter.unusedSimpArgs false
set_option linter.unusedVariables false
attribute [local go_sem] isB KO
def Bs (N:Nat) (ci:Int) (ce:Int) (b9:Int) (bz:List (Int×Int)) (aw:Int) (av:Int):Option Bool:=
 bif (((((decide (ci<0))||(decide (99<ci)))||(decide (ce<1)))||(decide (8<ce)))||(decide (b9<0)))||(decide (7<b9)) then(
  some false)
 else(
  gd ((((decide (0≤aw))&&(decide (aw<av)))&&(decide (av≤8)))=true→((Bo N bz).isSome=true))<|
  some ((((decide (0≤aw))&&(decide (aw<av)))&&(decide (av≤8)))&&((Bo N bz).getD false)))
@[go_sem] def oZ (N:Nat):Spec:=p0<|pG<|pI fun ci=>pI fun ce=>pI fun b9=>pS Ap fun bz=>pI fun aw=>pI fun av=>pE<|pE<|pF (Bs N ci ce b9 bz aw av) false fun r=> .b r
theorem Kg (N:Nat):FOK Tryz.prog 107 (oZ N):=by
 refine Al x107.ok<|AW<|Ac fun ci=>Ac fun ce=>Ac fun b9=>A3 fun bz=>Ac fun aw=>Ac fun av=>Ah<|Ah<|An fun r h=>wx x107 (Aa (My N)<|Aj) fun _ hS F=> ?_
 dsimp only[x107,mkX,Ap]
 unfold Bs at h
 refine gcb hS F h (fun _ h=> ?_) (fun _ h=> ?_)
 ·exact Ad hS F h
 ·obtain⟨iy,h⟩:=un h
  exact Ad hS F h
def Er (N:Nat) (dz:Int) (dw:Int) (du:Int) (bw:List (Int×Int)) (au:Int) (aq:Int):Option Int:=
 (Bs N dz dw du bw au aq).bind fun gz=>
 bif !gz then(
  some 0)
 else(
  (Du N bw).bind fun fy=>
  gd (I64 (aq-au))<|
  gd (I64 (fy*(aq-au)))<|
  some (fy*(aq-au)))
@[go_sem] def pA (N:Nat):Spec:=p0<|pG<|pI fun dz=>pI fun dw=>pI fun du=>pS Ap fun bw=>pI fun au=>pI fun aq=>pE<|pE<|pF (Er N dz dw du bw au aq) 0 fun r=> .i r
def DU (N:Nat) (fm:Int) (fj:Int) (fh:Int) (fg:List (Int×Int)) (dl:Int) (dh:Int) (cy:Int) (cu:Int) (cr:Int) (cq:List (Int×Int)) (bg:Int) (be:Int):Option Bool:=
 (Bs N fm fj fh fg dl dh).bind fun fx=>
 gd (fx=true→((Bs N cy cu cr cq bg be).isSome=true))<|
 some ((fx&&((Bs N cy cu cr cq bg be).getD false))&&(decide (max dl bg<min dh be)))
@[go_sem] def pC (N:Nat):Spec:=p0<|pG<|pI fun fm=>pI fun fj=>pI fun fh=>pS Ap fun fg=>pI fun dl=>pI fun dh=>pE<|pG<|pI fun cy=>pI fun cu=>pI fun cr=>pS Ap fun cq=>pI fun bg=>pI fun be=>pE<|pE<|pF (DU N fm fj fh fg dl dh cy cu cr cq bg be) false fun r=> .b r
theorem V4 (N:Nat):FOK Tryz.prog 144 (pC N):=by
 refine Al x144.ok<|AW<|Ac fun fm=>Ac fun fj=>Ac fun fh=>A3 fun fg=>Ac fun dl=>Ac fun dh=>Ah<|AW<|Ac fun cy=>Ac fun cu=>Ac fun cr=>A3 fun cq=>Ac fun bg=>Ac fun be=>Ah<|Ah<|An fun r h=>wx x144 (Aa (Kg N)<|Aj) fun _ hS F=> ?_
 dsimp only[x144,mkX,Ap]
 unfold DU at h
 obtain⟨fx,im,iy,h⟩:=un h
 exact Ad hS (fc im F) h
def DF (N:Nat) (fb:Int) (e9:Int) (e8:Int) (bh:List (Int×Int)) (ez:Int) (eu:Int) (ei:Int) (eh:Int) (d9:Int) (bb:List (Int×Int)) (d8:Int) (d7:Int):Option Bool:=
 (DU N fb e9 e8 bh ez eu ei eh d9 bb d8 d7).bind fun fr=>
 gd (fr=true→((BO N bh bb).isSome=true))<|
 some (fr&&((BO N bh bb).getD false))
@[go_sem] def pH (N:Nat):Spec:=p0<|pG<|pI fun fb=>pI fun e9=>pI fun e8=>pS Ap fun bh=>pI fun ez=>pI fun eu=>pE<|pG<|pI fun ei=>pI fun eh=>pI fun d9=>pS Ap fun bb=>pI fun d8=>pI fun d7=>pE<|pE<|pF (DF N fb e9 e8 bh ez eu ei eh d9 bb d8 d7) false fun r=> .b r
theorem gS (N:Nat):FOK Tryz.prog 108 (pH N):=by
 refine Al x108.ok<|AW<|Ac fun fb=>Ac fun e9=>Ac fun e8=>A3 fun bh=>Ac fun ez=>Ac fun eu=>Ah<|AW<|Ac fun ei=>Ac fun eh=>Ac fun d9=>A3 fun bb=>Ac fun d8=>Ac fun d7=>Ah<|Ah<|An fun r h=>wx x108 (Aa (V4 N)<|Aa (VY N)<|Aj) fun _ hS F=> ?_
 dsimp only[x108,mkX,Ap]
 unfold DF at h
 obtain⟨fr,il,iy,h⟩:=un h
 exact Ad hS (fc il F) h
def EW (N:Nat) (dg:Int) (em:Int) (ej:Int) (de:List (Int×Int)) (db:Int) (cz:Int) (co:Int) (d6:Int) (d5:Int) (cn:List (Int×Int)) (ck:Int) (cj:Int):Option ((Int×Int×((Int×Int)×(Int×Int))×Int×Int)×Bool):=
 (DU N dg em ej de db cz co d6 d5 cn ck cj).bind fun gy=>
 bif !gy then(
  some ((0,0,((0,0),(0,0)),0,0),false))
 else(
  (C7 N de cn).bind fun(((gx,gw),(gu,gt)),gr)=>
  bif !gr then(
   some ((0,0,((0,0),(0,0)),0,0),false))
  else(
   some ((dg,co,((gx,gw),(gu,gt)),max db ck,min cz cj),true)))
@[go_sem] def pJ (N:Nat):Spec:=p0<|pG<|pI fun dg=>pI fun em=>pI fun ej=>pS Ap fun de=>pI fun db=>pI fun cz=>pE<|pG<|pI fun co=>pI fun d6=>pI fun d5=>pS Ap fun cn=>pI fun ck=>pI fun cj=>pE<|pE<|pF (EW N dg em ej de db cz co d6 d5 cn ck cj) ((0,0,((0,0),(0,0)),0,0),false) fun r=> .tup [.agg [.i r.1.1,.i r.1.2.1,.i r.1.2.2.1.1.1,.i r.1.2.2.1.1.2,.i r.1.2.2.1.2.1,.i r.1.2.2.1.2.2,.i r.1.2.2.2.1,.i r.1.2.2.2.2],.b r.2]
def CH (N:Nat) (u1369:List (Int×Int)):Nat→Int→(List (Int×Int))→Option ((List (Int×Int)))
 |0,_,_=>none
 |n+1,ab,l1385=>
  bif decide (ab<(u1369.length:Int)) then(
   (nth u1369 ab).bind fun(fq,dt)=>
   bif decide (dt=0) then(
    gd ((l1385.length+1)*16≤140737488355328)<|
    gd (I64 (ab+1))<|
    CH N u1369 n (ab+1) (l1385++[(fq,dt)]))
   else(
    gd (I64 (ab+1))<|
    CH N u1369 n (ab+1) l1385))
  else(
   some l1385)
def DV (N:Nat) (an:Int) (az:Int) (ay:Int) (u1369:List (Int×Int)) (am:Int) (ak:Int):Option ((Int×Int×((Int×Int)×(Int×Int))×Int×Int)×Bool):=
 (Bs N an az ay u1369 am ak).bind fun gj=>
 bif !gj then(
  some ((0,0,((0,0),(0,0)),0,0),false))
 else(
  (CH N u1369 N 0 []).bind fun l1393=>
  bif decide ((l1393.length:Int)≠2) then(
   some ((0,0,((0,0),(0,0)),0,0),false))
  else(
   (nth l1393 0).bind fun(dq,fp)=>
   (nth l1393 1).bind fun(dp,fo)=>
   bif decide (dp<dq) then(
    some ((an,(-1),((dp,fo),(dq,fp)),am,ak),true))
   else(
    some ((an,(-1),((dq,fp),(dp,fo)),am,ak),true))))
@[go_sem] def pM (N:Nat):Spec:=p0<|pG<|pI fun an=>pI fun az=>pI fun ay=>pS Ap fun u1369=>pI fun am=>pI fun ak=>pE<|pE<|pF (DV N an az ay u1369 am ak) ((0,0,((0,0),(0,0)),0,0),false) fun r=> .tup [.agg [.i r.1.1,.i r.1.2.1,.i r.1.2.2.1.1.1,.i r.1.2.2.1.1.2,.i r.1.2.2.1.2.1,.i r.1.2.2.1.2.2,.i r.1.2.2.2.1,.i r.1.2.2.2.2],.b r.2]
def Fe (N:Nat) (bv:Int) (bu:Int) (br:Int) (bq:List (Int×Int)) (bp:Int) (bo:Int) (bj:Int) (bi:Int):Option ((Int×Int×Int×(List (Int×Int))×Int×Int)×Int):=
 (Bs N bv bu br bq bp bo).bind fun gi=>
 bif !gi then(
  some ((0,0,0,[],0,0),80))
 else(
  (DQ N bq bj bi).bind fun(gh,gg)=>
  bif decide (gg≠0) then(
   some ((0,0,0,[],0,0),80))
  else(
   some ((bv,bu,br,gh,bp,bo),0)))
@[go_sem] def pN (N:Nat):Spec:=p0<|pG<|pI fun bv=>pI fun bu=>pI fun br=>pS Ap fun bq=>pI fun bp=>pI fun bo=>pE<|pI fun bj=>pI fun bi=>pE<|pF (Fe N bv bu br bq bp bo bj bi) ((0,0,0,[],0,0),0) fun r=> .tup [.agg [.i r.1.1,.i r.1.2.1,.i r.1.2.2.1,A1 r.1.2.2.2.1,.i r.1.2.2.2.2.1,.i r.1.2.2.2.2.2],.i r.2]
def Js (N:Nat) (aj:Int) (ai:Int) (ah:Int) (u1417:List (Int×Int)) (af:Int) (ae:Int) (how1420:Int) (aa:Int) (bm:Int):Option (Int×Int×Int×(List (Int×Int))×Int×Int):=
 gd ((u1417.length)*16≤140737488355328)<|
 (Fd N how1420 6).bind fun ba=>
 bif decide (ba=0) then(
  some (aa,ai,ah,u1417,af,ae))
 else(
  bif decide (ba=1) then(
   some (aj,aa,ah,u1417,af,ae))
  else(
   bif decide (ba=2) then(
    some (aj,ai,aa,u1417,af,ae))
   else(
    bif decide (ba=3) then(
     some (aj,ai,ah,u1417,aa,ae))
    else(
     bif decide (ba=4) then(
      some (aj,ai,ah,u1417,af,aa))
     else(
      gd (I64 (how1420.tdiv 6))<|
      (Fc N u1417 bm aa (how1420.tdiv 6)).bind fun gf=>
      some (aj,ai,ah,gf,af,ae))))))
@[go_sem] def s52 (N:Nat):Spec:=p0<|pG<|pI fun aj=>pI fun ai=>pI fun ah=>pS Ap fun u1417=>pI fun af=>pI fun ae=>pE<|pI fun how1420=>pI fun aa=>pI fun bm=>pE<|pF (Js N aj ai ah u1417 af ae how1420 aa bm) (0,0,0,[],0,0) fun r=> .agg [.i r.1,.i r.2.1,.i r.2.2.1,A1 r.2.2.2.1,.i r.2.2.2.2.1,.i r.2.2.2.2.2]
end Go.Proofs.YtciphecegkfaiaaGreat.Am
namespace Go.Proofs.YtciphecegkfaiaaGreat.Am
open Go
attribute [local irreducible] awp B5 BR Bx B3 Bw Bn BS B1 itK
set_option maxRecDepth 100000
set_option maxHeartbeats 8000000
set_option linter.unusedSimpArgs false
set_option linter.unusedVariables false
def Kh (x:Int):List AV:=[.v (.int .u8 x)]
def Ux:List AV→Int
 |[.v (.int _ a1)]=>a1
 |_=>0
theorem lP (x:Int):Ux (Kh x)=x:=by rfl
theorem lQ (R:List Int):(R.map Kh).map Ux=R:=by
 induction R with
 |nil=>rfl
 |cons r R ih=>rw[List.map_cons,List.map_cons,ih,lP]
theorem lR (R:List Int) (i:Nat):BJ (R.map Kh) [.v (.int .u8 0)] i=Kh (R.getD i 0):=by
 unfold BJ;rw[List.getD_eq_getElem?_getD,List.getD_eq_getElem?_getD,List.getElem?_map];cases R[i]? <;>rfl
def pP:Rw Int:=⟨1,Kh,Ux,[.v (.int .u8 0)]⟩
def pQ (l:List Int):AV:= .sl 1 false (l.map Kh) [.v (.int .u8 0)]
def Yf (l:List Int):AV:= .sl 1 true (l.map Kh) [.v (.int .u8 0)]
attribute [go_sem] pP pQ Yf Kh Ux lQ lR
theorem pU (l:List Int):(l.map Kh).map KO=l.map fun x=>UInt8.ofNat x.toNat:=by rw[List.map_map];rfl
theorem pW (l:List Int):(l.map Kh).all isB=true:=by induction l with|nil=>rfl|cons x l ih=>simp[Kh,isB]
attribute [local go_sem] List.all_append isB KO pU pW
def EK (N:Nat) (n1:Int):Option Int:=
 bif decide (n1<0) then(
  gd (I64 (-n1))<|
  gd (IntKind.wrap .u64 ((IntKind.wrap .u64 (-n1))*2)=((IntKind.wrap .u64 (-n1))*2))<|
  gd (IntKind.wrap .u64 (((IntKind.wrap .u64 (-n1))*2)-1)=(((IntKind.wrap .u64 (-n1))*2)-1))<|
  some (((IntKind.wrap .u64 (-n1))*2)-1))
 else(
  gd (IntKind.wrap .u64 ((IntKind.wrap .u64 n1)*2)=((IntKind.wrap .u64 n1)*2))<|
  some ((IntKind.wrap .u64 n1)*2))
@[go_sem] def pX (N:Nat):Spec:=p0<|pI fun n1=>pE<|pF (EK N n1) 0 fun r=> .v (.int .u64 r)
def Dc (N:Nat):Nat→Int→(List Int)→Option (Int×(List Int))
 |0,_,_=>none
 |n+1,z10,l11=>
  bif decide (128≤z10) then(
   gd (IntKind.wrap .u64 ((z10.tmod 128)+128)=((z10.tmod 128)+128))<|
   gd ((l11.length+1)*1≤140737488355328)<|
   gd (IntKind.wrap .u64 (z10.tdiv 128)=(z10.tdiv 128))<|
   Dc N n (z10.tdiv 128) (l11++[IntKind.wrap .u8 ((z10.tmod 128)+128)]))
  else(
   some (z10,l11))
def CM (N:Nat) (n2:Int):Option ((List UInt8)×Int):=
 bif (decide (n2<(-4611686018427387903)))||(decide (4611686018427387903<n2)) then(
  some ([],10))
 else(
  (EK N n2).bind fun r3=>
  (Dc N N r3 []).bind fun(dq,l17)=>
  gd ((l17.length+1)*1≤140737488355328)<|
  some ((l17++[IntKind.wrap .u8 dq]).map fun x=>UInt8.ofNat x.toNat,0))
@[go_sem] def s64 (N:Nat):Spec:=p0<|pI fun n2=>pE<|pF (CM N n2) ([],0) fun r=> .tup [.v (.string (sB r.1)),.i r.2]
def DW (N:Nat) (at20:Int) (s19:List UInt8):Nat→Int→Int→Option (Sum Unit ((Int×Int×Int)))
 |0,_,_=>none
 |n+1,am,ab=>
  gd ((decide (ab<9))=true→(I64 (at20+ab)))<|
  bif (decide (ab<9))&&(decide (at20+ab<(s19.length:Int))) then(
   gd (I64 (at20+ab))<|
   gd (0≤at20+ab∧at20+ab<(s19.length:Int))<|
   gd (I64 (7*ab))<|
   gd (0≤7*ab)<|
   gd (IntKind.wrap .u64 (am+(Cp .shl .u64 ((IntKind.wrap .u64 ((s19.getD (at20+ab).toNat 0).toNat:Int)).tmod 128) (7*ab)))=(am+(Cp .shl .u64 ((IntKind.wrap .u64 ((s19.getD (at20+ab).toNat 0).toNat:Int)).tmod 128) (7*ab))))<|
   bif decide (128≤IntKind.wrap .u64 ((s19.getD (at20+ab).toNat 0).toNat:Int)) then(
    gd (I64 (ab+1))<|
    DW N at20 s19 n (am+(Cp .shl .u64 ((IntKind.wrap .u64 ((s19.getD (at20+ab).toNat 0).toNat:Int)).tmod 128) (7*ab))) (ab+1))
   else(
    gd (IntKind.wrap .u64 ((am+(Cp .shl .u64 ((IntKind.wrap .u64 ((s19.getD (at20+ab).toNat 0).toNat:Int)).tmod 128) (7*ab))).tdiv 2)=((am+(Cp .shl .u64 ((IntKind.wrap .u64 ((s19.getD (at20+ab).toNat 0).toNat:Int)).tmod 128) (7*ab))).tdiv 2))<|
    (bif decide ((am+(Cp .shl .u64 ((IntKind.wrap .u64 ((s19.getD (at20+ab).toNat 0).toNat:Int)).tmod 128) (7*ab))).tmod 2=1) then(
      gd (I64 (-(IntKind.wrap .i64 ((am+(Cp .shl .u64 ((IntKind.wrap .u64 ((s19.getD (at20+ab).toNat 0).toNat:Int)).tmod 128) (7*ab))).tdiv 2))))<|
      gd (I64 ((-(IntKind.wrap .i64 ((am+(Cp .shl .u64 ((IntKind.wrap .u64 ((s19.getD (at20+ab).toNat 0).toNat:Int)).tmod 128) (7*ab))).tdiv 2)))-1))<|
      some ((-(IntKind.wrap .i64 ((am+(Cp .shl .u64 ((IntKind.wrap .u64 ((s19.getD (at20+ab).toNat 0).toNat:Int)).tmod 128) (7*ab))).tdiv 2)))-1))
     else(
      some (IntKind.wrap .i64 ((am+(Cp .shl .u64 ((IntKind.wrap .u64 ((s19.getD (at20+ab).toNat 0).toNat:Int)).tmod 128) (7*ab))).tdiv 2))):Option (Int)).bind fun cy=>
    (CM N cy).bind fun(dw,bm)=>
    gd ((!(decide (bm≠0)))=true→(I64 (at20+ab)))<|
    gd ((!(decide (bm≠0)))=true→(I64 ((at20+ab)+1)))<|
    gd ((!(decide (bm≠0)))=true→(0≤at20∧at20≤(at20+ab)+1∧(at20+ab)+1≤(s19.length:Int)))<|
    bif (decide (bm≠0))||(!decide (dw=(s19.drop at20.toNat).take (((at20+ab)+1).toNat-at20.toNat))) then(
     some (.inr (0,0,10)))
    else(
     gd (I64 (at20+ab))<|
     gd (I64 ((at20+ab)+1))<|
     some (.inr (cy,(at20+ab)+1,0)))))
  else(
   some (.inl ()))
def D5 (N:Nat) (s19:List UInt8) (at20:Int):Option (Int×Int×Int):=
 bif (decide (at20<0))||(decide ((s19.length:Int)<at20)) then(
  some (0,0,2))
 else(
  (DW N at20 s19 N 0 0).bind fun cr=>match cr with
   | .inl ()=>(
    some (0,0,10))
   | .inr r47=>(
    some r47))
@[go_sem] def s70 (N:Nat):Spec:=p0<|pT fun s19=>pI fun at20=>pE<|pF (D5 N s19 at20) (0,0,0) fun r=> .tup [.i r.1,.i r.2.1,.i r.2.2]
def Dd (N:Nat) (u52:List (Int×Int)):Nat→Int→(List Int)→Option ((List Int))
 |0,_,_=>none
 |n+1,bj,l63=>
  bif decide (bj<(u52.length:Int)) then(
   (nth u52 bj).bind fun(x64,x65)=>
   gd ((l63.length+2)*8≤140737488355328)<|
   gd (I64 (bj+1))<|
   Dd N u52 n (bj+1) (l63++[x64,x65]))
  else(
   some l63)
def De (N:Nat) (l71:List Int):Nat→(List UInt8)→Int→Option ((List UInt8))
 |0,_,_=>none
 |n+1,s80,bi=>
  bif decide (bi<(l71.length:Int)) then(
   (nth l71 bi).bind fun dt=>
   (CM N dt).bind fun(cj,e9)=>
   gd ((s80++cj).length≤140737488355328)<|
   gd (I64 (bi+1))<|
   De N l71 n (s80++cj) (bi+1))
  else(
   some s80)
def Di (N:Nat) (bb:Int) (ba:Int) (az:Int) (u52:List (Int×Int)) (ay:Int) (aw:Int):Option ((List UInt8)×Int):=
 (Bs N bb ba az u52 ay aw).bind fun du=>
 bif !du then(
  some ([],80))
 else(
  (Dd N u52 N 0 [bb,ba,az,ay,aw,(u52.length:Int)]).bind fun l71=>
  (De N l71 N [] 0).bind fun s91=>
  some (s91,0))
@[go_sem] def s65 (N:Nat):Spec:=p0<|pG<|pI fun bb=>pI fun ba=>pI fun az=>pS Ap fun u52=>pI fun ay=>pI fun aw=>pE<|pE<|pF (Di N bb ba az u52 ay aw) ([],0) fun r=> .tup [.v (.string (sB r.1)),.i r.2]
def Bh (N:Nat) (s93:List UInt8):Nat→Int→Int→(List Int)→Option (Sum (Int×(List Int)) (((Int×Int×Int×(List (Int×Int))×Int×Int)×Int)))
 |0,_,_,_=>none
 |n+1,an,af,l108=>
  gd ((!(decide (af<6)))=true→(0≤5∧5<(l108.length:Int)))<|
  gd ((!(decide (af<6)))=true→(0≤5∧5<(l108.length:Int)))<|
  gd ((!(decide (af<6)))=true→(I64 (2*(l108.getD 5 0))))<|
  gd ((!(decide (af<6)))=true→(I64 (6+(2*(l108.getD 5 0)))))<|
  bif (decide (af<6))||(decide (af<6+(2*(l108.getD 5 0)))) then(
   (D5 N s93 an).bind fun(aq,be,bo)=>
   bif (decide (bo≠0))||((decide (af=5))&&((decide (aq<3))||(decide (8<aq)))) then(
    some (.inr ((0,0,0,[],0,0),80)))
   else(
    gd ((l108.length+1)*8≤140737488355328)<|
    gd (I64 (af+1))<|
    Bh N s93 n be (af+1) (l108++[aq])))
  else(
   some (.inl (an,l108)))
def CI (N:Nat) (l119:List Int):Nat→Int→(List (Int×Int))→Option ((List (Int×Int)))
 |0,_,_=>none
 |n+1,ah,l146=>
  bif decide (ah<(l119.length:Int)) then(
   (nth l119 ah).bind fun x147=>
   gd (I64 (ah+1))<|
   (nth l119 (ah+1)).bind fun x149=>
   gd ((l146.length+1)*16≤140737488355328)<|
   gd (I64 (ah+2))<|
   CI N l119 n (ah+2) (l146++[(x147,x149)]))
  else(
   some l146)
def EL (N:Nat) (s93:List UInt8):Option ((Int×Int×Int×(List (Int×Int))×Int×Int)×Int):=
 (Bh N s93 N 0 0 []).bind fun bg=>match bg with
  | .inl (aj,l119)=>(
   (nth l119 0).bind fun x122=>
   (nth l119 1).bind fun x124=>
   (nth l119 2).bind fun NJ=>
   (nth l119 3).bind fun x128=>
   (nth l119 4).bind fun Ij=>
   (CI N l119 N 6 []).bind fun av=>
   gd ((!(decide (aj≠(s93.length:Int))))=true→((Bs N x122 x124 NJ av x128 Ij).isSome=true))<|
   bif (decide (aj≠(s93.length:Int)))||(!((Bs N x122 x124 NJ av x128 Ij).getD false)) then(
    some ((0,0,0,[],0,0),80))
   else(
    some ((x122,x124,NJ,av,x128,Ij),0)))
  | .inr cq=>(
   some cq)
@[go_sem] def s72 (N:Nat):Spec:=p0<|pT fun s93=>pE<|pF (EL N s93) ((0,0,0,[],0,0),0) fun r=> .tup [.agg [.i r.1.1,.i r.1.2.1,.i r.1.2.2.1,A1 r.1.2.2.2.1,.i r.1.2.2.2.2.1,.i r.1.2.2.2.2.2],.i r.2]
end Go.Proofs.YtciphecegkfaiaaGreat.Am
