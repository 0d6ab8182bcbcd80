import Derived.Test.YtciphecegkfaiaaGreatDC
namespace Go.Proofs.YtciphecegkfaiaaGreat.Am
open Go
attribute [local irreducible] awp B5 BR Bx B3 Bw Bn BS B1 itK
set_option maxRecDepth 100000
set_option maxHeartbeats 8000000
set_option linter.unusedSimpArgs false
set_option linter.unusedVariables false
def Dn (N:Nat) (ck:Int) (aj:Int) (aa:Int):Option Bool:=
 some ((decide (aj≤ck))&&(decide (ck≤aa)))
@[go_sem] def s97 (N:Nat):Spec:=p0<|pI fun ck=>pI fun aj=>pI fun aa=>pE<|pF (Dn N ck aj aa) false fun r=> .b r
theorem Y0 (N:Nat):FOK Tryz.prog 97 (s97 N):=by
 refine Al x97.ok<|Ac fun ck=>Ac fun aj=>Ac fun aa=>Ah<|An fun r h=>wx x97 (Aj) fun _ hS F=> ?_
 dsimp only[x97,mkX]
 unfold Dn at h
 exact Ad hS F h
def BA (N:Nat) (dw:Int) (aw:Int) (bo:Int) (ci:List (Int×Int)) (av:Int) (au:Int):Option Bool:=
 (Dn N dw 0 99).bind fun cj=>
 gd (cj=true→((Dn N aw 1 8).isSome=true))<|
 gd ((cj&&((Dn N aw 1 8).getD false))=true→((Dn N bo 0 7).isSome=true))<|
 gd ((((((cj&&((Dn N aw 1 8).getD false))&&((Dn N bo 0 7).getD false))&&(decide (0≤av)))&&(decide (av<au)))&&(decide (au≤8)))=true→((BC N ci).isSome=true))<|
 some ((((((cj&&((Dn N aw 1 8).getD false))&&((Dn N bo 0 7).getD false))&&(decide (0≤av)))&&(decide (av<au)))&&(decide (au≤8)))&&((BC N ci).getD false))
@[go_sem] def s43 (N:Nat):Spec:=p0<|pG<|pI fun dw=>pI fun aw=>pI fun bo=>pS Ap fun ci=>pI fun av=>pI fun au=>pE<|pE<|pF (BA N dw aw bo ci av au) false fun r=> .b r
theorem JQ (N:Nat):FOK Tryz.prog 43 (s43 N):=by
 refine Al x43.ok<|AW<|Ac fun dw=>Ac fun aw=>Ac fun bo=>A3 fun ci=>Ac fun av=>Ac fun au=>Ah<|Ah<|An fun r h=>wx x43 (Aa (Y0 N)<|Aa (KF N)<|Aj) fun _ hS F=> ?_
 dsimp only[x43,mkX,Ap]
 unfold BA at h
 obtain⟨cj,ip,g8,i8,i7,h⟩:=un h
 exact Ad hS (fc ip F) h
def FU (N:Nat) (du:Int) (dt:Int) (dq:Int) (dp:List (Int×Int)) (bm:Int) (bj:Int):Option Int:=
 (BA N du dt dq dp bm bj).bind fun gz=>
 bif !gz then(
  some 0)
 else(
  gd (I64 (bj-bm))<|
  some (bj-bm))
@[go_sem] def s84 (N:Nat):Spec:=p0<|pG<|pI fun du=>pI fun dt=>pI fun dq=>pS Ap fun dp=>pI fun bm=>pI fun bj=>pE<|pE<|pF (FU N du dt dq dp bm bj) 0 fun r=> .i r
theorem lN (N:Nat):FOK Tryz.prog 84 (s84 N):=by
 refine Al x84.ok<|AW<|Ac fun du=>Ac fun dt=>Ac fun dq=>A3 fun dp=>Ac fun bm=>Ac fun bj=>Ah<|Ah<|An fun r h=>wx x84 (Aa (JQ N)<|Aj) fun _ hS F=> ?_
 dsimp only[x84,mkX,Ap]
 unfold FU at h
 obtain⟨gz,im,h⟩:=un h
 replace F:=fc im F
 refine gcb hS F h (fun _ h=> ?_) (fun _ h=> ?_)
 ·exact Ad hS F h
 ·obtain⟨g8,h⟩:=un h
  exact Ad hS F h
def CJ (N:Nat) (dm:Int) (dl:Int) (dh:Int) (ce:List (Int×Int)) (dg:Int) (de:Int):Option Int:=
 (Fx N ce).bind fun fx=>
 (FU N dm dl dh ce dg de).bind fun fr=>
 gd (I64 (fx*fr))<|
 some (fx*fr)
@[go_sem] def s26 (N:Nat):Spec:=p0<|pG<|pI fun dm=>pI fun dl=>pI fun dh=>pS Ap fun ce=>pI fun dg=>pI fun de=>pE<|pE<|pF (CJ N dm dl dh ce dg de) 0 fun r=> .i r
theorem Y2 (N:Nat):FOK Tryz.prog 26 (s26 N):=by
 refine Al x26.ok<|AW<|Ac fun dm=>Ac fun dl=>Ac fun dh=>A3 fun ce=>Ac fun dg=>Ac fun de=>Ah<|Ah<|An fun r h=>wx x26 (Aa (lG N)<|Aa (lN N)<|Aj) fun _ hS F=> ?_
 dsimp only[x26,mkX,Ap]
 unfold CJ at h
 obtain⟨fx,il,fr,ij,g8,h⟩:=un h
 exact Ad hS (fc ij (fc il F)) h
def EQ (N:Nat) (bw:Int) (bv:Int) (bu:Int) (br:List (Int×Int)) (ai:Int) (ah:Int) (cy:Int) (cu:Int) (cr:Int) (cq:List (Int×Int)) (am:Int) (ak:Int):Option (Int×Int×Bool):=
 gd ((decide (max ai am<min ah ak))=true→((BA N bw bv bu br ai ah).isSome=true))<|
 gd (((decide (max ai am<min ah ak))&&((BA N bw bv bu br ai ah).getD false))=true→((BA N cy cu cr cq am ak).isSome=true))<|
 some (max ai am,min ah ak,((decide (max ai am<min ah ak))&&((BA N bw bv bu br ai ah).getD false))&&((BA N cy cu cr cq am ak).getD false))
@[go_sem] def s80 (N:Nat):Spec:=p0<|pG<|pI fun bw=>pI fun bv=>pI fun bu=>pS Ap fun br=>pI fun ai=>pI fun ah=>pE<|pG<|pI fun cy=>pI fun cu=>pI fun cr=>pS Ap fun cq=>pI fun am=>pI fun ak=>pE<|pE<|pF (EQ N bw bv bu br ai ah cy cu cr cq am ak) (0,0,false) fun r=> .tup [.i r.1,.i r.2.1,.b r.2.2]
theorem Y3 (N:Nat):FOK Tryz.prog 80 (s80 N):=by
 refine Al x80.ok<|AW<|Ac fun bw=>Ac fun bv=>Ac fun bu=>A3 fun br=>Ac fun ai=>Ac fun ah=>Ah<|AW<|Ac fun cy=>Ac fun cu=>Ac fun cr=>A3 fun cq=>Ac fun am=>Ac fun ak=>Ah<|Ah<|An fun r h=>wx x80 (Aa (JQ N)<|Aj) fun _ hS F=> ?_
 dsimp only[x80,mkX,Ap]
 unfold EQ at h
 obtain⟨g8,i8,h⟩:=un h
 exact Ad hS F h
def Cz (N:Nat) (fj:Int) (fh:Int) (fg:Int) (bq:List (Int×Int)) (fb:Int) (e9:Int) (ej:Int) (ei:Int) (eh:Int) (bp:List (Int×Int)) (d9:Int) (d8:Int):Option Bool:=
 (EQ N fj fh fg bq fb e9 ej ei eh bp d9 d8).bind fun(iy,iw,fq)=>
 gd (fq=true→((CL N bq bp).isSome=true))<|
 some (fq&&((CL N bq bp).getD false))
@[go_sem] def s23 (N:Nat):Spec:=p0<|pG<|pI fun fj=>pI fun fh=>pI fun fg=>pS Ap fun bq=>pI fun fb=>pI fun e9=>pE<|pG<|pI fun ej=>pI fun ei=>pI fun eh=>pS Ap fun bp=>pI fun d9=>pI fun d8=>pE<|pE<|pF (Cz N fj fh fg bq fb e9 ej ei eh bp d9 d8) false fun r=> .b r
theorem Uv (N:Nat):FOK Tryz.prog 23 (s23 N):=by
 refine Al x23.ok<|AW<|Ac fun fj=>Ac fun fh=>Ac fun fg=>A3 fun bq=>Ac fun fb=>Ac fun e9=>Ah<|AW<|Ac fun ej=>Ac fun ei=>Ac fun eh=>A3 fun bp=>Ac fun d9=>Ac fun d8=>Ah<|Ah<|An fun r h=>wx x23 (Aa (Y3 N)<|Aa (YZ N)<|Aj) fun _ hS F=> ?_
 dsimp only[x23,mkX,Ap]
 unfold Cz at h
 obtain⟨⟨iy,iw,fq⟩,ig,h⟩:=un h
 obtain⟨g8,h⟩:=un h
 exact Ad hS (fc ig F) h
def Eg (N:Nat) (db:Int) (e8:Int) (ez:Int) (cz:List (Int×Int)) (eu:Int) (em:Int) (co:Int) (d7:Int) (d6:Int) (cn:List (Int×Int)) (d5:Int) (dz:Int):Option ((Int×Int×((Int×Int)×(Int×Int))×Int×Int)×Bool):=
 (EQ N db e8 ez cz eu em co d7 d6 cn d5 dz).bind fun(gy,gx,gw)=>
 bif !gw then(
  some ((0,0,((0,0),(0,0)),0,0),false))
 else(
  (Fb N cz cn).bind fun(((gu,gt),(gr,gj)),gi)=>
  bif !gi then(
   some ((0,0,((0,0),(0,0)),0,0),false))
  else(
   some ((db,co,((gu,gt),(gr,gj)),gy,gx),true)))
@[go_sem] def s32 (N:Nat):Spec:=p0<|pG<|pI fun db=>pI fun e8=>pI fun ez=>pS Ap fun cz=>pI fun eu=>pI fun em=>pE<|pG<|pI fun co=>pI fun d7=>pI fun d6=>pS Ap fun cn=>pI fun d5=>pI fun dz=>pE<|pE<|pF (Eg N db e8 ez cz eu em co d7 d6 cn d5 dz) ((0,0,((0,0),(0,0)),0,0),false) fun r=> .tup [.agg [.i r.1.1,.i r.1.2.1,.i r.1.2.2.1.1.1,.i r.1.2.2.1.1.2,.i r.1.2.2.1.2.1,.i r.1.2.2.1.2.2,.i r.1.2.2.2.1,.i r.1.2.2.2.2],.b r.2]
theorem QS (N:Nat):FOK Tryz.prog 32 (s32 N):=by
 refine Al x32.ok<|AW<|Ac fun db=>Ac fun e8=>Ac fun ez=>A3 fun cz=>Ac fun eu=>Ac fun em=>Ah<|AW<|Ac fun co=>Ac fun d7=>Ac fun d6=>A3 fun cn=>Ac fun d5=>Ac fun dz=>Ah<|Ah<|An fun r h=>wx x32 (Aa (Y3 N)<|Aa (lI N)<|Aj) fun _ hS F=> ?_
 dsimp only[x32,mkX,Ap]
 unfold Eg at h
 obtain⟨⟨gy,gx,gw⟩,ie,h⟩:=un h
 replace F:=fc ie F
 refine gcb hS F h (fun _ h=> ?_) (fun _ h=> ?_)
 ·exact Ad hS F h
 ·obtain⟨⟨⟨⟨gu,gt⟩,⟨gr,gj⟩⟩,gi⟩,ic,h⟩:=un h
  replace F:=fc ic F
  refine gcb hS F h (fun _ h=> ?_) (fun _ h=> ?_)
  ·exact Ad hS F h
  ·exact Ad hS F h
def Dh (N:Nat) (u534:List (Int×Int)) (af:Int) (ae:Int) (ab:Int):Nat→Int→Option (Sum Unit (((Int×Int×((Int×Int)×(Int×Int))×Int×Int)×Bool)))
 |0,_=>none
 |n+1,an=>
  bif decide (an<(u534.length:Int)) then(
   (nth u534 an).bind fun(gf,fo)=>
   gd (I64 (an+1))<|
   gd ((u534.length:Int)≠0)<|
   (nth u534 ((an+1).tmod (u534.length:Int))).bind fun(gc,fm)=>
   bif (decide (fo=0))&&(decide (fm=0)) then(
    some (.inr ((af,(-1),((gf,fo),(gc,fm)),ae,ab),true)))
   else(
    gd (I64 (an+1))<|
    Dh N u534 af ae ab n (an+1)))
  else(
   some (.inl ()))
def Dl (N:Nat) (af:Int) (b9:Int) (bz:Int) (u534:List (Int×Int)) (ae:Int) (ab:Int):Option ((Int×Int×((Int×Int)×(Int×Int))×Int×Int)×Bool):=
 (BA N af b9 bz u534 ae ab).bind fun gh=>
 bif !gh then(
  some ((0,0,((0,0),(0,0)),0,0),false))
 else(
  (Dh N u534 af ae ab N 0).bind fun fy=>match fy with
   | .inl ()=>(
    some ((0,0,((0,0),(0,0)),0,0),false))
   | .inr iv=>(
    some iv))
@[go_sem] def s31 (N:Nat):Spec:=p0<|pG<|pI fun af=>pI fun b9=>pI fun bz=>pS Ap fun u534=>pI fun ae=>pI fun ab=>pE<|pE<|pF (Dl N af b9 bz u534 ae ab) ((0,0,((0,0),(0,0)),0,0),false) fun r=> .tup [.agg [.i r.1.1,.i r.1.2.1,.i r.1.2.2.1.1.1,.i r.1.2.2.1.1.2,.i r.1.2.2.1.2.1,.i r.1.2.2.1.2.2,.i r.1.2.2.2.1,.i r.1.2.2.2.2],.b r.2]
theorem QT (N:Nat):FOK Tryz.prog 31 (s31 N):=by
 refine Al x31.ok<|AW<|Ac fun af=>Ac fun b9=>Ac fun bz=>A3 fun u534=>Ac fun ae=>Ac fun ab=>Ah<|Ah<|An fun r h=>wx x31 (Aa (JQ N)<|Aj) fun _ hS F=> ?_
 dsimp only[x31,mkX,Ap]
 unfold Dl at h
 obtain⟨gh,ib,h⟩:=un h
 replace F:=fc ib F
 refine gcb hS F h (fun _ h=> ?_) (fun _ h=> ?_)
 ·exact Ad hS F h
 ·obtain⟨fy,i9,h⟩:=un h
  refine go hS F ?_
  refine Au fy (fun z:Nat=>⟨[(2,.box (1,1) 0)],[(.c (1,1) 0,.i 0),(.c (1,1) 1,.i 0),(.c (1,1) 2,.i 0),(.c (1,1) 3,.i 0),(.c (1,1) 4,.i 0),(.c (1,1) 5,.i 0),(.c (1,1) 6,.i 0),(.c (1,1) 7,.i 0)],z⟩) (fun z=>(.inl ():Sum Unit (((Int×Int×((Int×Int)×(Int×Int))×Int×Int)×Bool)))) (.x 0) ?_ ?_
  ·refine Aq (fun n (y:Int×Nat)=>Dh N u534 af ae ab n y.1) (fun y=>⟨[(1,.box (0,1) 0),(2,.box (1,1) 0),(12,A1 u534),(13,.i (u534.length:Int)),(14,.i y.1)],[(.c (1,1) 0,.i 0),(.c (1,1) 1,.i 0),(.c (1,1) 2,.i 0),(.c (1,1) 3,.i 0),(.c (1,1) 4,.i 0),(.c (1,1) 5,.i 0),(.c (1,1) 6,.i 0),(.c (1,1) 7,.i 0),(.c (0,1) 0,.i af),(.c (0,1) 1,.i b9),(.c (0,1) 2,.i bz),(.c (0,1) 3,A1 u534),(.c (0,1) 4,.i ae),(.c (0,1) 5,.i ab)],y.2⟩) (0,3) i9 (leF F) ?_
   rintro n ⟨an,iu⟩ aq
   simp only[Dh] at aq
   refine gcb hS F aq (fun _ aq=> ?_) (fun _ aq=> ?_)
   ·obtain⟨⟨gf,fo⟩,ir,aq⟩:=un aq
    obtain⟨i6,F⟩:=rqG Br ir F
    obtain⟨i7,jc,⟨gc,fm⟩,iq,aq⟩:=un aq
    obtain⟨iz,F⟩:=rqG Br iq F
    refine gcb hS F aq (fun _ aq=> ?_) (fun _ aq=> ?_)
    ·obtain rfl:=yJ aq
     exact Ad hS F h
    ·obtain⟨jb,aq⟩:=un aq
     exact gbk hS F (n,an+1,iu+1+1+1+1+1) aq
   ·exact gck hS F (iu+1) aq
  ·rintro ja rfl
   exact Ad hS F h
def H5 (N:Nat) (bi:Int) (bh:Int) (bg:Int) (be:List (Int×Int)) (bb:Int) (ba:Int) (az:Int) (ay:Int):Option ((Int×Int×Int×(List (Int×Int))×Int×Int)×Int):=
 (E9 N be az ay).bind fun(gg,fp)=>
 gd ((!(decide (fp≠0)))=true→((BA N bi bh bg be bb ba).isSome=true))<|
 bif (decide (fp≠0))||(!((BA N bi bh bg be bb ba).getD false)) then(
  some ((0,0,0,[],0,0),80))
 else(
  some ((bi,bh,bg,gg,bb,ba),0))
@[go_sem] def s93 (N:Nat):Spec:=p0<|pG<|pI fun bi=>pI fun bh=>pI fun bg=>pS Ap fun be=>pI fun bb=>pI fun ba=>pE<|pI fun az=>pI fun ay=>pE<|pF (H5 N bi bh bg be bb ba az ay) ((0,0,0,[],0,0),0) fun r=> .tup [.agg [.i r.1.1,.i r.1.2.1,.i r.1.2.2.1,A1 r.1.2.2.2.1,.i r.1.2.2.2.2.1,.i r.1.2.2.2.2.2],.i r.2]
theorem lO (N:Nat):FOK Tryz.prog 93 (s93 N):=by
 refine Al x93.ok<|AW<|Ac fun bi=>Ac fun bh=>Ac fun bg=>A3 fun be=>Ac fun bb=>Ac fun ba=>Ah<|Ac fun az=>Ac fun ay=>Ah<|An fun r h=>wx x93 (Aa (gH N)<|Aa (JQ N)<|Aj) fun _ hS F=> ?_
 dsimp only[x93,mkX,Ap]
 unfold H5 at h
 obtain⟨⟨gg,fp⟩,g9,h⟩:=un h
 obtain⟨g8,h⟩:=un h
 replace F:=fc g9 F
 refine gcb hS F h (fun _ h=> ?_) (fun _ h=> ?_)
 ·exact Ad hS F h
 ·exact Ad hS F h
end Go.Proofs.YtciphecegkfaiaaGreat.Am
