import Derived.Test.YtciphecegkfaiaaGreatD8
namespace Go.Proofs.YtciphecegkfaiaaGreat.Am
open Go
attribute [local irreducible] awp B5 BR Bx B3 Bw Bn BS B1 itK
set_option maxRecDepth 100000
set_option maxHeartbeats 8000000
set_option linter.unusedSimpArgs false
set_option linter.unusedVariables false
def Dn (N:Nat) (cu:Int) (ak:Int) (aa:Int):Option Bool:=
 some ((decide (ak≤cu))&&(decide (cu≤aa)))
@[go_sem] def s97 (N:Nat):Spec:=p0<|pI fun cu=>pI fun ak=>pI fun aa=>pE<|pF (Dn N cu ak aa) false fun r=> .b r
theorem Y0 (N:Nat):FOK Tryz.prog 97 (s97 N):=by
 refine Al x97.ok<|Ac fun cu=>Ac fun ak=>Ac fun aa=>Ah<|An fun r h=>wx x97 (Aj) fun _ hS F=> ?_
 dsimp only[x97,mkX]
 unfold Dn at h
 exact Ad hS F h
def BA (N:Nat) (d8:Int) (ay:Int) (bq:Int) (cq:List (Int×Int)) (aw:Int) (av:Int):Option Bool:=
 (Dn N d8 0 99).bind fun cr=>
 gd (cr=true→((Dn N ay 1 8).isSome=true))<|
 gd ((cr&&((Dn N ay 1 8).getD false))=true→((Dn N bq 0 7).isSome=true))<|
 gd ((((((cr&&((Dn N ay 1 8).getD false))&&((Dn N bq 0 7).getD false))&&(decide (0≤aw)))&&(decide (aw<av)))&&(decide (av≤8)))=true→((BC N cq).isSome=true))<|
 some ((((((cr&&((Dn N ay 1 8).getD false))&&((Dn N bq 0 7).getD false))&&(decide (0≤aw)))&&(decide (aw<av)))&&(decide (av≤8)))&&((BC N cq).getD false))
@[go_sem] def s43 (N:Nat):Spec:=p0<|pG<|pI fun d8=>pI fun ay=>pI fun bq=>pS Ap fun cq=>pI fun aw=>pI fun av=>pE<|pE<|pF (BA N d8 ay bq cq aw av) false fun r=> .b r
theorem JQ (N:Nat):FOK Tryz.prog 43 (s43 N):=by
 refine Al x43.ok<|AW<|Ac fun d8=>Ac fun ay=>Ac fun bq=>A3 fun cq=>Ac fun aw=>Ac fun av=>Ah<|Ah<|An fun r h=>wx x43 (Aa (Y0 N)<|Aa (KF N)<|Aj) fun _ hS F=> ?_
 dsimp only[x43,mkX,Ap]
 unfold BA at h
 obtain⟨cr,jk,jb,jv,ju,h⟩:=un h
 exact Ad hS (fc jk F) h
def FU (N:Nat) (d7:Int) (d6:Int) (d5:Int) (dz:List (Int×Int)) (bp:Int) (bo:Int):Option Int:=
 (BA N d7 d6 d5 dz bp bo).bind fun ja=>
 bif !ja then(
  some 0)
 else(
  gd (I64 (bo-bp))<|
  some (bo-bp))
@[go_sem] def s84 (N:Nat):Spec:=p0<|pG<|pI fun d7=>pI fun d6=>pI fun d5=>pS Ap fun dz=>pI fun bp=>pI fun bo=>pE<|pE<|pF (FU N d7 d6 d5 dz bp bo) 0 fun r=> .i r
theorem lN (N:Nat):FOK Tryz.prog 84 (s84 N):=by
 refine Al x84.ok<|AW<|Ac fun d7=>Ac fun d6=>Ac fun d5=>A3 fun dz=>Ac fun bp=>Ac fun bo=>Ah<|Ah<|An fun r h=>wx x84 (Aa (JQ N)<|Aj) fun _ hS F=> ?_
 dsimp only[x84,mkX,Ap]
 unfold FU at h
 obtain⟨ja,jj,h⟩:=un h
 replace F:=fc jj F
 refine gcb hS F h (fun _ h=> ?_) (fun _ h=> ?_)
 ·exact Ad hS F h
 ·obtain⟨jb,h⟩:=un h
  exact Ad hS F h
def CJ (N:Nat) (dw:Int) (du:Int) (dt:Int) (co:List (Int×Int)) (dq:Int) (dp:Int):Option Int:=
 (Fx N co).bind fun ic=>
 (FU N dw du dt co dq dp).bind fun ib=>
 gd (I64 (ic*ib))<|
 some (ic*ib)
@[go_sem] def s26 (N:Nat):Spec:=p0<|pG<|pI fun dw=>pI fun du=>pI fun dt=>pS Ap fun co=>pI fun dq=>pI fun dp=>pE<|pE<|pF (CJ N dw du dt co dq dp) 0 fun r=> .i r
theorem Y2 (N:Nat):FOK Tryz.prog 26 (s26 N):=by
 refine Al x26.ok<|AW<|Ac fun dw=>Ac fun du=>Ac fun dt=>A3 fun co=>Ac fun dq=>Ac fun dp=>Ah<|Ah<|An fun r h=>wx x26 (Aa (lG N)<|Aa (lN N)<|Aj) fun _ hS F=> ?_
 dsimp only[x26,mkX,Ap]
 unfold CJ at h
 obtain⟨ic,ji,ib,jh,jb,h⟩:=un h
 exact Ad hS (fc jh (fc ji F)) h
def EQ (N:Nat) (b9:Int) (bz:Int) (bw:Int) (bv:List (Int×Int)) (aj:Int) (ai:Int) (dh:Int) (dg:Int) (de:Int) (db:List (Int×Int)) (an:Int) (am:Int):Option (Int×Int×Bool):=
 gd ((decide (max aj an<min ai am))=true→((BA N b9 bz bw bv aj ai).isSome=true))<|
 gd (((decide (max aj an<min ai am))&&((BA N b9 bz bw bv aj ai).getD false))=true→((BA N dh dg de db an am).isSome=true))<|
 some (max aj an,min ai am,((decide (max aj an<min ai am))&&((BA N b9 bz bw bv aj ai).getD false))&&((BA N dh dg de db an am).getD false))
@[go_sem] def s80 (N:Nat):Spec:=p0<|pG<|pI fun b9=>pI fun bz=>pI fun bw=>pS Ap fun bv=>pI fun aj=>pI fun ai=>pE<|pG<|pI fun dh=>pI fun dg=>pI fun de=>pS Ap fun db=>pI fun an=>pI fun am=>pE<|pE<|pF (EQ N b9 bz bw bv aj ai dh dg de db an am) (0,0,false) fun r=> .tup [.i r.1,.i r.2.1,.b r.2.2]
theorem Y3 (N:Nat):FOK Tryz.prog 80 (s80 N):=by
 refine Al x80.ok<|AW<|Ac fun b9=>Ac fun bz=>Ac fun bw=>A3 fun bv=>Ac fun aj=>Ac fun ai=>Ah<|AW<|Ac fun dh=>Ac fun dg=>Ac fun de=>A3 fun db=>Ac fun an=>Ac fun am=>Ah<|Ah<|An fun r h=>wx x80 (Aa (JQ N)<|Aj) fun _ hS F=> ?_
 dsimp only[x80,mkX,Ap]
 unfold EQ at h
 obtain⟨jb,jv,h⟩:=un h
 exact Ad hS F h
def Cz (N:Nat) (gx:Int) (gw:Int) (gu:Int) (bu:List (Int×Int)) (gt:Int) (gj:Int) (fq:Int) (fj:Int) (fh:Int) (br:List (Int×Int)) (fg:Int) (fb:Int):Option Bool:=
 (EQ N gx gw gu bu gt gj fq fj fh br fg fb).bind fun(jr,jq,g9)=>
 gd (g9=true→((CL N bu br).isSome=true))<|
 some (g9&&((CL N bu br).getD false))
@[go_sem] def s23 (N:Nat):Spec:=p0<|pG<|pI fun gx=>pI fun gw=>pI fun gu=>pS Ap fun bu=>pI fun gt=>pI fun gj=>pE<|pG<|pI fun fq=>pI fun fj=>pI fun fh=>pS Ap fun br=>pI fun fg=>pI fun fb=>pE<|pE<|pF (Cz N gx gw gu bu gt gj fq fj fh br fg fb) false fun r=> .b r
theorem Uv (N:Nat):FOK Tryz.prog 23 (s23 N):=by
 refine Al x23.ok<|AW<|Ac fun gx=>Ac fun gw=>Ac fun gu=>A3 fun bu=>Ac fun gt=>Ac fun gj=>Ah<|AW<|Ac fun fq=>Ac fun fj=>Ac fun fh=>A3 fun br=>Ac fun fg=>Ac fun fb=>Ah<|Ah<|An fun r h=>wx x23 (Aa (Y3 N)<|Aa (YZ N)<|Aj) fun _ hS F=> ?_
 dsimp only[x23,mkX,Ap]
 unfold Cz at h
 obtain⟨⟨jr,jq,g9⟩,jg,h⟩:=un h
 obtain⟨jb,h⟩:=un h
 exact Ad hS (fc jg F) h
def Eg (N:Nat) (dm:Int) (gi:Int) (gh:Int) (dl:List (Int×Int)) (gf:Int) (gc:Int) (cz:Int) (e9:Int) (ez:Int) (cy:List (Int×Int)) (eh:Int) (d9:Int):Option ((Int×Int×((Int×Int)×(Int×Int))×Int×Int)×Bool):=
 (EQ N dm gi gh dl gf gc cz e9 ez cy eh d9).bind fun(i9,i8,i7)=>
 bif !i7 then(
  some ((0,0,((0,0),(0,0)),0,0),false))
 else(
  (Fb N dl cy).bind fun(((i6,iz),(iy,iw)),iv)=>
  bif !iv then(
   some ((0,0,((0,0),(0,0)),0,0),false))
  else(
   some ((dm,cz,((i6,iz),(iy,iw)),i9,i8),true)))
@[go_sem] def s32 (N:Nat):Spec:=p0<|pG<|pI fun dm=>pI fun gi=>pI fun gh=>pS Ap fun dl=>pI fun gf=>pI fun gc=>pE<|pG<|pI fun cz=>pI fun e9=>pI fun ez=>pS Ap fun cy=>pI fun eh=>pI fun d9=>pE<|pE<|pF (Eg N dm gi gh dl gf gc cz e9 ez cy eh d9) ((0,0,((0,0),(0,0)),0,0),false) fun r=> .tup [.agg [.i r.1.1,.i r.1.2.1,.i r.1.2.2.1.1.1,.i r.1.2.2.1.1.2,.i r.1.2.2.1.2.1,.i r.1.2.2.1.2.2,.i r.1.2.2.2.1,.i r.1.2.2.2.2],.b r.2]
theorem QS (N:Nat):FOK Tryz.prog 32 (s32 N):=by
 refine Al x32.ok<|AW<|Ac fun dm=>Ac fun gi=>Ac fun gh=>A3 fun dl=>Ac fun gf=>Ac fun gc=>Ah<|AW<|Ac fun cz=>Ac fun e9=>Ac fun ez=>A3 fun cy=>Ac fun eh=>Ac fun d9=>Ah<|Ah<|An fun r h=>wx x32 (Aa (Y3 N)<|Aa (lI N)<|Aj) fun _ hS F=> ?_
 dsimp only[x32,mkX,Ap]
 unfold Eg at h
 obtain⟨⟨i9,i8,i7⟩,jf,h⟩:=un h
 replace F:=fc jf F
 refine gcb hS F h (fun _ h=> ?_) (fun _ h=> ?_)
 ·exact Ad hS F h
 ·obtain⟨⟨⟨⟨i6,iz⟩,⟨iy,iw⟩⟩,iv⟩,je,h⟩:=un h
  replace F:=fc je F
  refine gcb hS F h (fun _ h=> ?_) (fun _ h=> ?_)
  ·exact Ad hS F h
  ·exact Ad hS F h
def Dh (N:Nat) (u534:List (Int×Int)) (ah:Int) (af:Int) (ae:Int):Nat→Int→Option (Sum Unit (((Int×Int×((Int×Int)×(Int×Int))×Int×Int)×Bool)))
 |0,_=>none
 |n+1,aq=>
  bif decide (aq<(u534.length:Int)) then(
   (nth u534 aq).bind fun(ij,gz)=>
   gd (I64 (aq+1))<|
   gd ((u534.length:Int)≠0)<|
   (nth u534 ((aq+1).tmod (u534.length:Int))).bind fun(ig,gy)=>
   bif (decide (gz=0))&&(decide (gy=0)) then(
    some (.inr ((ah,(-1),((ij,gz),(ig,gy)),af,ae),true)))
   else(
    gd (I64 (aq+1))<|
    Dh N u534 ah af ae n (aq+1)))
  else(
   some (.inl ()))
def Dl (N:Nat) (ah:Int) (ci:Int) (ce:Int) (u534:List (Int×Int)) (af:Int) (ae:Int):Option ((Int×Int×((Int×Int)×(Int×Int))×Int×Int)×Bool):=
 (BA N ah ci ce u534 af ae).bind fun iq=>
 bif !iq then(
  some ((0,0,((0,0),(0,0)),0,0),false))
 else(
  (Dh N u534 ah af ae N 0).bind fun ie=>match ie with
   | .inl ()=>(
    some ((0,0,((0,0),(0,0)),0,0),false))
   | .inr jp=>(
    some jp))
@[go_sem] def s31 (N:Nat):Spec:=p0<|pG<|pI fun ah=>pI fun ci=>pI fun ce=>pS Ap fun u534=>pI fun af=>pI fun ae=>pE<|pE<|pF (Dl N ah ci ce u534 af ae) ((0,0,((0,0),(0,0)),0,0),false) fun r=> .tup [.agg [.i r.1.1,.i r.1.2.1,.i r.1.2.2.1.1.1,.i r.1.2.2.1.1.2,.i r.1.2.2.1.2.1,.i r.1.2.2.1.2.2,.i r.1.2.2.2.1,.i r.1.2.2.2.2],.b r.2]
theorem QT (N:Nat):FOK Tryz.prog 31 (s31 N):=by
 refine Al x31.ok<|AW<|Ac fun ah=>Ac fun ci=>Ac fun ce=>A3 fun u534=>Ac fun af=>Ac fun ae=>Ah<|Ah<|An fun r h=>wx x31 (Aa (JQ N)<|Aj) fun _ hS F=> ?_
 dsimp only[x31,mkX,Ap]
 unfold Dl at h
 obtain⟨iq,jd,h⟩:=un h
 replace F:=fc jd F
 refine gcb hS F h (fun _ h=> ?_) (fun _ h=> ?_)
 ·exact Ad hS F h
 ·obtain⟨ie,jw,h⟩:=un h
  refine go hS F ?_
  refine Au ie (fun z:Nat=>⟨[(2,.box (1,1) 0)],[(.c (1,1) 0,.i 0),(.c (1,1) 1,.i 0),(.c (1,1) 2,.i 0),(.c (1,1) 3,.i 0),(.c (1,1) 4,.i 0),(.c (1,1) 5,.i 0),(.c (1,1) 6,.i 0),(.c (1,1) 7,.i 0)],z⟩) (fun z=>(.inl ():Sum Unit (((Int×Int×((Int×Int)×(Int×Int))×Int×Int)×Bool)))) (.x 0) ?_ ?_
  ·refine Aq (fun n (y:Int×Nat)=>Dh N u534 ah af ae n y.1) (fun y=>⟨[(1,.box (0,1) 0),(2,.box (1,1) 0),(12,A1 u534),(13,.i (u534.length:Int)),(14,.i y.1)],[(.c (1,1) 0,.i 0),(.c (1,1) 1,.i 0),(.c (1,1) 2,.i 0),(.c (1,1) 3,.i 0),(.c (1,1) 4,.i 0),(.c (1,1) 5,.i 0),(.c (1,1) 6,.i 0),(.c (1,1) 7,.i 0),(.c (0,1) 0,.i ah),(.c (0,1) 1,.i ci),(.c (0,1) 2,.i ce),(.c (0,1) 3,A1 u534),(.c (0,1) 4,.i af),(.c (0,1) 5,.i ae)],y.2⟩) (0,3) jw (leF F) ?_
   rintro n ⟨aq,jo⟩ au
   simp only[Dh] at au
   refine gcb hS F au (fun _ au=> ?_) (fun _ au=> ?_)
   ·obtain⟨⟨ij,gz⟩,jn,au⟩:=un au
    obtain⟨jt,F⟩:=rqG Br jn F
    obtain⟨ju,jz,⟨ig,gy⟩,jm,au⟩:=un au
    obtain⟨js,F⟩:=rqG Br jm F
    refine gcb hS F au (fun _ au=> ?_) (fun _ au=> ?_)
    ·obtain rfl:=yJ au
     exact Ad hS F h
    ·obtain⟨jy,au⟩:=un au
     exact gbk hS F (n,aq+1,jo+1+1+1+1+1) au
   ·exact gck hS F (jo+1) au
  ·rintro jx rfl
   exact Ad hS F h
def H5 (N:Nat) (bm:Int) (bj:Int) (bi:Int) (bh:List (Int×Int)) (bg:Int) (be:Int) (bb:Int) (az:Int):Option ((Int×Int×Int×(List (Int×Int))×Int×Int)×Int):=
 (E9 N bh bb az).bind fun(ip,g8)=>
 gd ((!(decide (g8≠0)))=true→((BA N bm bj bi bh bg be).isSome=true))<|
 bif (decide (g8≠0))||(!((BA N bm bj bi bh bg be).getD false)) then(
  some ((0,0,0,[],0,0),80))
 else(
  some ((bm,bj,bi,ip,bg,be),0))
@[go_sem] def s93 (N:Nat):Spec:=p0<|pG<|pI fun bm=>pI fun bj=>pI fun bi=>pS Ap fun bh=>pI fun bg=>pI fun be=>pE<|pI fun bb=>pI fun az=>pE<|pF (H5 N bm bj bi bh bg be bb az) ((0,0,0,[],0,0),0) fun r=> .tup [.agg [.i r.1.1,.i r.1.2.1,.i r.1.2.2.1,A1 r.1.2.2.2.1,.i r.1.2.2.2.2.1,.i r.1.2.2.2.2.2],.i r.2]
theorem lO (N:Nat):FOK Tryz.prog 93 (s93 N):=by
 refine Al x93.ok<|AW<|Ac fun bm=>Ac fun bj=>Ac fun bi=>A3 fun bh=>Ac fun bg=>Ac fun be=>Ah<|Ac fun bb=>Ac fun az=>Ah<|An fun r h=>wx x93 (Aa (gH N)<|Aa (JQ N)<|Aj) fun _ hS F=> ?_
 dsimp only[x93,mkX,Ap]
 unfold H5 at h
 obtain⟨⟨ip,g8⟩,jc,h⟩:=un h
 obtain⟨jb,h⟩:=un h
 replace F:=fc jc F
 refine gcb hS F h (fun _ h=> ?_) (fun _ h=> ?_)
 ·exact Ad hS F h
 ·exact Ad hS F h
end Go.Proofs.YtciphecegkfaiaaGreat.Am
