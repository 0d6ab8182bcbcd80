import Derived.Test.YtciphecegkfaiaaGreatD8
namespace Go.Proofs.YtciphecegkfaiaaGreat.Am
open Go
attribute [local irreducible] awp B5 BR Bx B3 Bw Bn BS B1 itK
set_option maxRecDepth 100000
set_option maxHeartbeats 8000000
set_option linter.unusedSimpArgs false
set_option linter.unusedVariables false
def Dn (N:Nat) (cy:Int) (ak:Int) (aa:Int):Option Bool:=
 some ((decide (ak≤cy))&&(decide (cy≤aa)))
@[go_sem] def s97 (N:Nat):Spec:=p0<|pI fun cy=>pI fun ak=>pI fun aa=>pE<|pF (Dn N cy ak aa) false fun r=> .b r
theorem Y0 (N:Nat):FOK Tryz.prog 97 (s97 N):=by
 refine Al x97.ok<|Ac fun cy=>Ac fun ak=>Ac fun aa=>Ah<|An fun r h=>wx x97 (Aj) fun _ hS F=> ?_
 dsimp only[x97,mkX]
 unfold Dn at h
 exact Ad hS F h
def BA (N:Nat) (d9:Int) (ay:Int) (bq:Int) (cr:List (Int×Int)) (aw:Int) (av:Int):Option Bool:=
 (Dn N d9 0 99).bind fun cu=>
 gd (cu=true→((Dn N ay 1 8).isSome=true))<|
 gd ((cu&&((Dn N ay 1 8).getD false))=true→((Dn N bq 0 7).isSome=true))<|
 gd ((((((cu&&((Dn N ay 1 8).getD false))&&((Dn N bq 0 7).getD false))&&(decide (0≤aw)))&&(decide (aw<av)))&&(decide (av≤8)))=true→((BC N cr).isSome=true))<|
 some ((((((cu&&((Dn N ay 1 8).getD false))&&((Dn N bq 0 7).getD false))&&(decide (0≤aw)))&&(decide (aw<av)))&&(decide (av≤8)))&&((BC N cr).getD false))
@[go_sem] def s43 (N:Nat):Spec:=p0<|pG<|pI fun d9=>pI fun ay=>pI fun bq=>pS Ap fun cr=>pI fun aw=>pI fun av=>pE<|pE<|pF (BA N d9 ay bq cr aw av) false fun r=> .b r
theorem JQ (N:Nat):FOK Tryz.prog 43 (s43 N):=by
 refine Al x43.ok<|AW<|Ac fun d9=>Ac fun ay=>Ac fun bq=>A3 fun cr=>Ac fun aw=>Ac fun av=>Ah<|Ah<|An fun r h=>wx x43 (Aa (Y0 N)<|Aa (KF N)<|Aj) fun _ hS F=> ?_
 dsimp only[x43,mkX,Ap]
 unfold BA at h
 obtain⟨cu,jn,jd,jx,jw,h⟩:=un h
 exact Ad hS (fc jn F) h
def FU (N:Nat) (d8:Int) (d7:Int) (d6:Int) (d5:List (Int×Int)) (bp:Int) (bo:Int):Option Int:=
 (BA N d8 d7 d6 d5 bp bo).bind fun jc=>
 bif !jc then(
  some 0)
 else(
  gd (I64 (bo-bp))<|
  some (bo-bp))
@[go_sem] def s84 (N:Nat):Spec:=p0<|pG<|pI fun d8=>pI fun d7=>pI fun d6=>pS Ap fun d5=>pI fun bp=>pI fun bo=>pE<|pE<|pF (FU N d8 d7 d6 d5 bp bo) 0 fun r=> .i r
theorem lN (N:Nat):FOK Tryz.prog 84 (s84 N):=by
 refine Al x84.ok<|AW<|Ac fun d8=>Ac fun d7=>Ac fun d6=>A3 fun d5=>Ac fun bp=>Ac fun bo=>Ah<|Ah<|An fun r h=>wx x84 (Aa (JQ N)<|Aj) fun _ hS F=> ?_
 dsimp only[x84,mkX,Ap]
 unfold FU at h
 obtain⟨jc,jm,h⟩:=un h
 replace F:=fc jm F
 refine gcb hS F h (fun _ h=> ?_) (fun _ h=> ?_)
 ·exact Ad hS F h
 ·obtain⟨jd,h⟩:=un h
  exact Ad hS F h
def CJ (N:Nat) (dz:Int) (dw:Int) (du:Int) (cq:List (Int×Int)) (dt:Int) (dq:Int):Option Int:=
 (Fx N cq).bind fun ig=>
 (FU N dz dw du cq dt dq).bind fun ie=>
 gd (I64 (ig*ie))<|
 some (ig*ie)
@[go_sem] def s26 (N:Nat):Spec:=p0<|pG<|pI fun dz=>pI fun dw=>pI fun du=>pS Ap fun cq=>pI fun dt=>pI fun dq=>pE<|pE<|pF (CJ N dz dw du cq dt dq) 0 fun r=> .i r
theorem Y2 (N:Nat):FOK Tryz.prog 26 (s26 N):=by
 refine Al x26.ok<|AW<|Ac fun dz=>Ac fun dw=>Ac fun du=>A3 fun cq=>Ac fun dt=>Ac fun dq=>Ah<|Ah<|An fun r h=>wx x26 (Aa (lG N)<|Aa (lN N)<|Aj) fun _ hS F=> ?_
 dsimp only[x26,mkX,Ap]
 unfold CJ at h
 obtain⟨ig,jk,ie,jj,jd,h⟩:=un h
 exact Ad hS (fc jj (fc jk F)) h
def EQ (N:Nat) (b9:Int) (bz:Int) (bw:Int) (bv:List (Int×Int)) (aj:Int) (ai:Int) (dl:Int) (dh:Int) (dg:Int) (de:List (Int×Int)) (an:Int) (am:Int):Option (Int×Int×Bool):=
 gd ((decide (max aj an<min ai am))=true→((BA N b9 bz bw bv aj ai).isSome=true))<|
 gd (((decide (max aj an<min ai am))&&((BA N b9 bz bw bv aj ai).getD false))=true→((BA N dl dh dg de an am).isSome=true))<|
 some (max aj an,min ai am,((decide (max aj an<min ai am))&&((BA N b9 bz bw bv aj ai).getD false))&&((BA N dl dh dg de an am).getD false))
@[go_sem] def s80 (N:Nat):Spec:=p0<|pG<|pI fun b9=>pI fun bz=>pI fun bw=>pS Ap fun bv=>pI fun aj=>pI fun ai=>pE<|pG<|pI fun dl=>pI fun dh=>pI fun dg=>pS Ap fun de=>pI fun an=>pI fun am=>pE<|pE<|pF (EQ N b9 bz bw bv aj ai dl dh dg de an am) (0,0,false) fun r=> .tup [.i r.1,.i r.2.1,.b r.2.2]
theorem Y3 (N:Nat):FOK Tryz.prog 80 (s80 N):=by
 refine Al x80.ok<|AW<|Ac fun b9=>Ac fun bz=>Ac fun bw=>A3 fun bv=>Ac fun aj=>Ac fun ai=>Ah<|AW<|Ac fun dl=>Ac fun dh=>Ac fun dg=>A3 fun de=>Ac fun an=>Ac fun am=>Ah<|Ah<|An fun r h=>wx x80 (Aa (JQ N)<|Aj) fun _ hS F=> ?_
 dsimp only[x80,mkX,Ap]
 unfold EQ at h
 obtain⟨jd,jx,h⟩:=un h
 exact Ad hS F h
def Cz (N:Nat) (gy:Int) (gx:Int) (gw:Int) (bu:List (Int×Int)) (gu:Int) (gt:Int) (gc:Int) (fq:Int) (fj:Int) (br:List (Int×Int)) (fh:Int) (fg:Int):Option Bool:=
 (EQ N gy gx gw bu gu gt gc fq fj br fh fg).bind fun(jt,js,ic)=>
 gd (ic=true→((CL N bu br).isSome=true))<|
 some (ic&&((CL N bu br).getD false))
@[go_sem] def s23 (N:Nat):Spec:=p0<|pG<|pI fun gy=>pI fun gx=>pI fun gw=>pS Ap fun bu=>pI fun gu=>pI fun gt=>pE<|pG<|pI fun gc=>pI fun fq=>pI fun fj=>pS Ap fun br=>pI fun fh=>pI fun fg=>pE<|pE<|pF (Cz N gy gx gw bu gu gt gc fq fj br fh fg) false fun r=> .b r
theorem Uv (N:Nat):FOK Tryz.prog 23 (s23 N):=by
 refine Al x23.ok<|AW<|Ac fun gy=>Ac fun gx=>Ac fun gw=>A3 fun bu=>Ac fun gu=>Ac fun gt=>Ah<|AW<|Ac fun gc=>Ac fun fq=>Ac fun fj=>A3 fun br=>Ac fun fh=>Ac fun fg=>Ah<|Ah<|An fun r h=>wx x23 (Aa (Y3 N)<|Aa (YZ N)<|Aj) fun _ hS F=> ?_
 dsimp only[x23,mkX,Ap]
 unfold Cz at h
 obtain⟨⟨jt,js,ic⟩,ji,h⟩:=un h
 obtain⟨jd,h⟩:=un h
 exact Ad hS (fc ji F) h
def Eg (N:Nat) (dp:Int) (gj:Int) (gi:Int) (dm:List (Int×Int)) (gh:Int) (gf:Int) (db:Int) (fb:Int) (e9:Int) (cz:List (Int×Int)) (ez:Int) (eh:Int):Option ((Int×Int×((Int×Int)×(Int×Int))×Int×Int)×Bool):=
 (EQ N dp gj gi dm gh gf db fb e9 cz ez eh).bind fun(jb,ja,i9)=>
 bif !i9 then(
  some ((0,0,((0,0),(0,0)),0,0),false))
 else(
  (Fb N dm cz).bind fun(((i8,i7),(i6,iz)),iy)=>
  bif !iy then(
   some ((0,0,((0,0),(0,0)),0,0),false))
  else(
   some ((dp,db,((i8,i7),(i6,iz)),jb,ja),true)))
@[go_sem] def s32 (N:Nat):Spec:=p0<|pG<|pI fun dp=>pI fun gj=>pI fun gi=>pS Ap fun dm=>pI fun gh=>pI fun gf=>pE<|pG<|pI fun db=>pI fun fb=>pI fun e9=>pS Ap fun cz=>pI fun ez=>pI fun eh=>pE<|pE<|pF (Eg N dp gj gi dm gh gf db fb e9 cz ez eh) ((0,0,((0,0),(0,0)),0,0),false) fun r=> .tup [.agg [.i r.1.1,.i r.1.2.1,.i r.1.2.2.1.1.1,.i r.1.2.2.1.1.2,.i r.1.2.2.1.2.1,.i r.1.2.2.1.2.2,.i r.1.2.2.2.1,.i r.1.2.2.2.2],.b r.2]
theorem QS (N:Nat):FOK Tryz.prog 32 (s32 N):=by
 refine Al x32.ok<|AW<|Ac fun dp=>Ac fun gj=>Ac fun gi=>A3 fun dm=>Ac fun gh=>Ac fun gf=>Ah<|AW<|Ac fun db=>Ac fun fb=>Ac fun e9=>A3 fun cz=>Ac fun ez=>Ac fun eh=>Ah<|Ah<|An fun r h=>wx x32 (Aa (Y3 N)<|Aa (lI N)<|Aj) fun _ hS F=> ?_
 dsimp only[x32,mkX,Ap]
 unfold Eg at h
 obtain⟨⟨jb,ja,i9⟩,jh,h⟩:=un h
 replace F:=fc jh F
 refine gcb hS F h (fun _ h=> ?_) (fun _ h=> ?_)
 ·exact Ad hS F h
 ·obtain⟨⟨⟨⟨i8,i7⟩,⟨i6,iz⟩⟩,iy⟩,jg,h⟩:=un h
  replace F:=fc jg F
  refine gcb hS F h (fun _ h=> ?_) (fun _ h=> ?_)
  ·exact Ad hS F h
  ·exact Ad hS F h
def Dh (N:Nat) (u534:List (Int×Int)) (ah:Int) (af:Int) (ae:Int):Nat→Int→Option (Sum Unit (((Int×Int×((Int×Int)×(Int×Int))×Int×Int)×Bool)))
 |0,_=>none
 |n+1,aq=>
  bif decide (aq<(u534.length:Int)) then(
   (nth u534 aq).bind fun(iq,g8)=>
   gd (I64 (aq+1))<|
   gd ((u534.length:Int)≠0)<|
   (nth u534 ((aq+1).tmod (u534.length:Int))).bind fun(ip,gz)=>
   bif (decide (g8=0))&&(decide (gz=0)) then(
    some (.inr ((ah,(-1),((iq,g8),(ip,gz)),af,ae),true)))
   else(
    gd (I64 (aq+1))<|
    Dh N u534 ah af ae n (aq+1)))
  else(
   some (.inl ()))
def Dl (N:Nat) (ah:Int) (co:Int) (ce:Int) (u534:List (Int×Int)) (af:Int) (ae:Int):Option ((Int×Int×((Int×Int)×(Int×Int))×Int×Int)×Bool):=
 (BA N ah co ce u534 af ae).bind fun iw=>
 bif !iw then(
  some ((0,0,((0,0),(0,0)),0,0),false))
 else(
  (Dh N u534 ah af ae N 0).bind fun ij=>match ij with
   | .inl ()=>(
    some ((0,0,((0,0),(0,0)),0,0),false))
   | .inr jr=>(
    some jr))
@[go_sem] def s31 (N:Nat):Spec:=p0<|pG<|pI fun ah=>pI fun co=>pI fun ce=>pS Ap fun u534=>pI fun af=>pI fun ae=>pE<|pE<|pF (Dl N ah co ce u534 af ae) ((0,0,((0,0),(0,0)),0,0),false) fun r=> .tup [.agg [.i r.1.1,.i r.1.2.1,.i r.1.2.2.1.1.1,.i r.1.2.2.1.1.2,.i r.1.2.2.1.2.1,.i r.1.2.2.1.2.2,.i r.1.2.2.2.1,.i r.1.2.2.2.2],.b r.2]
theorem QT (N:Nat):FOK Tryz.prog 31 (s31 N):=by
 refine Al x31.ok<|AW<|Ac fun ah=>Ac fun co=>Ac fun ce=>A3 fun u534=>Ac fun af=>Ac fun ae=>Ah<|Ah<|An fun r h=>wx x31 (Aa (JQ N)<|Aj) fun _ hS F=> ?_
 dsimp only[x31,mkX,Ap]
 unfold Dl at h
 obtain⟨iw,jf,h⟩:=un h
 replace F:=fc jf F
 refine gcb hS F h (fun _ h=> ?_) (fun _ h=> ?_)
 ·exact Ad hS F h
 ·obtain⟨ij,jy,h⟩:=un h
  refine go hS F ?_
  refine Au ij (fun z:Nat=>⟨[(2,.box (1,1) 0)],[(.c (1,1) 0,.i 0),(.c (1,1) 1,.i 0),(.c (1,1) 2,.i 0),(.c (1,1) 3,.i 0),(.c (1,1) 4,.i 0),(.c (1,1) 5,.i 0),(.c (1,1) 6,.i 0),(.c (1,1) 7,.i 0)],z⟩) (fun z=>(.inl ():Sum Unit (((Int×Int×((Int×Int)×(Int×Int))×Int×Int)×Bool)))) (.x 0) ?_ ?_
  ·refine Aq (fun n (y:Int×Nat)=>Dh N u534 ah af ae n y.1) (fun y=>⟨[(1,.box (0,1) 0),(2,.box (1,1) 0),(12,A1 u534),(13,.i (u534.length:Int)),(14,.i y.1)],[(.c (1,1) 0,.i 0),(.c (1,1) 1,.i 0),(.c (1,1) 2,.i 0),(.c (1,1) 3,.i 0),(.c (1,1) 4,.i 0),(.c (1,1) 5,.i 0),(.c (1,1) 6,.i 0),(.c (1,1) 7,.i 0),(.c (0,1) 0,.i ah),(.c (0,1) 1,.i co),(.c (0,1) 2,.i ce),(.c (0,1) 3,A1 u534),(.c (0,1) 4,.i af),(.c (0,1) 5,.i ae)],y.2⟩) (0,3) jy (leF F) ?_
   rintro n ⟨aq,jq⟩ au
   simp only[Dh] at au
   refine gcb hS F au (fun _ au=> ?_) (fun _ au=> ?_)
   ·obtain⟨⟨iq,g8⟩,jp,au⟩:=un au
    obtain⟨jv,F⟩:=rqG Br jp F
    obtain⟨jw,j6,⟨ip,gz⟩,jo,au⟩:=un au
    obtain⟨ju,F⟩:=rqG Br jo F
    refine gcb hS F au (fun _ au=> ?_) (fun _ au=> ?_)
    ·obtain rfl:=yJ au
     exact Ad hS F h
    ·obtain⟨j5,au⟩:=un au
     exact gbk hS F (n,aq+1,jq+1+1+1+1+1) au
   ·exact gck hS F (jq+1) au
  ·rintro jz rfl
   exact Ad hS F h
def H5 (N:Nat) (bm:Int) (bj:Int) (bi:Int) (bh:List (Int×Int)) (bg:Int) (be:Int) (bb:Int) (az:Int):Option ((Int×Int×Int×(List (Int×Int))×Int×Int)×Int):=
 (E9 N bh bb az).bind fun(iv,g9)=>
 gd ((!(decide (g9≠0)))=true→((BA N bm bj bi bh bg be).isSome=true))<|
 bif (decide (g9≠0))||(!((BA N bm bj bi bh bg be).getD false)) then(
  some ((0,0,0,[],0,0),80))
 else(
  some ((bm,bj,bi,iv,bg,be),0))
@[go_sem] def s93 (N:Nat):Spec:=p0<|pG<|pI fun bm=>pI fun bj=>pI fun bi=>pS Ap fun bh=>pI fun bg=>pI fun be=>pE<|pI fun bb=>pI fun az=>pE<|pF (H5 N bm bj bi bh bg be bb az) ((0,0,0,[],0,0),0) fun r=> .tup [.agg [.i r.1.1,.i r.1.2.1,.i r.1.2.2.1,A1 r.1.2.2.2.1,.i r.1.2.2.2.2.1,.i r.1.2.2.2.2.2],.i r.2]
theorem lO (N:Nat):FOK Tryz.prog 93 (s93 N):=by
 refine Al x93.ok<|AW<|Ac fun bm=>Ac fun bj=>Ac fun bi=>A3 fun bh=>Ac fun bg=>Ac fun be=>Ah<|Ac fun bb=>Ac fun az=>Ah<|An fun r h=>wx x93 (Aa (gH N)<|Aa (JQ N)<|Aj) fun _ hS F=> ?_
 dsimp only[x93,mkX,Ap]
 unfold H5 at h
 obtain⟨⟨iv,g9⟩,je,h⟩:=un h
 obtain⟨jd,h⟩:=un h
 replace F:=fc je F
 refine gcb hS F h (fun _ h=> ?_) (fun _ h=> ?_)
 ·exact Ad hS F h
 ·exact Ad hS F h
end Go.Proofs.YtciphecegkfaiaaGreat.Am
