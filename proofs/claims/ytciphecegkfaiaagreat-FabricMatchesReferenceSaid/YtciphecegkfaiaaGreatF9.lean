import Derived.Test.YtciphecegkfaiaaGreatF2
import Derived.Test.YtciphecegkfaiaaGreatA25
set_option linter.unusedSimpArgs false
set_option linter.unusedVariables false
namespace Go.Proofs.YtciphecegkfaiaaGreat.Am
open Go
section
attribute [local irreducible] As Cn B6 BK CA BJ Bv Cl Cv Dx
set_option maxRecDepth 100000
set_option maxHeartbeats 8000000
def Cc(N:Nat)(ak:Int)(f1:List (Int×Int×Int×(List (Int×Int))×Int×Int))(x18:Int)(x19:Int)(x20:Int)(x21:List (Int×Int))(x22:Int)(x23:Int):Nat->Int->Option (Sum Unit Bool)|0,_=>none|n+1,fg=>bif decide (fg<ak)then((AA f1 fg).bind λ(x39,x40,x41,x42,x43,x44)=>(ED N x18 x19 x20 x21 x22 x23 x39 x40 x41 x42 x43 x44).bind λlj=>bif lj then(some (.inr false))else(gd (Ab (fg+1))<|Cc N ak f1 x18 x19 x20 x21 x22 x23 n (fg+1)))else(some (.inl ()))
def Cd(N:Nat)(f1:List (Int×Int×Int×(List (Int×Int))×Int×Int)):Nat->Int->Option (Sum Unit Bool)|0,_=>none|n+1,ak=>bif decide (ak<(f1.length:Int))then((AA f1 ak).bind λ(x18,x19,x20,x21,x22,x23)=>(Bw N x18 x19 x20 x21 x22 x23).bind λlm=>gd ((decide (0<ak))=true->(Ab (ak-1)))<|gd ((decide (0<ak))=true->(0<=ak-1/\ak-1<(f1.length:Int)))<|bif (!lm)||((decide (0<ak))&&(decide (x18<=(f1.getD (ak-1).toNat (0,0,0,[],0,0)).1)))then(some (.inr false))else((Cc N ak f1 x18 x19 x20 x21 x22 x23 N 0).bind λki=>match ki with|.inl ()=>(gd (Ab (ak+1))<|Cd N f1 n (ak+1))|.inr md=>(some (.inr md))))else(some (.inl ()))
def Bj(N:Nat)(f1:List (Int×Int×Int×(List (Int×Int))×Int×Int)):Option Bool:=bif decide (12<(f1.length:Int))then(some false)else((Cd N f1 N 0).bind λkg=>match kg with|.inl ()=>(some true)|.inr mb=>(some mb))
@[go_sem] def s55(N:Nat):Spec:=p0<|pG<|pD Ar λf1=>pE<|pE<|pF (Bj N f1) false λr=>.b r
theorem K6(N:Nat):AZ Tryz.prog 55 (s55 N):=by
 refine Ax x55.ok<|A2<|Dj λf1=>Ai<|Ai<|Ay λr h=>wx x55 (Ac (Mm N)<|Ac (yW N)<|An) λ_ hS F=>?_
 dsimp only[x55,Al,Ar];unfold Bj at h;refine Ap hS F h (λ_ h=>?_) (λ_ h=>?_)
 ·exact Af hS F h
 ·obtain⟨kg,bj,h⟩:=un h;refine go hS F ?_;refine AM kg (λz:Nat=>⟨[],[],z⟩) (λz=>(.inl ():Sum Unit Bool)) (.x 0) ?_ ?_
  ·refine AH (λn (y:Int×Nat)=>Cd N f1 n y.1) (λy=>⟨[(1,.box (0,1) 0),(3,.i y.1)],[(.c (0,1) 0,Aj f1)],y.2⟩) (0,3) bj (Bn F) ?_;rintro n ⟨ak,ma⟩ aa;simp only[Cd]at aa;refine Ap hS F aa (λ_ aa=>?_) (λ_ aa=>?_)
   ·obtain⟨⟨x18,x19,x20,x21,x22,x23⟩,kw,aa⟩:=un aa;obtain⟨mq,F⟩:=Bt Ak kw F;obtain⟨lm,kq,jw,jd,aa⟩:=un aa;replace F:=fc kq F;refine Ap hS F aa (λ_ aa=>?_) (λ_ aa=>?_)
    ·obtain rfl:=yJ aa;exact Af hS F h
    ·obtain⟨ki,mu,aa⟩:=un aa;refine go hS F ?_;refine AM ki (λz:Nat=>⟨[(1,.box (0,1) 0),(3,.i ak)],[(.c (0,1) 0,Aj f1)],z⟩) (λz=>(.inl ():Sum Unit Bool)) (.x 2) ?_ ?_
     ·refine AH (λn (y:Int×Nat)=>Cc N ak f1 x18 x19 x20 x21 x22 x23 n y.1) (λy=>⟨[(1,.box (0,1) 0),(3,.i ak),(4,.i y.1)],[(.c (0,1) 0,Aj f1)],y.2⟩) (0,ma+1+1+1) mu (Bn F) ?_;rintro n ⟨fg,l7⟩ be;simp only[Cc]at be;refine Ap hS F be (λ_ be=>?_) (λ_ be=>?_)
      ·obtain⟨⟨x39,x40,x41,x42,x43,x44⟩,kv,be⟩:=un be;obtain⟨mo,F⟩:=Bt Ak kv F;obtain⟨lj,km,be⟩:=un be;replace F:=fc km F;refine Ap hS F be (λ_ be=>?_) (λ_ be=>?_)
       ·obtain rfl:=yJ be;obtain rfl:=yJ aa;exact Af hS F h
       ·obtain⟨nh,be⟩:=un be;exact Bk hS F (n,fg+1,l7+1+1+1) be
      ·exact A9 hS F (l7+1) be
     ·rintro mz rfl;obtain⟨me,aa⟩:=un aa;exact Bk hS F (n,ak+1,mz+1) aa
   ·exact A9 hS F (ma+1) aa
  ·rintro nj rfl;exact Af hS F h
def Dd(N:Nat)(f58:List (Int×Int×Int×(List (Int×Int))×Int×Int))(aj:Int):Nat->Int->Option (Sum Unit (((Int×Int×Int×(List (Int×Int))×Int×Int)×Bool)))|0,_=>none|n+1,i83=>bif decide (i83<(f58.length:Int))then((AA f58 i83).bind λ(x84,x85,x86,x87,VD,lg)=>gd ((decide (x84=aj))=true->((Bj N f58).isSome=true))<|bif (decide (x84=aj))&&((Bj N f58).getD false)then((Bd N x84 x85 x86 x87 VD lg).bind λ(li,lh,i8,i7,i6,iz)=>some (.inr ((li,lh,i8,i7,i6,iz),true)))else(gd (Ab (i83+1))<|Dd N f58 aj n (i83+1)))else(some (.inl ()))
def DY(N:Nat)(f58:List (Int×Int×Int×(List (Int×Int))×Int×Int))(aj:Int):Option ((Int×Int×Int×(List (Int×Int))×Int×Int)×Bool):=(Dd N f58 aj N 0).bind λd6=>match d6 with|.inl ()=>(some ((0,0,0,[],0,0),false))|.inr j9=>(some j9)
@[go_sem] def s61(N:Nat):Spec:=p0<|pG<|pD Ar λf58=>pE<|pI λaj=>pE<|pF (DY N f58 aj) ((0,0,0,[],0,0),false) λr=>.tup [.agg [.i r.1.1,.i r.1.2.1,.i r.1.2.2.1,A3 r.1.2.2.2.1,.i r.1.2.2.2.2.1,.i r.1.2.2.2.2.2],.b r.2]
theorem oR(N:Nat):AZ Tryz.prog 61 (s61 N):=by
 refine Ax x61.ok<|A2<|Dj λf58=>Ai<|Ad λaj=>Ai<|Ay λr h=>wx x61 (Ac (K6 N)<|Ac (P5 N)<|An) λ_ hS F=>?_
 dsimp only[x61,Al,Ar];unfold DY at h;obtain⟨d6,bj,h⟩:=un h;refine go hS F ?_;refine AM d6 (λz:Nat=>⟨[(4,.box (1,1) 0)],[(.c (1,1) 0,.i 0),(.c (1,1) 1,.i 0),(.c (1,1) 2,.i 0),(.c (1,1) 3,.sl 0 true [] []),(.c (1,1) 4,.i 0),(.c (1,1) 5,.i 0)],z⟩) (λz=>(.inl ():Sum Unit (((Int×Int×Int×(List (Int×Int))×Int×Int)×Bool)))) (.x 0) ?_ ?_
 ·refine AH (λn (y:Int×Nat)=>Dd N f58 aj n y.1) (λy=>⟨[(1,.i aj),(2,.box (0,1) 0),(4,.box (1,1) 0),(6,.i y.1)],[(.c (1,1) 0,.i 0),(.c (1,1) 1,.i 0),(.c (1,1) 2,.i 0),(.c (1,1) 3,.sl 0 true [] []),(.c (1,1) 4,.i 0),(.c (1,1) 5,.i 0),(.c (0,1) 0,Aj f58)],y.2⟩) (0,2) bj (Bn F) ?_;rintro n ⟨i83,l6⟩ aa;simp only[Dd]at aa;refine Ap hS F aa (λ_ aa=>?_) (λ_ aa=>?_)
  ·obtain⟨⟨x84,x85,x86,x87,VD,lg⟩,kr,aa⟩:=un aa;obtain⟨mn,F⟩:=Bt Ak kr F;obtain⟨jw,aa⟩:=un aa;refine Ap hS F aa (λ_ aa=>?_) (λ_ aa=>?_)
   ·obtain⟨⟨li,lh,i8,i7,i6,iz⟩,jo,aa⟩:=un aa;obtain rfl:=yJ aa;exact Af hS (fc jo F) h
   ·obtain⟨jd,aa⟩:=un aa;exact Bk hS F (n,i83+1,l6+1+1+1) aa
  ·exact A9 hS F (l6+1) aa
 ·rintro nb rfl;exact Af hS F h
def Dn(N:Nat)(f110:List (Int×Int×Int×(List (Int×Int))×Int×Int))(ae:Int):Nat->Int->(List (Int×Int×Int×(List (Int×Int))×Int×Int))->Option ((List (Int×Int×Int×(List (Int×Int))×Int×Int)))|0,_,_=>none|n+1,an,l168=>bif decide (an<(f110.length:Int))then((AA f110 an).bind λ(x169,ig,x171,kV,ie,ic)=>bif decide (x169≠ae)then((Bd N x169 ig x171 kV ie ic).bind λ(dz,dw,du,dt,dq,dp)=>gd ((l168.length+1)*64<=140737488355328)<|gd (Ab (an+1))<|Dn N f110 ae n (an+1) (l168++[(dz,dw,du,dt,dq,dp)]))else(gd (Ab (an+1))<|Dn N f110 ae n (an+1) l168))else(some l168)
def FI(N:Nat)(f110:List (Int×Int×Int×(List (Int×Int))×Int×Int))(ae:Int):Option ((List (Int×Int×Int×(List (Int×Int))×Int×Int))×Int):=(DY N f110 ae).bind λ((j8,j7,j6,j5,jz,jy),iy)=>bif !iy then(some ([],120))else((Dn N f110 ae N 0 []).bind λjc=>some (jc,0))
@[go_sem] def s62(N:Nat):Spec:=p0<|pG<|pD Ar λf110=>pE<|pI λae=>pE<|pF (FI N f110 ae) ([],0) λr=>.tup [.agg [Aj r.1],.i r.2]
theorem AbB(N:Nat):AZ Tryz.prog 62 (s62 N):=by
 refine Ax x62.ok<|A2<|Dj λf110=>Ai<|Ad λae=>Ai<|Ay λr h=>wx x62 (Ac (oR N)<|Ac (P5 N)<|An) λ_ hS F=>?_
 dsimp only[x62,Al,Ar];unfold FI at h;obtain⟨⟨⟨j8,j7,j6,j5,jz,jy⟩,iy⟩,jn,h⟩:=un h;replace F:=fc jn F;refine Ap hS F h (λ_ h=>?_) (λ_ h=>?_)
 ·exact Af hS F h
 ·refine go hS F ?_;refine Dy 1000001 (400,4) 0 6 [.i 0,.i 0,.i 0,.sl 0 true [] [],.i 0,.i 0] (by omega) (ev F) ?_;obtain⟨kl,bj,h⟩:=un h;refine go hS F ?_;refine AM kl (λz:(List (Int×Int×Int×(List (Int×Int))×Int×Int))×Nat=>⟨[(4,.box (1,1) 0),(8,.box (400,4) 0)],[(.c (400,4) 0,.own (1000001,6) z.1.length),(.a (1000001,6),Bl z.1),(.c (1,1) 0,.sl 0 true [] [])],z.2⟩) (λz=>(z.1:(List (Int×Int×Int×(List (Int×Int))×Int×Int)))) (.x 0) ?_ ?_
  ·refine AH (λn (y:Int×(List (Int×Int×Int×(List (Int×Int))×Int×Int))×Nat)=>Dn N f110 ae n y.1 y.2.1) (λy=>⟨[(1,.i ae),(2,.box (0,1) 0),(4,.box (1,1) 0),(8,.box (400,4) 0),(9,.i y.1)],[(.c (400,4) 0,.own (1000001,6) y.2.1.length),(.a (1000001,6),Bl y.2.1),(.c (1,1) 0,.sl 0 true [] []),(.c (0,1) 0,Aj f110)],y.2.2⟩) (0,[],6) bj (Bn F) ?_;rintro n ⟨an,l168,fb⟩ aa;simp only[Dn]at aa;refine Ap hS F aa (λ_ aa=>?_) (λ_ aa=>?_)
   ·obtain⟨⟨x169,ig,x171,kV,ie,ic⟩,jt,aa⟩:=un aa;obtain⟨l5,F⟩:=Bt Ak jt F;refine Ap hS F aa (λ_ aa=>?_) (λ_ aa=>?_)
    ·obtain⟨⟨dz,dw,du,dt,dq,dp⟩,jm,aa⟩:=un aa;obtain⟨jw,jd,aa⟩:=un aa;exact Bk hS (fc jm F) (n,an+1,l168++[(dz,dw,du,dt,dq,dp)],fb+1+1+1+1) aa
    ·obtain⟨mg,aa⟩:=un aa;exact Bk hS F (n,an+1,l168,fb+1+1+1) aa
   ·exact A9 hS F (l168,fb+1) aa
  ·rintro⟨jc,m9⟩ rfl;exact Af hS F h
def DT(N:Nat)(f196:List (Int×Int×Int×(List (Int×Int))×Int×Int)):Nat->Int->Int->Option Int|0,_,_=>none|n+1,bg,bi=>bif decide (bi<(f196.length:Int))then((AA f196 bi).bind λ(g9,g8,gz,gy,gx,gw)=>(EC N g9 g8 gz gy gx gw).bind λbm=>gd (Ab (bg+bm))<|gd (Ab (bi+1))<|DT N f196 n (bg+bm) (bi+1))else(some bg)
def AT(N:Nat)(f196:List (Int×Int×Int×(List (Int×Int))×Int×Int)):Option Int:=(Bj N f196).bind λiw=>bif !iw then(some 0)else((DT N f196 N 0 0).bind λi9=>some i9)
@[go_sem] def s56(N:Nat):Spec:=p0<|pG<|pD Ar λf196=>pE<|pE<|pF (AT N f196) 0 λr=>.i r
theorem AbC(N:Nat):AZ Tryz.prog 56 (s56 N):=by
 refine Ax x56.ok<|A2<|Dj λf196=>Ai<|Ai<|Ay λr h=>wx x56 (Ac (K6 N)<|Ac (yV N)<|An) λ_ hS F=>?_
 dsimp only[x56,Al,Ar];unfold AT at h;obtain⟨iw,jk,h⟩:=un h;replace F:=fc jk F;refine Ap hS F h (λ_ h=>?_) (λ_ h=>?_)
 ·exact Af hS F h
 ·obtain⟨kj,bj,h⟩:=un h;refine go hS F ?_;refine AM kj (λz:Int×Nat=>⟨[(3,.i z.1)],[],z.2⟩) (λz=>(z.1:Int)) (.x 0) ?_ ?_
  ·refine AH (λn (y:Int×Int×Nat)=>DT N f196 n y.1 y.2.1) (λy=>⟨[(1,.box (0,1) 0),(3,.i y.1),(4,.i y.2.1)],[(.c (0,1) 0,Aj f196)],y.2.2⟩) (0,0,4) bj (Bn F) ?_;rintro n ⟨bg,bi,jv⟩ aa;simp only[DT]at aa;refine Ap hS F aa (λ_ aa=>?_) (λ_ aa=>?_)
   ·obtain⟨⟨g9,g8,gz,gy,gx,gw⟩,js,aa⟩:=un aa;obtain⟨lz,F⟩:=Bt Ak js F;obtain⟨bm,jj,jw,jd,aa⟩:=un aa;exact Bk hS (fc jj F) (n,bg+bm,bi+1,jv+1+1+1) aa
   ·exact A9 hS F (bg,jv+1) aa
  ·rintro⟨i9,m8⟩ rfl;exact Af hS F h
def EE(N:Nat)(f227:List (Int×Int×Int×(List (Int×Int))×Int×Int))(ah:Int)(af:Int):Nat->Int->(List (Int×Int×Int×(List (Int×Int))×Int×Int))->Option (Sum ((List (Int×Int×Int×(List (Int×Int))×Int×Int))) (((List (Int×Int×Int×(List (Int×Int))×Int×Int))×Int)))|0,_,_=>none|n+1,bh,l268=>bif decide (bh<(f227.length:Int))then((AA f227 bh).bind λ(gu,gt,gj,gi,gh,gf)=>(Gj N gu gt gj gi gh gf ah af).bind λ((dm,dl,dh,dg,de,db),ir)=>bif decide (ir≠0)then(some (.inr ([],120)))else(gd ((l268.length+1)*64<=140737488355328)<|gd (Ab (bh+1))<|EE N f227 ah af n (bh+1) (l268++[(dm,dl,dh,dg,de,db)])))else(some (.inl l268))
def Gm(N:Nat)(f227:List (Int×Int×Int×(List (Int×Int))×Int×Int))(ah:Int)(af:Int):Option ((List (Int×Int×Int×(List (Int×Int))×Int×Int))×Int):=(Bj N f227).bind λiv=>bif !iv then(some ([],120))else((EE N f227 ah af N 0 []).bind λd5=>match d5 with|.inl jb=>(some (jb,0))|.inr jx=>(some jx))
@[go_sem] def s63(N:Nat):Spec:=p0<|pG<|pD Ar λf227=>pE<|pI λah=>pI λaf=>pE<|pF (Gm N f227 ah af) ([],0) λr=>.tup [.agg [Aj r.1],.i r.2]
theorem AbD(N:Nat):AZ Tryz.prog 63 (s63 N):=by
 refine Ax x63.ok<|A2<|Dj λf227=>Ai<|Ad λah=>Ad λaf=>Ai<|Ay λr h=>wx x63 (Ac (K6 N)<|Ac (zC N)<|An) λ_ hS F=>?_
 dsimp only[x63,Al,Ar];unfold Gm at h;obtain⟨iv,ji,h⟩:=un h;replace F:=fc ji F;refine Ap hS F h (λ_ h=>?_) (λ_ h=>?_)
 ·exact Af hS F h
 ·refine go hS F ?_;refine Dy 1000001 (300,3) 0 6 [.i 0,.i 0,.i 0,.sl 0 true [] [],.i 0,.i 0] (by omega) (ev F) ?_;obtain⟨d5,bj,h⟩:=un h;refine go hS F ?_;refine AM d5 (λz:(List (Int×Int×Int×(List (Int×Int))×Int×Int))×Nat=>⟨[(6,.box (1,1) 0),(8,.box (300,3) 0)],[(.c (300,3) 0,.own (1000001,5) z.1.length),(.a (1000001,5),Bl z.1),(.c (1,1) 0,.sl 0 true [] [])],z.2⟩) (λz=>(.inl z.1:Sum ((List (Int×Int×Int×(List (Int×Int))×Int×Int))) (((List (Int×Int×Int×(List (Int×Int))×Int×Int))×Int)))) (.x 0) ?_ ?_
  ·refine AH (λn (y:Int×(List (Int×Int×Int×(List (Int×Int))×Int×Int))×Nat)=>EE N f227 ah af n y.1 y.2.1) (λy=>⟨[(1,.i ah),(2,.i af),(3,.box (0,1) 0),(6,.box (1,1) 0),(8,.box (300,3) 0),(9,.i y.1)],[(.c (300,3) 0,.own (1000001,5) y.2.1.length),(.a (1000001,5),Bl y.2.1),(.c (1,1) 0,.sl 0 true [] []),(.c (0,1) 0,Aj f227)],y.2.2⟩) (0,[],5) bj (Bn F) ?_;rintro n ⟨bh,l268,ju⟩ aa;simp only[EE]at aa;refine Ap hS F aa (λ_ aa=>?_) (λ_ aa=>?_)
   ·obtain⟨⟨gu,gt,gj,gi,gh,gf⟩,jr,aa⟩:=un aa;obtain⟨lw,F⟩:=Bt Ak jr F;obtain⟨⟨⟨dm,dl,dh,dg,de,db⟩,ir⟩,jh,aa⟩:=un aa;replace F:=fc jh F;refine Ap hS F aa (λ_ aa=>?_) (λ_ aa=>?_)
    ·obtain rfl:=yJ aa;exact Af hS F h
    ·obtain⟨jw,jd,aa⟩:=un aa;exact Bk hS F (n,bh+1,l268++[(dm,dl,dh,dg,de,db)],ju+1+1+1+1+1) aa
   ·exact A9 hS F (l268,ju+1) aa
  ·rintro⟨jb,m7⟩ rfl;exact Af hS F h
def Cy(N:Nat)(f291:List (Int×Int×Int×(List (Int×Int))×Int×Int))(bb:Int)(az:Int)(ay:Int)(aw:List (Int×Int))(av:Int)(au:Int):Nat->Int->(List (Int×Int×((Int×Int)×(Int×Int))×Int×Int))->Option ((List (Int×Int×((Int×Int)×(Int×Int))×Int×Int)))|0,_,_=>none|n+1,am,l553=>bif decide (am<(f291.length:Int))then((AA f291 am).bind λ(gc,fq,fp,fo,fj,fh)=>(E8 N bb az ay aw av au gc fq fp fo fj fh).bind λ((bz,bw,((bv,bu),(br,bq)),bp,bo),ij)=>bif ij then(gd ((l553.length+1)*64<=140737488355328)<|gd (Ab (am+1))<|Cy N f291 bb az ay aw av au n (am+1) (l553++[(bz,bw,((bv,bu),(br,bq)),bp,bo)]))else(gd (Ab (am+1))<|Cy N f291 bb az ay aw av au n (am+1) l553))else(some l553)
def C1(N:Nat)(f291:List (Int×Int×Int×(List (Int×Int))×Int×Int)):Nat->Int->(List (Int×Int×((Int×Int)×(Int×Int))×Int×Int))->Option ((List (Int×Int×((Int×Int)×(Int×Int))×Int×Int)))|0,_,_=>none|n+1,ai,l468=>bif decide (ai<(f291.length:Int))then((AA f291 ai).bind λ(bb,az,ay,aw,av,au)=>(Eb N bb az ay aw av au).bind λ((cz,cy,((cu,cr),(cq,co)),ce,b9),ip)=>(bif ip then(gd ((l468.length+1)*64<=140737488355328)<|some (l468++[(cz,cy,((cu,cr),(cq,co)),ce,b9)]))else(some l468):Option ((List (Int×Int×((Int×Int)×(Int×Int))×Int×Int)))).bind λd8=>gd (Ab (ai+1))<|(Cy N f291 bb az ay aw av au N (ai+1) d8).bind λd7=>gd (Ab (ai+1))<|C1 N f291 n (ai+1) d7)else(some l468)
def AQ(N:Nat)(f291:List (Int×Int×Int×(List (Int×Int))×Int×Int)):Option (List (Int×Int×((Int×Int)×(Int×Int))×Int×Int)):=(Bj N f291).bind λiq=>bif !iq then(some [])else((C1 N f291 N 0 []).bind λja=>some ja)
@[go_sem] def s57(N:Nat):Spec:=p0<|pG<|pD Ar λf291=>pE<|pE<|pF (AQ N f291) [] λr=>Bq r
theorem UF(N:Nat):AZ Tryz.prog 57 (s57 N):=by
 refine Ax x57.ok<|A2<|Dj λf291=>Ai<|Ai<|Ay λr h=>wx x57 (Ac (K6 N)<|Ac (yZ N)<|Ac (yY N)<|An) λ_ hS F=>?_
 dsimp only[x57,Al,Ar];unfold AQ at h;obtain⟨iq,jg,h⟩:=un h;replace F:=fc jg F;refine Ap hS F h (λ_ h=>?_) (λ_ h=>?_)
 ·exact Af hS F h
 ·refine go hS F ?_;refine Df 1000001 3 8 [.i 0,.i 0,.i 0,.i 0,.i 0,.i 0,.i 0,.i 0] (by show(3:Nat)<63;omega) (by omega) (ev F) ?_;obtain⟨ke,bj,h⟩:=un h;refine go hS F ?_;refine AM ke (λz:(List (Int×Int×((Int×Int)×(Int×Int))×Int×Int))×Nat=>⟨[(3,.own (1000001,5) z.1.length)],[(.a (1000001,5),Ej z.1)],z.2⟩) (λz=>(z.1:(List (Int×Int×((Int×Int)×(Int×Int))×Int×Int)))) (.x 0) ?_ ?_
  ·refine AH (λn (y:Int×(List (Int×Int×((Int×Int)×(Int×Int))×Int×Int))×Nat)=>C1 N f291 n y.1 y.2.1) (λy=>⟨[(1,.box (0,1) 0),(3,.own (1000001,5) y.2.1.length),(4,.i y.1)],[(.a (1000001,5),Ej y.2.1),(.c (0,1) 0,Aj f291)],y.2.2⟩) (0,[],5) bj (Bn F) ?_;rintro n ⟨ai,l468,ez⟩ aa;simp only[C1]at aa;refine Ap hS F aa (λ_ aa=>?_) (λ_ aa=>?_)
   ·obtain⟨⟨bb,az,ay,aw,av,au⟩,jq,aa⟩:=un aa;obtain⟨lr,F⟩:=Bt Ak jq F;obtain⟨⟨⟨cz,cy,⟨⟨cu,cr⟩,⟨cq,co⟩⟩,ce,b9⟩,ip⟩,jf,aa⟩:=un aa;replace F:=fc jf F;obtain⟨kh,d9,aa⟩:=un aa;refine go hS F ?_;refine AM kh (λz:(List (Int×Int×((Int×Int)×(Int×Int))×Int×Int))×Nat=>⟨[(1,.box (0,1) 0),(3,.own (1000001,5) z.1.length),(4,.i ai)],[(.a (1000001,5),Ej z.1),(.c (0,1) 0,Aj f291)],z.2⟩) (λz=>(z.1:(List (Int×Int×((Int×Int)×(Int×Int))×Int×Int)))) .n ?_ ?_
    ·refine Ap hS F d9 (λ_ d9=>?_) (λ_ d9=>?_)
     ·obtain⟨jd,d9⟩:=un d9;exact A9 hS F (l468++[(cz,cy,((cu,cr),(cq,co)),ce,b9)],ez+1+1+1+1) d9
     ·exact A9 hS F (l468,ez+1+1+1) d9
    ·rintro⟨d8,lf⟩ rfl;obtain⟨mg,aa⟩:=un aa;obtain⟨kf,mr,aa⟩:=un aa;refine go hS F ?_;refine AM kf (λz:(List (Int×Int×((Int×Int)×(Int×Int))×Int×Int))×Nat=>⟨[(1,.box (0,1) 0),(3,.own (1000001,5) z.1.length),(4,.i ai)],[(.a (1000001,5),Ej z.1),(.c (0,1) 0,Aj f291)],z.2⟩) (λz=>(z.1:(List (Int×Int×((Int×Int)×(Int×Int))×Int×Int)))) (.x 2) ?_ ?_
     ·refine AH (λn (y:Int×(List (Int×Int×((Int×Int)×(Int×Int))×Int×Int))×Nat)=>Cy N f291 bb az ay aw av au n y.1 y.2.1) (λy=>⟨[(1,.box (0,1) 0),(3,.own (1000001,5) y.2.1.length),(4,.i ai),(7,.i y.1)],[(.a (1000001,5),Ej y.2.1),(.c (0,1) 0,Aj f291)],y.2.2⟩) (ai+1,d8,lf+1) mr (Bn F) ?_;rintro n ⟨am,l553,eh⟩ aq;simp only[Cy]at aq;refine Ap hS F aq (λ_ aq=>?_) (λ_ aq=>?_)
      ·obtain⟨⟨gc,fq,fp,fo,fj,fh⟩,jp,aq⟩:=un aq;obtain⟨lq,F⟩:=Bt Ak jp F;obtain⟨⟨⟨bz,bw,⟨⟨bv,bu⟩,⟨br,bq⟩⟩,bp,bo⟩,ij⟩,je,aq⟩:=un aq;replace F:=fc je F;refine Ap hS F aq (λ_ aq=>?_) (λ_ aq=>?_)
       ·obtain⟨me,ng,aq⟩:=un aq;exact Bk hS F (n,am+1,l553++[(bz,bw,((bv,bu),(br,bq)),bp,bo)],eh+1+1+1+1+1) aq
       ·obtain⟨mj,aq⟩:=un aq;exact Bk hS F (n,am+1,l553,eh+1+1+1+1) aq
      ·exact A9 hS F (l553,eh+1) aq
     ·rintro⟨d7,k9⟩ rfl;obtain⟨mh,aa⟩:=un aa;exact Bk hS F (n,ai+1,d7,k9+1) aa
   ·exact A9 hS F (l468,ez+1) aa
  ·rintro⟨ja,my⟩ rfl;exact Af hS F h
end
section
attribute [local irreducible] As Cn B6 BK CA BJ Bv Cl Cv Dx
set_option maxRecDepth 100000
set_option maxHeartbeats 8000000
def EU(N:Nat)(f1:List (Int×Int×Int×(List (Int×Int))×Int×Int))(u2:Int)(u3:Int)(u4:Int)(u5:List (Int×Int))(u6:Int)(u7:Int):Nat->Bool->Int->(List (Int×Int×Int×(List (Int×Int))×Int×Int))->Option (Bool×(List (Int×Int×Int×(List (Int×Int))×Int×Int)))|0,_,_,_=>none|n+1,aa,i83,l84=>bif decide (i83<(f1.length:Int))then(gd ((!aa)=true->(0<=i83/\i83<(f1.length:Int)))<|(bif (!aa)&&(decide (u2<(f1.getD i83.toNat (0,0,0,[],0,0)).1))then((Bd N u2 u3 u4 u5 u6 u7).bind λ(bp,bo,bm,bj,bi,bh)=>gd ((l84.length+1)*64<=140737488355328)<|some (true,l84++[(bp,bo,bm,bj,bi,bh)]))else(some (aa,l84)):Option (Bool×(List (Int×Int×Int×(List (Int×Int))×Int×Int)))).bind λ(ae,l115)=>(AA f1 i83).bind λ(x117,x118,bu,br,x121,x122)=>(Bd N x117 x118 bu br x121 x122).bind λ(bg,be,bb,az,ay,aw)=>gd ((l115.length+1)*64<=140737488355328)<|gd (Ab (i83+1))<|EU N f1 u2 u3 u4 u5 u6 u7 n ae (i83+1) (l115++[(bg,be,bb,az,ay,aw)]))else(some (aa,l84))
def FS(N:Nat)(f1:List (Int×Int×Int×(List (Int×Int))×Int×Int))(u2:Int)(u3:Int)(u4:Int)(u5:List (Int×Int))(u6:Int)(u7:Int):Option ((List (Int×Int×Int×(List (Int×Int))×Int×Int))×Int):=(Bj N f1).bind λr8=>bif !r8 then(some ([],120))else((EU N f1 u2 u3 u4 u5 u6 u7 N false 0 []).bind λ(ah,l137)=>(bif !ah then((Bd N u2 u3 u4 u5 u6 u7).bind λ(av,au,aq,an,am,ak)=>gd ((l137.length+1)*64<=140737488355328)<|some (l137++[(av,au,aq,an,am,ak)]))else(some l137):Option ((List (Int×Int×Int×(List (Int×Int))×Int×Int)))).bind λbq=>(Bj N bq).bind λbv=>bif !bv then(some ([],120))else(some (bq,0)))
@[go_sem] def XT(N:Nat):Spec:=p0<|pG<|pD Ar λf1=>pE<|pG<|pI λu2=>pI λu3=>pI λu4=>pD AF λu5=>pI λu6=>pI λu7=>pE<|pE<|pF (FS N f1 u2 u3 u4 u5 u6 u7) ([],0) λr=>.tup [.agg [Aj r.1],.i r.2]
theorem oU(N:Nat):AZ Tryz.prog 49 (XT N):=by
 refine Ax x49.ok<|A2<|Dj λf1=>Ai<|A2<|Ad λu2=>Ad λu3=>Ad λu4=>Dj λu5=>Ad λu6=>Ad λu7=>Ai<|Ai<|Ay λr h=>wx x49 (Ac (K6 N)<|Ac (P5 N)<|An) λ_ hS F=>?_
 dsimp only[x49,Al,AF,Ar];unfold FS at h;obtain⟨r8,dg,h⟩:=un h;replace F:=fc dg F;refine Ap hS F h (λ_ h=>?_) (λ_ h=>?_)
 ·exact Af hS F h
 ·refine go hS F ?_;refine Dy 1000001 (300,3) 0 6 [.i 0,.i 0,.i 0,.sl 0 true [] [],.i 0,.i 0] (by omega) (ev F) ?_;obtain⟨cu,dh,h⟩:=un h;refine go hS F ?_;refine AM cu (λz:Bool×(List (Int×Int×Int×(List (Int×Int))×Int×Int))×Nat=>⟨[(3,.box (1,1) 0),(4,.box (2,1) 0),(6,.box (300,3) 0),(7,.b z.1)],[(.c (300,3) 0,.own (1000001,6) z.2.1.length),(.a (1000001,6),Bl z.2.1),(.c (2,1) 0,.sl 0 true [] []),(.c (1,1) 0,.i u2),(.c (1,1) 1,.i u3),(.c (1,1) 2,.i u4),(.c (1,1) 3,A3 u5),(.c (1,1) 4,.i u6),(.c (1,1) 5,.i u7)],z.2.2⟩) (λz=>((z.1,z.2.1):Bool×(List (Int×Int×Int×(List (Int×Int))×Int×Int)))) (.x 0) ?_ ?_
  ·refine AH (λn (y:Bool×Int×(List (Int×Int×Int×(List (Int×Int))×Int×Int))×Nat)=>EU N f1 u2 u3 u4 u5 u6 u7 n y.1 y.2.1 y.2.2.1) (λy=>⟨[(2,.box (0,1) 0),(3,.box (1,1) 0),(4,.box (2,1) 0),(6,.box (300,3) 0),(7,.b y.1),(8,.i y.2.1)],[(.c (300,3) 0,.own (1000001,6) y.2.2.1.length),(.a (1000001,6),Bl y.2.2.1),(.c (2,1) 0,.sl 0 true [] []),(.c (1,1) 0,.i u2),(.c (1,1) 1,.i u3),(.c (1,1) 2,.i u4),(.c (1,1) 3,A3 u5),(.c (1,1) 4,.i u6),(.c (1,1) 5,.i u7),(.c (0,1) 0,Aj f1)],y.2.2.2⟩) (false,0,[],6) dh (Bn F) ?_;rintro n ⟨aa,i83,l84,cz⟩ af;simp only[EU]at af;refine Ap hS F af (λ_ af=>?_) (λ_ af=>?_)
   ·obtain⟨du,af⟩:=un af;obtain⟨cy,aj,af⟩:=un af;refine go hS F ?_;refine AM cy (λz:Bool×(List (Int×Int×Int×(List (Int×Int))×Int×Int))×Nat=>⟨[(2,.box (0,1) 0),(3,.box (1,1) 0),(4,.box (2,1) 0),(6,.box (300,3) 0),(7,.b z.1),(8,.i i83)],[(.c (300,3) 0,.own (1000001,6) z.2.1.length),(.a (1000001,6),Bl z.2.1),(.c (2,1) 0,.sl 0 true [] []),(.c (1,1) 0,.i u2),(.c (1,1) 1,.i u3),(.c (1,1) 2,.i u4),(.c (1,1) 3,A3 u5),(.c (1,1) 4,.i u6),(.c (1,1) 5,.i u7),(.c (0,1) 0,Aj f1)],z.2.2⟩) (λz=>((z.1,z.2.1):Bool×(List (Int×Int×Int×(List (Int×Int))×Int×Int)))) .n ?_ ?_
    ·refine Ap hS F aj (λ_ aj=>?_) (λ_ aj=>?_)
     ·obtain⟨⟨bp,bo,bm,bj,bi,bh⟩,ce,aj⟩:=un aj;obtain⟨dt,aj⟩:=un aj;exact A9 hS (fc ce F) (true,l84++[(bp,bo,bm,bj,bi,bh)],cz+1+1+1+1) aj
     ·exact A9 hS F (aa,l84,cz+1+1) aj
    ·rintro⟨ae,l115,db⟩ rfl;obtain⟨⟨x117,x118,bu,br,x121,x122⟩,co,af⟩:=un af;obtain⟨de,F⟩:=Bt Ak co F;obtain⟨⟨bg,be,bb,az,ay,aw⟩,b9,af⟩:=un af;obtain⟨dq,dp,af⟩:=un af;exact Bk hS (fc b9 F) (n,ae,i83+1,l115++[(bg,be,bb,az,ay,aw)],db+1+1) af
   ·exact A9 hS F (aa,l84,cz+1) af
  ·rintro⟨ah,l137,cq⟩ rfl;obtain⟨cr,ai,h⟩:=un h;refine go hS F ?_;refine AM cr (λz:(List (Int×Int×Int×(List (Int×Int))×Int×Int))×Nat=>⟨[(4,.box (2,1) 0),(6,.box (300,3) 0)],[(.c (300,3) 0,.own (1000001,6) z.1.length),(.a (1000001,6),Bl z.1),(.c (2,1) 0,.sl 0 true [] [])],z.2⟩) (λz=>(z.1:(List (Int×Int×Int×(List (Int×Int))×Int×Int)))) .n ?_ ?_
   ·refine Ap hS F ai (λ_ ai=>?_) (λ_ ai=>?_)
    ·obtain⟨⟨av,au,aq,an,am,ak⟩,bz,ai⟩:=un ai;obtain⟨dm,ai⟩:=un ai;exact A9 hS (fc bz F) (l137++[(av,au,aq,an,am,ak)],cq+1+1) ai
    ·exact A9 hS F (l137,cq+1) ai
   ·rintro⟨bq,dl⟩ rfl;obtain⟨bv,bw,h⟩:=un h;replace F:=fc bw F;refine Ap hS F h (λ_ h=>?_) (λ_ h=>?_)
    ·exact Af hS F h
    ·exact Af hS F h
end
attribute [local irreducible] As Cn B6 BK CA BJ Bv Cl Cv Dx
set_option maxRecDepth 100000
set_option maxHeartbeats 8000000
def HS(x:Int×Int×Int×Int×Int×Int):List AV:=[.i x.1,.i x.2.1,.i x.2.2.1,.i x.2.2.2.1,.i x.2.2.2.2.1,.i x.2.2.2.2.2]
def Oj:List AV->Int×Int×Int×Int×Int×Int|[.v (.int _ a1),.v (.int _ a2),.v (.int _ a3),.v (.int _ a4),.v (.int _ a5),.v (.int _ a6)]=>(a1,a2,a3,a4,a5,a6)|_=>(0,0,0,0,0,0)
theorem cV(x:Int×Int×Int×Int×Int×Int):Oj (HS x)=x:=by rfl
theorem cW(R:List (Int×Int×Int×Int×Int×Int)):(R.map HS).map Oj=R:=by
 induction R with
 |nil=>rfl
 |cons r R ih=>rw[eZ,eZ,ih,cV]
theorem cX(R:List (Int×Int×Int×Int×Int×Int))(i:Nat):BG (R.map HS) [.i 0,.i 0,.i 0,.i 0,.i 0,.i 0] i=HS (R.getD i (0,0,0,0,0,0)):=by unfold BG;rw[eT,eT,qX];cases R[i]? <;>rfl
def QV:Rw (Int×Int×Int×Int×Int×Int):=⟨6,HS,Oj,[.i 0,.i 0,.i 0,.i 0,.i 0,.i 0]⟩
def KI(l:List (Int×Int×Int×Int×Int×Int)):AV:=.sl 6 false (l.map HS) [.i 0,.i 0,.i 0,.i 0,.i 0,.i 0]
def lB(l:List (Int×Int×Int×Int×Int×Int)):AV:=.sl 6 true (l.map HS) [.i 0,.i 0,.i 0,.i 0,.i 0,.i 0]
attribute [go_sem] QV KI lB HS Oj cW cX
def B7(N:Nat)(ai:Int)(az:Int)(x162:Int)(x163:Int)(x164:Int)(x165:Int)(x166:Int):Option (Int×Int×Int×(List (Int×Int))×Int×Int):=(Ae N az 9).bind λaa=>gd (Ab (4*aa))<|(Ae N x162 6).bind λae=>gd (Ab (4*ae))<|(Ae N x163 4).bind λaf=>gd (Ab (1+af))<|gd (Ab (4*(1+af)))<|gd (Ab ((4*aa)+(4*(1+af))))<|(Ae N x164 2).bind λah=>gd (Ab (1+ah))<|gd (Ab (4*(1+ah)))<|gd (Ab ((4*ae)+(4*(1+ah))))<|(Ae N x165 8).bind λay=>bif decide (ay=4)then(gd (Ab ((min ((4*aa)+(4*(1+af))) 40)-1))<|gd (Ab ((4*aa)+1))<|(Ae N x166 4).bind λgt=>bif decide (gt=3)then(gd (Ab (x166.tdiv 4))<|(Ae N (x166.tdiv 4) 4).bind λaw=>gd (Ab (aw+1))<|gd (Ab (x166.tdiv 16))<|(Ae N (x166.tdiv 16) 4).bind λce=>gd (Ab ((aw+1)+ce))<|(Ae N ai 100).bind λgj=>gd (Ab (x166.tdiv 64))<|(Ae N (x166.tdiv 64) 8).bind λb9=>gd (Ab (1+b9))<|gd (Ab (x166.tdiv 512))<|(Ae N (x166.tdiv 512) 8).bind λgi=>some (gj,1+b9,gi,[(4*aa,4*ae),(min ((4*aa)+(4*(1+af))) 40,4*ae),((min ((4*aa)+(4*(1+af))) 40)-1,(4*ae)+(4*(1+ah))),((4*aa)+1,(4*ae)+(4*(1+ah)))],aw,(aw+1)+ce))else((Ae N ai 100).bind λgh=>gd (Ab (x166.tdiv 64))<|(Ae N (x166.tdiv 64) 8).bind λbz=>gd (Ab (1+bz))<|gd (Ab (x166.tdiv 512))<|(Ae N (x166.tdiv 512) 8).bind λgf=>some (gh,1+bz,gf,[(4*aa,4*ae),(min ((4*aa)+(4*(1+af))) 40,4*ae),((min ((4*aa)+(4*(1+af))) 40)-1,(4*ae)+(4*(1+ah))),((4*aa)+1,(4*ae)+(4*(1+ah)))],0,4)))else(bif decide (ay=5)then(gd (Ab ((4*aa)+1))<|gd (Ab ((min ((4*aa)+(4*(1+af))) 40)-1))<|(Ae N x166 4).bind λgc=>bif decide (gc=3)then(gd (Ab (x166.tdiv 4))<|(Ae N (x166.tdiv 4) 4).bind λav=>gd (Ab (av+1))<|gd (Ab (x166.tdiv 16))<|(Ae N (x166.tdiv 16) 4).bind λbw=>gd (Ab ((av+1)+bw))<|(Ae N ai 100).bind λfq=>gd (Ab (x166.tdiv 64))<|(Ae N (x166.tdiv 64) 8).bind λbv=>gd (Ab (1+bv))<|gd (Ab (x166.tdiv 512))<|(Ae N (x166.tdiv 512) 8).bind λfp=>some (fq,1+bv,fp,[((4*aa)+1,4*ae),((min ((4*aa)+(4*(1+af))) 40)-1,4*ae),(min ((4*aa)+(4*(1+af))) 40,(4*ae)+(4*(1+ah))),(4*aa,(4*ae)+(4*(1+ah)))],av,(av+1)+bw))else((Ae N ai 100).bind λfo=>gd (Ab (x166.tdiv 64))<|(Ae N (x166.tdiv 64) 8).bind λr285=>gd (Ab (1+r285))<|gd (Ab (x166.tdiv 512))<|(Ae N (x166.tdiv 512) 8).bind λfj=>some (fo,1+r285,fj,[((4*aa)+1,4*ae),((min ((4*aa)+(4*(1+af))) 40)-1,4*ae),(min ((4*aa)+(4*(1+af))) 40,(4*ae)+(4*(1+ah))),(4*aa,(4*ae)+(4*(1+ah)))],0,4)))else(bif decide (ay=6)then((Ae N x166 4).bind λfh=>bif decide (fh=3)then(gd (Ab (x166.tdiv 4))<|(Ae N (x166.tdiv 4) 4).bind λau=>gd (Ab (au+1))<|gd (Ab (x166.tdiv 16))<|(Ae N (x166.tdiv 16) 4).bind λbu=>gd (Ab ((au+1)+bu))<|(Ae N ai 100).bind λfg=>gd (Ab (x166.tdiv 64))<|(Ae N (x166.tdiv 64) 8).bind λbr=>gd (Ab (1+br))<|gd (Ab (x166.tdiv 512))<|(Ae N (x166.tdiv 512) 8).bind λfb=>some (fg,1+br,fb,[(4*aa,4*ae),(min ((4*aa)+(4*(1+af))) 40,4*ae),(min ((4*aa)+(4*(1+af))) 40,(4*ae)+(4*(1+ah)))],au,(au+1)+bu))else((Ae N ai 100).bind λez=>gd (Ab (x166.tdiv 64))<|(Ae N (x166.tdiv 64) 8).bind λbq=>gd (Ab (1+bq))<|gd (Ab (x166.tdiv 512))<|(Ae N (x166.tdiv 512) 8).bind λeh=>some (ez,1+bq,eh,[(4*aa,4*ae),(min ((4*aa)+(4*(1+af))) 40,4*ae),(min ((4*aa)+(4*(1+af))) 40,(4*ae)+(4*(1+ah)))],0,4)))else(bif decide (ay=7)then((Ae N x166 4).bind λd9=>bif decide (d9=3)then(gd (Ab (x166.tdiv 4))<|(Ae N (x166.tdiv 4) 4).bind λaq=>gd (Ab (aq+1))<|gd (Ab (x166.tdiv 16))<|(Ae N (x166.tdiv 16) 4).bind λbp=>gd (Ab ((aq+1)+bp))<|(Ae N ai 100).bind λd8=>gd (Ab (x166.tdiv 64))<|(Ae N (x166.tdiv 64) 8).bind λbo=>gd (Ab (1+bo))<|gd (Ab (x166.tdiv 512))<|(Ae N (x166.tdiv 512) 8).bind λd7=>some (d8,1+bo,d7,[(4*aa,4*ae),(min ((4*aa)+(4*(1+af))) 40,(4*ae)+(4*(1+ah))),(4*aa,(4*ae)+(4*(1+ah)))],aq,(aq+1)+bp))else((Ae N ai 100).bind λd6=>gd (Ab (x166.tdiv 64))<|(Ae N (x166.tdiv 64) 8).bind λbm=>gd (Ab (1+bm))<|gd (Ab (x166.tdiv 512))<|(Ae N (x166.tdiv 512) 8).bind λd5=>some (d6,1+bm,d5,[(4*aa,4*ae),(min ((4*aa)+(4*(1+af))) 40,(4*ae)+(4*(1+ah))),(4*aa,(4*ae)+(4*(1+ah)))],0,4)))else((Ae N x166 4).bind λdz=>bif decide (dz=3)then(gd (Ab (x166.tdiv 4))<|(Ae N (x166.tdiv 4) 4).bind λan=>gd (Ab (an+1))<|gd (Ab (x166.tdiv 16))<|(Ae N (x166.tdiv 16) 4).bind λbj=>gd (Ab ((an+1)+bj))<|(Ae N ai 100).bind λdw=>gd (Ab (x166.tdiv 64))<|(Ae N (x166.tdiv 64) 8).bind λbi=>gd (Ab (1+bi))<|gd (Ab (x166.tdiv 512))<|(Ae N (x166.tdiv 512) 8).bind λdu=>some (dw,1+bi,du,[(4*aa,4*ae),(min ((4*aa)+(4*(1+af))) 40,4*ae),(min ((4*aa)+(4*(1+af))) 40,(4*ae)+(4*(1+ah))),(4*aa,(4*ae)+(4*(1+ah)))],an,(an+1)+bj))else((Ae N ai 100).bind λdt=>gd (Ab (x166.tdiv 64))<|(Ae N (x166.tdiv 64) 8).bind λbh=>gd (Ab (1+bh))<|gd (Ab (x166.tdiv 512))<|(Ae N (x166.tdiv 512) 8).bind λdq=>some (dt,1+bh,dq,[(4*aa,4*ae),(min ((4*aa)+(4*(1+af))) 40,4*ae),(min ((4*aa)+(4*(1+af))) 40,(4*ae)+(4*(1+ah))),(4*aa,(4*ae)+(4*(1+ah)))],0,4))))))
@[go_sem] def s14(N:Nat):Spec:=p0<|pI λai=>pG<|pI λaz=>pI λx162=>pI λx163=>pI λx164=>pI λx165=>pI λx166=>pE<|pE<|pF (B7 N ai az x162 x163 x164 x165 x166) (0,0,0,[],0,0) λr=>.agg [.i r.1,.i r.2.1,.i r.2.2.1,A3 r.2.2.2.1,.i r.2.2.2.2.1,.i r.2.2.2.2.2]
theorem ZA(N:Nat):AZ Tryz.prog 14 (s14 N):=by
 refine Ax x14.ok<|Ad λai=>A2<|Ad λaz=>Ad λx162=>Ad λx163=>Ad λx164=>Ad λx165=>Ad λx166=>Ai<|Ai<|Ay λr h=>wx x14 (Ac (UE N)<|An) λ_ hS F=>?_
 dsimp only[x14,Al];unfold B7 at h;obtain⟨aa,ke,om,ae,j9,oj,af,j8,m8,mg,lq,ah,j7,kq,oh,og,ay,j6,h⟩:=un h;replace F:=fc j6 (fc j7 (fc j8 (fc j9 (fc ke F))));refine Ap hS F h (λ_ h=>?_) (λ_ h=>?_)
 ·obtain⟨oe,oa,gt,j5,h⟩:=un h;replace F:=fc j5 F;refine Ap hS F h (λ_ h=>?_) (λ_ h=>?_)
  ·obtain⟨n9,aw,jz,n8,n7,ce,jy,n5,gj,jx,n4,b9,jw,nz,ny,gi,jv,h⟩:=un h;exact Af hS (fc jv (fc jw (fc jx (fc jy (fc jz F))))) h
  ·obtain⟨gh,ju,nw,bz,jt,nv,nu,gf,js,h⟩:=un h;exact Af hS (fc js (fc jt (fc ju F))) h
 ·refine Ap hS F h (λ_ h=>?_) (λ_ h=>?_)
  ·obtain⟨nr,nq,gc,jr,h⟩:=un h;replace F:=fc jr F;refine Ap hS F h (λ_ h=>?_) (λ_ h=>?_)
   ·obtain⟨no,av,jq,nk,nj,bw,jp,nh,fq,jo,ng,bv,jn,nb,m9,fp,jm,h⟩:=un h;exact Af hS (fc jm (fc jn (fc jo (fc jp (fc jq F))))) h
   ·obtain⟨fo,jk,m7,r285,jj,mz,my,fj,ji,h⟩:=un h;exact Af hS (fc ji (fc jj (fc jk F))) h
  ·refine Ap hS F h (λ_ h=>?_) (λ_ h=>?_)
   ·obtain⟨fh,jh,h⟩:=un h;replace F:=fc jh F;refine Ap hS F h (λ_ h=>?_) (λ_ h=>?_)
    ·obtain⟨mu,au,jg,mr,mq,bu,jf,mo,fg,je,mn,br,jd,mj,mh,fb,jc,h⟩:=un h;exact Af hS (fc jc (fc jd (fc je (fc jf (fc jg F))))) h
    ·obtain⟨ez,jb,me,bq,ja,md,mb,eh,i9,h⟩:=un h;exact Af hS (fc i9 (fc ja (fc jb F))) h
   ·refine Ap hS F h (λ_ h=>?_) (λ_ h=>?_)
    ·obtain⟨d9,i8,h⟩:=un h;replace F:=fc i8 F;refine Ap hS F h (λ_ h=>?_) (λ_ h=>?_)
     ·obtain⟨ma,aq,i7,l7,l6,bp,i6,l5,d8,iz,lz,bo,iy,lw,lr,d7,iw,h⟩:=un h;exact Af hS (fc iw (fc iy (fc iz (fc i6 (fc i7 F))))) h
     ·obtain⟨d6,iv,lm,bm,ir,lj,li,d5,iq,h⟩:=un h;exact Af hS (fc iq (fc ir (fc iv F))) h
    ·obtain⟨dz,ip,h⟩:=un h;replace F:=fc ip F;refine Ap hS F h (λ_ h=>?_) (λ_ h=>?_)
     ·obtain⟨lh,an,ij,lg,lf,bj,ig,k9,dw,ie,kw,bi,ic,kv,kr,du,g9,h⟩:=un h;exact Af hS (fc g9 (fc ic (fc ie (fc ig (fc ij F))))) h
     ·obtain⟨dt,g8,km,bh,gz,kl,kj,dq,gy,h⟩:=un h;exact Af hS (fc gy (fc gz (fc g8 F))) h
def DU(N:Nat)(x429:List (Int×Int×Int×Int×Int×Int)):Nat->Int->(List (Int×Int×Int×(List (Int×Int))×Int×Int))->Option ((List (Int×Int×Int×(List (Int×Int))×Int×Int)))|0,_,_=>none|n+1,aj,am=>bif (decide (aj<(x429.length:Int)))&&(decide (aj<12))then(gd (Ab (3*aj))<|(AA x429 aj).bind λ(cz,cy,cu,cr,cq,bb)=>(Ae N bb 3).bind λbg=>gd (Ab ((3*aj)+bg))<|(B7 N ((3*aj)+bg) cz cy cu cr cq bb).bind λ(dp,dm,dl,dh,dg,de)=>(FS N am dp dm dl dh dg de).bind λ(be,db)=>bif decide (db=0)then(gd (Ab (aj+1))<|DU N x429 n (aj+1) be)else(gd (Ab (aj+1))<|DU N x429 n (aj+1) am))else(some am)
def DZ(N:Nat)(x429:List (Int×Int×Int×Int×Int×Int)):Option (List (Int×Int×Int×(List (Int×Int))×Int×Int)):=(DU N x429 N 0 []).bind λkg=>some kg
@[go_sem] def s12(N:Nat):Spec:=p0<|pS QV λx429=>pE<|pF (DZ N x429) [] λr=>.agg [Aj r]
theorem ZB(N:Nat):AZ Tryz.prog 12 (s12 N):=by
 refine Ax x12.ok<|Bf λx429=>Ai<|Ay λr h=>wx x12 (Ac (UE N)<|Ac (ZA N)<|Ac (oU N)<|An) λ_ hS F=>?_
 dsimp only[x12,Al,QV];unfold DZ at h;refine go hS F ?_;refine sE (100,2) 0 6 [.i 0,.i 0,.i 0,.sl 0 true [] [],.i 0,.i 0] (ev F) ?_;obtain⟨kh,oc,h⟩:=un h;refine go hS F ?_;refine AM kh (λz:(List (Int×Int×Int×(List (Int×Int))×Int×Int))×Nat=>⟨[(2,.box (0,1) 0),(3,.box (100,2) 0)],[(.c (100,2) 0,Aj z.1),(.c (0,1) 0,.sl 0 true [] [])],z.2⟩) (λz=>(z.1:(List (Int×Int×Int×(List (Int×Int))×Int×Int)))) (.x 0) ?_ ?_
 ·refine AH (λn (y:Int×(List (Int×Int×Int×(List (Int×Int))×Int×Int))×Nat)=>DU N x429 n y.1 y.2.1) (λy=>⟨[(0,KI x429),(2,.box (0,1) 0),(3,.box (100,2) 0),(4,.i y.1)],[(.c (100,2) 0,Aj y.2.1),(.c (0,1) 0,.sl 0 true [] [])],y.2.2⟩) (0,[],3) oc (Bn F) ?_;rintro n ⟨aj,am,co⟩ ak;simp only[DU]at ak;refine Ap hS F ak (λ_ ak=>?_) (λ_ ak=>?_)
  ·obtain⟨m8,⟨cz,cy,cu,cr,cq,bb⟩,kf,ak⟩:=un ak;obtain⟨ki,F⟩:=Bt HS kf F;obtain⟨bg,gx,mg,⟨dp,dm,dl,dh,dg,de⟩,gw,ak⟩:=un ak;obtain⟨⟨be,db⟩,gu,ak⟩:=un ak;replace F:=fc gu (fc gw (fc gx F));refine Ap hS F ak (λ_ ak=>?_) (λ_ ak=>?_)
   ·obtain⟨lq,ak⟩:=un ak;exact Bk hS F (n,aj+1,be,co+1+1+1+1+1) ak
   ·obtain⟨kq,ak⟩:=un ak;exact Bk hS F (n,aj+1,am,co+1+1+1+1) ak
  ·exact A9 hS F (am,co+1) ak
 ·rintro⟨kg,od⟩ rfl;exact Af hS F h
