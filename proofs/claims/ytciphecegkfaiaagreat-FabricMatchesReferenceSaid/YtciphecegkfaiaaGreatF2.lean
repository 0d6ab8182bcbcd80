import Derived.Test.YtciphecegkfaiaaGreatE6
import Derived.Test.YtciphecegkfaiaaGreatK6
import Derived.Test.YtciphecegkfaiaaGreatE1
set_option linter.unusedSimpArgs false
set_option linter.unusedVariables false
namespace Go.Proofs.YtciphecegkfaiaaGreat.Am
open Go
section
attribute [local irreducible] As Cn B6 BK CA BJ Bv Cl Cv Dx
set_option maxRecDepth 100000
set_option maxHeartbeats 8000000
def KH(x:List Int):List AV:=[GY x]
def VG:List AV->List Int|[.sl _ _ a1 _]=>(a1.map cH)|_=>[]
theorem Abu(x:List Int):VG (KH x)=x:=by simp only[KH,VG,GY,yD]
theorem Abv(R:List (List Int)):(R.map KH).map VG=R:=by
 induction R with
 |nil=>rfl
 |cons r R ih=>rw[eZ,eZ,ih,Abu]
def Ak(x:Int×Int×Int×(List (Int×Int))×Int×Int):List AV:=[.i x.1,.i x.2.1,.i x.2.2.1,A3 x.2.2.2.1,.i x.2.2.2.2.1,.i x.2.2.2.2.2]
def I2:List AV->Int×Int×Int×(List (Int×Int))×Int×Int|[.v (.int _ a1),.v (.int _ a2),.v (.int _ a3),.sl _ _ a4 _,.v (.int _ a5),.v (.int _ a6)]=>(a1,a2,a3,(a4.map Nf),a5,a6)|_=>(0,0,0,[],0,0)
theorem Ur(x:Int×Int×Int×(List (Int×Int))×Int×Int):I2 (Ak x)=x:=by simp only[Ak,I2,A3,P3]
theorem Us(R:List (Int×Int×Int×(List (Int×Int))×Int×Int)):(R.map Ak).map I2=R:=by
 induction R with
 |nil=>rfl
 |cons r R ih=>rw[eZ,eZ,ih,Ur]
theorem Ut{R:List (Int×Int×Int×(List (Int×Int))×Int×Int)}{i:Int}{x:(Int×Int×Int×(List (Int×Int))×Int×Int)}(h:AA R i=some x)(d:List AV):BG (R.map Ak) d i.toNat=Ak x:=by
 unfold AA at h;split at h
 ·unfold BG;rw[eT,qX,h];rfl
 ·cases h
def B0(x:Int×Int×((Int×Int)×(Int×Int))×Int×Int):List AV:=[.i x.1,.i x.2.1,.i x.2.2.1.1.1,.i x.2.2.1.1.2,.i x.2.2.1.2.1,.i x.2.2.1.2.2,.i x.2.2.2.1,.i x.2.2.2.2]
def Jm:List AV->Int×Int×((Int×Int)×(Int×Int))×Int×Int|[.v (.int _ a1),.v (.int _ a2),.v (.int _ a3),.v (.int _ a4),.v (.int _ a5),.v (.int _ a6),.v (.int _ a7),.v (.int _ a8)]=>(a1,a2,((a3,a4),(a5,a6)),a7,a8)|_=>(0,0,((0,0),(0,0)),0,0)
theorem Sa(x:Int×Int×((Int×Int)×(Int×Int))×Int×Int):Jm (B0 x)=x:=by rfl
theorem Sb(R:List (Int×Int×((Int×Int)×(Int×Int))×Int×Int)):(R.map B0).map Jm=R:=by
 induction R with
 |nil=>rfl
 |cons r R ih=>rw[eZ,eZ,ih,Sa]
theorem Sc(R:List (Int×Int×((Int×Int)×(Int×Int))×Int×Int))(i:Nat):BG (R.map B0) [.i 0,.i 0,.i 0,.i 0,.i 0,.i 0,.i 0,.i 0] i=B0 (R.getD i (0,0,((0,0),(0,0)),0,0)):=by unfold BG;rw[eT,eT,qX];cases R[i]? <;>rfl
def Zr:Rw (List Int):=⟨1,KH,VG,[.sl 0 true [] []]⟩
def Lz(l:List (List Int)):AV:=.sl 1 false (l.map KH) [.sl 0 true [] []]
def kZ(l:List (List Int)):AV:=.sl 1 true (l.map KH) [.sl 0 true [] []]
attribute [go_sem] Zr Lz kZ KH VG Abv
def Ar:Rw (Int×Int×Int×(List (Int×Int))×Int×Int):=⟨6,Ak,I2,[.i 0,.i 0,.i 0,.sl 0 true [] [],.i 0,.i 0]⟩
def Aj(l:List (Int×Int×Int×(List (Int×Int))×Int×Int)):AV:=.sl 6 false (l.map Ak) [.i 0,.i 0,.i 0,.sl 0 true [] [],.i 0,.i 0]
def Bl(l:List (Int×Int×Int×(List (Int×Int))×Int×Int)):AV:=.sl 6 true (l.map Ak) [.i 0,.i 0,.i 0,.sl 0 true [] [],.i 0,.i 0]
attribute [go_sem] Ar Aj Bl Ak I2 Us
@[go_sem] theorem sV(R:List (Int×Int×Int×(List (Int×Int))×Int×Int))(i:Nat):cut 0 1 (BG (R.map Ak) [.i 0,.i 0,.i 0,.sl 0 true [] [],.i 0,.i 0] i)=some [.i (R.getD i (0,0,0,[],0,0)).1]:=by unfold BG;rw[eT,eT,qX];cases R[i]? <;>rfl
@[go_sem] theorem sW(R:List (Int×Int×Int×(List (Int×Int))×Int×Int))(i:Nat):cut 1 1 (BG (R.map Ak) [.i 0,.i 0,.i 0,.sl 0 true [] [],.i 0,.i 0] i)=some [.i (R.getD i (0,0,0,[],0,0)).2.1]:=by unfold BG;rw[eT,eT,qX];cases R[i]? <;>rfl
@[go_sem] theorem sX(R:List (Int×Int×Int×(List (Int×Int))×Int×Int))(i:Nat):cut 2 1 (BG (R.map Ak) [.i 0,.i 0,.i 0,.sl 0 true [] [],.i 0,.i 0] i)=some [.i (R.getD i (0,0,0,[],0,0)).2.2.1]:=by unfold BG;rw[eT,eT,qX];cases R[i]? <;>rfl
@[go_sem] theorem sY(R:List (Int×Int×Int×(List (Int×Int))×Int×Int))(i:Nat):cut 4 1 (BG (R.map Ak) [.i 0,.i 0,.i 0,.sl 0 true [] [],.i 0,.i 0] i)=some [.i (R.getD i (0,0,0,[],0,0)).2.2.2.2.1]:=by unfold BG;rw[eT,eT,qX];cases R[i]? <;>rfl
@[go_sem] theorem sZ(R:List (Int×Int×Int×(List (Int×Int))×Int×Int))(i:Nat):cut 5 1 (BG (R.map Ak) [.i 0,.i 0,.i 0,.sl 0 true [] [],.i 0,.i 0] i)=some [.i (R.getD i (0,0,0,[],0,0)).2.2.2.2.2]:=by unfold BG;rw[eT,eT,qX];cases R[i]? <;>rfl
def G3:Rw (Int×Int×((Int×Int)×(Int×Int))×Int×Int):=⟨8,B0,Jm,[.i 0,.i 0,.i 0,.i 0,.i 0,.i 0,.i 0,.i 0]⟩
def Bq(l:List (Int×Int×((Int×Int)×(Int×Int))×Int×Int)):AV:=.sl 8 false (l.map B0) [.i 0,.i 0,.i 0,.i 0,.i 0,.i 0,.i 0,.i 0]
def Ej(l:List (Int×Int×((Int×Int)×(Int×Int))×Int×Int)):AV:=.sl 8 true (l.map B0) [.i 0,.i 0,.i 0,.i 0,.i 0,.i 0,.i 0,.i 0]
attribute [go_sem] G3 Bq Ej B0 Jm Sb Sc
def Ae(N:Nat)(c1645:Int)(af:Int):Option Int:=bif decide (c1645<0)then(gd (Ab (c1645+1))<|gd (Ab (-(c1645+1)))<|gd (af≠0)<|some ((-(c1645+1)).tmod af))else(gd (af≠0)<|some (c1645.tmod af))
@[go_sem] def s50(N:Nat):Spec:=p0<|pI λc1645=>pI λaf=>pE<|pF (Ae N c1645 af) 0 λr=>.i r
theorem UE(N:Nat):AZ Tryz.prog 50 (s50 N):=by
 refine Ax x50.ok<|Ad λc1645=>Ad λaf=>Ai<|Ay λr h=>wx x50 (An) λ_ hS F=>?_
 dsimp only[x50,Al];unfold Ae at h;refine Ap hS F h (λ_ h=>?_) (λ_ h=>?_)
 ·obtain⟨n8,oh,kr,h⟩:=un h;exact Af hS F h
 ·obtain⟨n7,h⟩:=un h;exact Af hS F h
def Bd(N:Nat)(be:Int)(bb:Int)(az:Int)(u1650:List (Int×Int))(ay:Int)(aw:Int):Option (Int×Int×Int×(List (Int×Int))×Int×Int):=gd ((u1650.length)*16<=140737488355328)<|some (be,bb,az,u1650,ay,aw)
@[go_sem] def s53(N:Nat):Spec:=p0<|pG<|pI λbe=>pI λbb=>pI λaz=>pS AF λu1650=>pI λay=>pI λaw=>pE<|pE<|pF (Bd N be bb az u1650 ay aw) (0,0,0,[],0,0) λr=>.agg [.i r.1,.i r.2.1,.i r.2.2.1,A3 r.2.2.2.1,.i r.2.2.2.2.1,.i r.2.2.2.2.2]
theorem P5(N:Nat):AZ Tryz.prog 53 (s53 N):=by
 refine Ax x53.ok<|A2<|Ad λbe=>Ad λbb=>Ad λaz=>Bf λu1650=>Ad λay=>Ad λaw=>Ai<|Ai<|Ay λr h=>wx x53 (An) λ_ hS F=>?_
 dsimp only[x53,Al,AF];unfold Bd at h;obtain⟨n8,h⟩:=un h;exact Af hS F h
def Gs(N:Nat)(f1653:List (Int×Int×Int×(List (Int×Int))×Int×Int)):Nat->Int->(List (Int×Int×Int×(List (Int×Int))×Int×Int))->Option ((List (Int×Int×Int×(List (Int×Int))×Int×Int)))|0,_,_=>none|n+1,an,l1688=>bif decide (an<(f1653.length:Int))then((AA f1653 an).bind λ(g8,gz,gy,gx,gw,gu)=>(Bd N g8 gz gy gx gw gu).bind λ(bv,bu,br,bq,bp,bo)=>gd ((l1688.length+1)*64<=140737488355328)<|gd (Ab (an+1))<|Gs N f1653 n (an+1) (l1688++[(bv,bu,br,bq,bp,bo)]))else(some l1688)
def Li(N:Nat)(f1653:List (Int×Int×Int×(List (Int×Int))×Int×Int)):Option (List (Int×Int×Int×(List (Int×Int))×Int×Int)):=(Gs N f1653 N 0 []).bind λkg=>some kg
@[go_sem] def s51(N:Nat):Spec:=p0<|pG<|pD Ar λf1653=>pE<|pE<|pF (Li N f1653) [] λr=>.agg [Aj r]
def CO(N:Nat)(a1709:List (Int×Int×Int×(List (Int×Int))×Int×Int))(b1710:List (Int×Int×Int×(List (Int×Int))×Int×Int)):Nat->Int->Option (Sum Unit Bool)|0,_=>none|n+1,am=>bif decide (am<(a1709.length:Int))then((AA a1709 am).bind λ(gt,gj,gi,gh,gf,gc)=>(AA b1710 am).bind λ(fq,fp,fo,fj,fh,fg)=>(BZ N gt gj gi gh gf gc fq fp fo fj fh fg).bind λkf=>bif !kf then(some (.inr false))else(gd (Ab (am+1))<|CO N a1709 b1710 n (am+1)))else(some (.inl ()))
def AD(N:Nat)(a1709:List (Int×Int×Int×(List (Int×Int))×Int×Int))(b1710:List (Int×Int×Int×(List (Int×Int))×Int×Int)):Option Bool:=bif decide ((a1709.length:Int)≠(b1710.length:Int))then(some false)else((CO N a1709 b1710 N 0).bind λco=>match co with|.inl ()=>(some true)|.inr nh=>(some nh))
@[go_sem] def s20(N:Nat):Spec:=p0<|pG<|pD Ar λa1709=>pE<|pG<|pD Ar λb1710=>pE<|pE<|pF (AD N a1709 b1710) false λr=>.b r
theorem Zs(N:Nat):AZ Tryz.prog 20 (s20 N):=by
 refine Ax x20.ok<|A2<|Dj λa1709=>Ai<|A2<|Dj λb1710=>Ai<|Ai<|Ay λr h=>wx x20 (Ac (Zn N)<|An) λ_ hS F=>?_
 dsimp only[x20,Al,Ar];unfold AD at h;refine Ap hS F h (λ_ h=>?_) (λ_ h=>?_)
 ·exact Af hS F h
 ·obtain⟨co,cq,h⟩:=un h;refine go hS F ?_;refine AM co (λz:Nat=>⟨[],[],z⟩) (λz=>(.inl ():Sum Unit Bool)) (.x 0) ?_ ?_
  ·refine AH (λn (y:Int×Nat)=>CO N a1709 b1710 n y.1) (λy=>⟨[(2,.box (0,1) 0),(3,.box (1,1) 0),(5,.i y.1)],[(.c (1,1) 0,Aj b1710),(.c (0,1) 0,Aj a1709)],y.2⟩) (0,3) cq (Bn F) ?_;rintro n ⟨am,km⟩ aa;simp only[CO]at aa;refine Ap hS F aa (λ_ aa=>?_) (λ_ aa=>?_)
   ·obtain⟨⟨gt,gj,gi,gh,gf,gc⟩,mz,aa⟩:=un aa;obtain⟨n4,F⟩:=Bt Ak mz F;obtain⟨⟨fq,fp,fo,fj,fh,fg⟩,my,aa⟩:=un aa;obtain⟨nz,F⟩:=Bt Ak my F;obtain⟨kf,md,aa⟩:=un aa;replace F:=fc md F;refine Ap hS F aa (λ_ aa=>?_) (λ_ aa=>?_)
    ·obtain rfl:=yJ aa;exact Af hS F h
    ·obtain⟨kr,aa⟩:=un aa;exact Bk hS F (n,am+1,km+1+1+1) aa
   ·exact A9 hS F (km+1) aa
  ·rintro oe rfl;exact Af hS F h
def Co(N:Nat)(a1751:List (Int×Int×((Int×Int)×(Int×Int))×Int×Int))(b1752:List (Int×Int×((Int×Int)×(Int×Int))×Int×Int)):Nat->Int->Option (Sum Unit Bool)|0,_=>none|n+1,ak=>bif decide (ak<(a1751.length:Int))then((AA a1751 ak).bind λ(fb,ez,((eh,d9),(d8,d7)),d6,d5)=>(AA b1752 ak).bind λ(dz,dw,((du,dt),(dq,dp)),dm,dl)=>bif !(decide (fb=dz)&&(decide (ez=dw)&&(decide (eh=du)&&(decide (d9=dt)&&(decide (d8=dq)&&(decide (d7=dp)&&(decide (d6=dm)&&decide (d5=dl))))))))then(some (.inr false))else(gd (Ab (ak+1))<|Co N a1751 b1752 n (ak+1)))else(some (.inl ()))
def AU(N:Nat)(a1751:List (Int×Int×((Int×Int)×(Int×Int))×Int×Int))(b1752:List (Int×Int×((Int×Int)×(Int×Int))×Int×Int)):Option Bool:=bif decide ((a1751.length:Int)≠(b1752.length:Int))then(some false)else((Co N a1751 b1752 N 0).bind λce=>match ce with|.inl ()=>(some true)|.inr ng=>(some ng))
@[go_sem] def s38(N:Nat):Spec:=p0<|pS G3 λa1751=>pS G3 λb1752=>pE<|pF (AU N a1751 b1752) false λr=>.b r
theorem oI(N:Nat):AZ Tryz.prog 38 (s38 N):=by
 refine Ax x38.ok<|Bf λa1751=>Bf λb1752=>Ai<|Ay λr h=>wx x38 (An) λ_ hS F=>?_
 dsimp only[x38,Al,G3];unfold AU at h;refine Ap hS F h (λ_ h=>?_) (λ_ h=>?_)
 ·exact Af hS F h
 ·obtain⟨ce,cq,h⟩:=un h;refine go hS F ?_;refine AM ce (λz:Nat=>⟨[],[],z⟩) (λz=>(.inl ():Sum Unit Bool)) (.x 0) ?_ ?_
  ·refine AH (λn (y:Int×Nat)=>Co N a1751 b1752 n y.1) (λy=>⟨[(0,Bq a1751),(1,Bq b1752),(5,.i y.1)],[],y.2⟩) (0,3) cq (Bn F) ?_;rintro n ⟨ak,kl⟩ aa;simp only[Co]at aa;refine Ap hS F aa (λ_ aa=>?_) (λ_ aa=>?_)
   ·obtain⟨⟨fb,ez,⟨⟨eh,d9⟩,⟨d8,d7⟩⟩,d6,d5⟩,mu,aa⟩:=un aa;obtain⟨ny,F⟩:=Bt B0 mu F;obtain⟨⟨dz,dw,⟨⟨du,dt⟩,⟨dq,dp⟩⟩,dm,dl⟩,mr,aa⟩:=un aa;obtain⟨nw,F⟩:=Bt B0 mr F;refine Ap hS F aa (λ_ aa=>?_) (λ_ aa=>?_)
    ·obtain rfl:=yJ aa;exact Af hS F h
    ·obtain⟨kr,aa⟩:=un aa;exact Bk hS F (n,ak+1,kl+1+1+1) aa
   ·exact A9 hS F (kl+1) aa
  ·rintro od rfl;exact Af hS F h
def CR(N:Nat)(a1797:List (Int×Int))(b1798:List (Int×Int)):Nat->Int->Option (Sum Unit Bool)|0,_=>none|n+1,aj=>bif decide (aj<(a1797.length:Int))then((AA a1797 aj).bind λ(dh,dg)=>(AA b1798 aj).bind λ(de,db)=>bif !(decide (dh=de)&&decide (dg=db))then(some (.inr false))else(gd (Ab (aj+1))<|CR N a1797 b1798 n (aj+1)))else(some (.inl ()))
def BA(N:Nat)(a1797:List (Int×Int))(b1798:List (Int×Int)):Option Bool:=bif decide ((a1797.length:Int)≠(b1798.length:Int))then(some false)else((CR N a1797 b1798 N 0).bind λb9=>match b9 with|.inl ()=>(some true)|.inr nb=>(some nb))
@[go_sem] def s40(N:Nat):Spec:=p0<|pS AF λa1797=>pS AF λb1798=>pE<|pF (BA N a1797 b1798) false λr=>.b r
theorem oJ(N:Nat):AZ Tryz.prog 40 (s40 N):=by
 refine Ax x40.ok<|Bf λa1797=>Bf λb1798=>Ai<|Ay λr h=>wx x40 (An) λ_ hS F=>?_
 dsimp only[x40,Al,AF];unfold BA at h;refine Ap hS F h (λ_ h=>?_) (λ_ h=>?_)
 ·exact Af hS F h
 ·obtain⟨b9,cq,h⟩:=un h;refine go hS F ?_;refine AM b9 (λz:Nat=>⟨[],[],z⟩) (λz=>(.inl ():Sum Unit Bool)) (.x 0) ?_ ?_
  ·refine AH (λn (y:Int×Nat)=>CR N a1797 b1798 n y.1) (λy=>⟨[(0,A3 a1797),(1,A3 b1798),(5,.i y.1)],[],y.2⟩) (0,3) cq (Bn F) ?_;rintro n ⟨aj,kj⟩ aa;simp only[CR]at aa;refine Ap hS F aa (λ_ aa=>?_) (λ_ aa=>?_)
   ·obtain⟨⟨dh,dg⟩,mq,aa⟩:=un aa;obtain⟨nv,F⟩:=Bt By mq F;obtain⟨⟨de,db⟩,mo,aa⟩:=un aa;obtain⟨nu,F⟩:=Bt By mo F;refine Ap hS F aa (λ_ aa=>?_) (λ_ aa=>?_)
    ·obtain rfl:=yJ aa;exact Af hS F h
    ·obtain⟨kr,aa⟩:=un aa;exact Bk hS F (n,aj+1,kj+1+1+1) aa
   ·exact A9 hS F (kj+1) aa
  ·rintro oc rfl;exact Af hS F h
def DS(N:Nat)(a1819:List Int)(b1820:List Int):Nat->Int->Option (Sum Unit Bool)|0,_=>none|n+1,ai=>bif decide (ai<(a1819.length:Int))then((AA a1819 ai).bind λcz=>(AA b1820 ai).bind λcy=>bif decide (cz≠cy)then(some (.inr false))else(gd (Ab (ai+1))<|DS N a1819 b1820 n (ai+1)))else(some (.inl ()))
def Ds(N:Nat)(a1819:List Int)(b1820:List Int):Option Bool:=bif decide ((a1819.length:Int)≠(b1820.length:Int))then(some false)else((DS N a1819 b1820 N 0).bind λbz=>match bz with|.inl ()=>(some true)|.inr m9=>(some m9))
@[go_sem] def s41(N:Nat):Spec:=p0<|pS TL λa1819=>pS TL λb1820=>pE<|pF (Ds N a1819 b1820) false λr=>.b r
theorem Zt(N:Nat):AZ Tryz.prog 41 (s41 N):=by
 refine Ax x41.ok<|Bf λa1819=>Bf λb1820=>Ai<|Ay λr h=>wx x41 (An) λ_ hS F=>?_
 dsimp only[x41,Al,TL];unfold Ds at h;refine Ap hS F h (λ_ h=>?_) (λ_ h=>?_)
 ·exact Af hS F h
 ·obtain⟨bz,cq,h⟩:=un h;refine go hS F ?_;refine AM bz (λz:Nat=>⟨[],[],z⟩) (λz=>(.inl ():Sum Unit Bool)) (.x 0) ?_ ?_
  ·refine AH (λn (y:Int×Nat)=>DS N a1819 b1820 n y.1) (λy=>⟨[(0,GY a1819),(1,GY b1820),(5,.i y.1)],[],y.2⟩) (0,3) cq (Bn F) ?_;rintro n ⟨ai,ki⟩ aa;simp only[DS]at aa;refine Ap hS F aa (λ_ aa=>?_) (λ_ aa=>?_)
   ·obtain⟨cz,mn,cy,mj,aa⟩:=un aa;obtain⟨nr,F⟩:=Bt IB mn F;obtain⟨nq,F⟩:=Bt IB mj F;refine Ap hS F aa (λ_ aa=>?_) (λ_ aa=>?_)
    ·obtain rfl:=yJ aa;exact Af hS F h
    ·obtain⟨kr,aa⟩:=un aa;exact Bk hS F (n,ai+1,ki+1+1+1) aa
   ·exact A9 hS F (ki+1) aa
  ·rintro oa rfl;exact Af hS F h
def CG(N:Nat)(a1837:List (List Int))(b1838:List (List Int)):Nat->Int->Option (Sum Unit Bool)|0,_=>none|n+1,ah=>bif decide (ah<(a1837.length:Int))then((AA a1837 ah).bind λcu=>(AA b1838 ah).bind λcr=>(Ds N cu cr).bind λke=>bif !ke then(some (.inr false))else(gd (Ab (ah+1))<|CG N a1837 b1838 n (ah+1)))else(some (.inl ()))
def Ce(N:Nat)(a1837:List (List Int))(b1838:List (List Int)):Option Bool:=bif decide ((a1837.length:Int)≠(b1838.length:Int))then(some false)else((CG N a1837 b1838 N 0).bind λbw=>match bw with|.inl ()=>(some true)|.inr m8=>(some m8))
@[go_sem] def s39(N:Nat):Spec:=p0<|pD Zr λa1837=>pD Zr λb1838=>pE<|pF (Ce N a1837 b1838) false λr=>.b r
theorem oK(N:Nat):AZ Tryz.prog 39 (s39 N):=by
 refine Ax x39.ok<|Dj λa1837=>Dj λb1838=>Ai<|Ay λr h=>wx x39 (Ac (Zt N)<|An) λ_ hS F=>?_
 dsimp only[x39,Al,Zr];unfold Ce at h;refine Ap hS F h (λ_ h=>?_) (λ_ h=>?_)
 ·exact Af hS F h
 ·obtain⟨bw,cq,h⟩:=un h;refine go hS F ?_;refine AM bw (λz:Nat=>⟨[],[],z⟩) (λz=>(.inl ():Sum Unit Bool)) (.x 0) ?_ ?_
  ·refine AH (λn (y:Int×Nat)=>CG N a1837 b1838 n y.1) (λy=>⟨[(0,Lz a1837),(1,Lz b1838),(5,.i y.1)],[],y.2⟩) (0,3) cq (Bn F) ?_;rintro n ⟨ah,kh⟩ aa;simp only[CG]at aa;refine Ap hS F aa (λ_ aa=>?_) (λ_ aa=>?_)
   ·obtain⟨cu,mh,cr,mg,ke,mb,aa⟩:=un aa;obtain⟨no,F⟩:=Bt KH mh F;obtain⟨nk,F⟩:=Bt KH mg F;replace F:=fc mb F;refine Ap hS F aa (λ_ aa=>?_) (λ_ aa=>?_)
    ·obtain rfl:=yJ aa;exact Af hS F h
    ·obtain⟨kr,aa⟩:=un aa;exact Bk hS F (n,ah+1,kh+1+1+1) aa
   ·exact A9 hS F (kh+1) aa
  ·rintro n9 rfl;exact Af hS F h
def CH(N:Nat)(c1859:Int)(ae:Int):Option Int:=bif decide (c1859<0)then(gd (Ab (c1859+1))<|gd (Ab (-(c1859+1)))<|gd (ae≠0)<|some ((-(c1859+1)).tmod ae))else(gd (ae≠0)<|some (c1859.tmod ae))
@[go_sem] def s15(N:Nat):Spec:=p0<|pI λc1859=>pI λae=>pE<|pF (CH N c1859 ae) 0 λr=>.i r
theorem Zu(N:Nat):AZ Tryz.prog 15 (s15 N):=by
 refine Ax x15.ok<|Ad λc1859=>Ad λae=>Ai<|Ay λr h=>wx x15 (An) λ_ hS F=>?_
 dsimp only[x15,Al];unfold CH at h;refine Ap hS F h (λ_ h=>?_) (λ_ h=>?_)
 ·obtain⟨n8,oh,kr,h⟩:=un h;exact Af hS F h
 ·obtain⟨n7,h⟩:=un h;exact Af hS F h
def A6(N:Nat)(av:Int)(au:Int):Option (Int×Int):=some (av,au)
@[go_sem] def s37(N:Nat):Spec:=p0<|pI λav=>pI λau=>pE<|pF (A6 N av au) (0,0) λr=>.agg [.i r.1,.i r.2]
theorem oL(N:Nat):AZ Tryz.prog 37 (s37 N):=by
 refine Ax x37.ok<|Ad λav=>Ad λau=>Ai<|Ay λr h=>wx x37 (An) λ_ hS F=>?_
 dsimp only[x37,Al];unfold A6 at h;exact Af hS F h
def E9(N:Nat)(aq:Int)(bg:List (Int×Int)):Option (Int×Int×Int×(List (Int×Int))×Int×Int):=some (aq,2,0,bg,0,2)
@[go_sem] def Ado(N:Nat):Spec:=p0<|pI λaq=>pS AF λbg=>pE<|pF (E9 N aq bg) (0,0,0,[],0,0) λr=>.agg [.i r.1,.i r.2.1,.i r.2.2.1,A3 r.2.2.2.1,.i r.2.2.2.2.1,.i r.2.2.2.2.2]
theorem zE(N:Nat):AZ Tryz.prog 103 (Ado N):=by
 refine Ax x103.ok<|Ad λaq=>Bf λbg=>Ai<|Ay λr h=>wx x103 (An) λ_ hS F=>?_
 dsimp only[x103,Al,AF];unfold E9 at h;exact Af hS F h
def H8(N:Nat):Option (List (Int×Int×Int×(List (Int×Int))×Int×Int)):=(A6 N 0 0).bind λ(j9,j8)=>(A6 N 4 0).bind λ(j7,j6)=>(A6 N 4 4).bind λ(j5,jz)=>(A6 N 0 4).bind λ(bm,bj)=>(E9 N 1 [(j9,j8),(j7,j6),(j5,jz),(bm,bj)]).bind λ(jy,jx,jw,jv,ju,jt)=>(A6 N 8 0).bind λ(js,jr)=>(A6 N 12 0).bind λ(jq,jp)=>(A6 N 12 4).bind λ(bi,bh)=>(A6 N 8 4).bind λ(jo,jn)=>(E9 N 2 [(js,jr),(jq,jp),(bi,bh),(jo,jn)]).bind λ(jm,jk,jj,ji,jh,jg)=>(A6 N 12 6).bind λ(jf,je)=>(A6 N 0 6).bind λ(jd,jc)=>(E9 N 3 [(bm,bj),(bi,bh),(jf,je),(jd,jc)]).bind λ(jb,ja,i9,i8,i7,i6)=>(A6 N 20 8).bind λ(iz,iy)=>(A6 N 24 8).bind λ(iw,iv)=>(A6 N 22 12).bind λ(ir,iq)=>(E9 N 7 [(iz,iy),(iw,iv),(ir,iq)]).bind λ(ip,ij,ig,ie,ic,g9)=>some [(jy,jx,jw,jv,ju,jt),(jm,jk,jj,ji,jh,jg),(jb,ja,i9,i8,i7,i6),(ip,ij,ig,ie,ic,g9)]
@[go_sem] def s47(N:Nat):Spec:=p0<|pE<|pF (H8 N) [] λr=>.agg [Aj r]
theorem Abw(N:Nat):AZ Tryz.prog 47 (s47 N):=by
 refine Ax x47.ok<|Ai<|Ay λr h=>wx x47 (Ac (oL N)<|Ac (zE N)<|An) λ_ hS F=>?_
 dsimp only[x47,Al];unfold H8 at h;obtain⟨⟨j9,j8⟩,ma,h⟩:=un h;obtain⟨⟨j7,j6⟩,l7,h⟩:=un h;obtain⟨⟨j5,jz⟩,l6,h⟩:=un h;obtain⟨⟨bm,bj⟩,l5,h⟩:=un h;obtain⟨⟨jy,jx,jw,jv,ju,jt⟩,lz,h⟩:=un h;obtain⟨⟨js,jr⟩,lw,h⟩:=un h;obtain⟨⟨jq,jp⟩,lr,h⟩:=un h;obtain⟨⟨bi,bh⟩,lq,h⟩:=un h;obtain⟨⟨jo,jn⟩,lm,h⟩:=un h;obtain⟨⟨jm,jk,jj,ji,jh,jg⟩,lj,h⟩:=un h;obtain⟨⟨jf,je⟩,li,h⟩:=un h;obtain⟨⟨jd,jc⟩,lh,h⟩:=un h;obtain⟨⟨jb,ja,i9,i8,i7,i6⟩,lg,h⟩:=un h;obtain⟨⟨iz,iy⟩,lf,h⟩:=un h;obtain⟨⟨iw,iv⟩,k9,h⟩:=un h;obtain⟨⟨ir,iq⟩,kw,h⟩:=un h;obtain⟨⟨ip,ij,ig,ie,ic,g9⟩,kv,h⟩:=un h;exact Af hS (fc kv (fc kw (fc k9 (fc lf (fc lg (fc lh (fc li (fc lj (fc lm (fc lq (fc lr (fc lw (fc lz (fc l5 (fc l6 (fc l7 (fc ma F))))))))))))))))) h
end
section
attribute [local irreducible] As Cn B6 BK CA BJ Bv Cl Cv Dx
set_option maxRecDepth 100000
set_option maxHeartbeats 8000000
abbrev Un:=Int×Int×Int×(List (Int×Int))×Int×Int
def B1{E:Type}:List E->List (E×E)
 |[]=>[]
 |u::r=>r.map (λv=>(u,v))++B1 r
def gE(e:Un×Un):List AV:=[.agg (Ak e.1),.agg (Ak e.2)]
theorem nB{E:Type}{l:List E}{i:Nat}{u:E}(h:l[i]? =some u):B1 (l.drop i)=(l.drop (i+1)).map (λv=>(u,v))++B1 (l.drop (i+1)):=by obtain⟨h1,h2⟩:=i5.1 h;rw[mL h1,h2,B1]
theorem gF{l:List Un}{i:Nat}{u:Un}(h:l[i]? =some u)(d:List AV):BG (l.map Ak) d i=Ak u:=by unfold BG;rw[eT,qX,h];rfl
theorem AaE{E:Type}{l:List E}{k:Nat}{x:E}{r:List E}(h:l.drop k=x::r):l[k]? =some x/\l.drop (k+1)=r/\k<l.length:=by
 have h1:(l.drop k)[0]? =some x:=by rw[h];rfl
 rw[S6]at h1;refine⟨h1,?_,(i5.1 h1).1⟩;rw[<-zV,h];rfl
section
attribute [local go_sem] By P3 P4 Nf R5 R6 List.set_cons_succ List.isEmpty_map List.map_append List.map_eq_nil_iff ne_eq List.length_replicate XC XD List.length_set Option.isSome_some
theorem WH(l:List Un)(f:Bool)(hlen:l.length<=1000000000):TI Tryz.prog 124 [] [.ro [.sl 6 f (l.map Ak) [.i 0,.i 0,.i 0,.sl 0 true [] [],.i 0,.i 0]] 0] ((B1 l).map gE):=by
 refine Xp (An (P:=Tryz.prog)) _ x124.hf x124.hc x124.hn (by simp[x124,Al,gs]) (mO rfl) λy V hOK hTS hY hYD=>?_
 have hS:=An (P:=Tryz.prog);have F:=fc hTS f0;dsimp only[x124,Al,DE];refine go hOK F ?_;refine Is (λx:Nat×Nat×Nat=>⟨[(10,.i x.1),(9,.i l.length),(8,.sl 6 f (l.map Ak) [.i 0,.i 0,.i 0,.sl 0 true [] [],.i 0,.i 0]),(1,.ro [.sl 6 f (l.map Ak) [.i 0,.i 0,.i 0,.sl 0 true [] [],.i 0,.i 0]] 0),(gs,CL x.2.1),(0,.clo (.yield y) [] [])],[],x.2.2⟩)
  (λx=>x.1<=l.length/\x.2.1<=(B1 l).length/\(B1 l).drop x.2.1=B1 (l.drop x.1)) (λx=>l.length-x.1) (0,0,50) ?_ ?_ ?_
 ·simp
 ·exact Bn F
 ·rintro⟨i,k,c⟩ ⟨hi,hk,hd⟩;simp only at hi hk hd;refine go hOK F ?_;refine cb F (decide ((i:Int)<l.length)) (λhi1=>?_) (λhi1=>?_)
  ·have hi':i<l.length:=by simpa using hi1
   obtain⟨⟨a1,a2,a3,a4,a5,a6⟩,hu⟩:∃u,l[i]? =some u:=⟨_,eV hi'⟩
   rw[nB hu]at hd;have hrow:=gF hu;simp only[Ak]at hrow;have htn:((i:Int)+1).toNat=i+1:=by omega
   replace F:=fc hrow (fc htn F);refine go hOK F ?_;refine Is (λx:Nat×Nat×Nat=>⟨[(21,.i x.1),(20,.i (l.drop (i+1)).length),(19,.sl 6 f ((l.drop (i+1)).map Ak) [.i 0,.i 0,.i 0,.sl 0 true [] [],.i 0,.i 0]),(10,.i i),(9,.i l.length),(8,.sl 6 f (l.map Ak) [.i 0,.i 0,.i 0,.sl 0 true [] [],.i 0,.i 0]),(4,.box (203,c+1+1) 0),(1,.ro [.sl 6 f (l.map Ak) [.i 0,.i 0,.i 0,.sl 0 true [] [],.i 0,.i 0]] 0),(gs,CL x.2.1),(0,.clo (.yield y) [] [])],[(.c (203,c+1+1) 0,.i a1),(.c (203,c+1+1) 1,.i a2),(.c (203,c+1+1) 2,.i a3),(.c (203,c+1+1) 3,.sl 2 false (a4.map By) [.i 0,.i 0]),(.c (203,c+1+1) 4,.i a5),(.c (203,c+1+1) 5,.i a6)],x.2.2⟩)
    (λx=>x.1<=(l.drop (i+1)).length/\x.2.1<=(B1 l).length/\(B1 l).drop x.2.1=((l.drop (i+1)).drop x.1).map (λv=>((a1,a2,a3,a4,a5,a6),v))++B1 (l.drop (i+1))) (λx=>(l.drop (i+1)).length-x.1) (0,k,c+50) ?_ ?_ ?_
   ·exact⟨t7 _,hk,hd⟩
   ·exact Bn F
   ·rintro⟨j,k2,c2⟩ ⟨hj,hk2,hd2⟩;simp only at hj hk2 hd2;refine go hOK F ?_;refine cb F (decide ((j:Int)<(l.drop (i+1)).length)) (λhj1=>?_) (λhj1=>?_)
    ·have hj':j<(l.drop (i+1)).length:=by simpa using hj1
     obtain⟨⟨b1,b2,b3,b4,b5,b6⟩,hv⟩:∃u,(l.drop (i+1))[j]? =some u:=⟨_,eV hj'⟩
     have hrow2:=gF hv;simp only[Ak]at hrow2;have q1:((j+1:Nat):Int)=(j:Int)+1:=rfl;have q2:((k2+1:Nat):Int)=(k2:Int)+1:=rfl;replace F:=fc q1 (fc q2 (fc hrow2 F));rw[mL hj',show(l.drop (i+1))[j]=(b1,b2,b3,b4,b5,b6)from(i5.1 hv).2,eZ,s8]at hd2;obtain⟨g1,g2,g3⟩:=AaE hd2;refine go hOK F ?_;refine hY 3 (args:=gE ((a1,a2,a3,a4,a5,a6),(b1,b2,b3,b4,b5,b6))) rfl rfl (by simp only[go_sem,seval,F]<;>eq_refl) ?_ (by simp only[go_sem,seval]<;>eq_refl) (by simp only[go_sem,seval]<;>eq_refl) (by simp only[go_sem,seval]<;>eq_refl) (by simp only[go_sem,seval,Am.gE,Am.Ak]<;>eq_refl) ?_ (by simp only[go_sem,seval,F]<;>eq_refl) ?_ ?_ (by simp only[go_sem,seval,F]<;>eq_refl) ?_ ?_
     ·repeat' (first|exact yT|omega|apply And.intro)
     ·rw[qX,g1];rfl
     ·exact yT
     ·refine go hOK F ?_;refine cf F ?_;refine go hOK F ?_;exact H4 (j+1,k2+1,c2+50) ⟨by show j+1<=_;omega,by show k2+1<=_;omega,g2⟩ (by show(l.drop (i+1)).length-(j+1)<(l.drop (i+1)).length-j;omega) (Bn F)
     ·exact yT
     ·refine go hOK F ?_;refine ct F ?_;refine go hOK F ?_;refine R4 ?_;simp only[go_sem,seval]
    ·have:j=(l.drop (i+1)).length:=by
      have:¬((j:Int)<(l.drop (i+1)).length):=by simpa using hj1
      omega
     subst this;rw[w5,w7,nJ]at hd2;have q1:((i+1:Nat):Int)=(i:Int)+1:=rfl;replace F:=fc q1 F;refine go hOK F ?_;exact H4 (i+1,k2,c2+50) ⟨by show i+1<=_;omega,hk2,hd2⟩ (by show l.length-(i+1)<l.length-i;omega) (Bn F)
  ·refine go hOK F ?_;refine nY ?_;have:i=l.length:=by
    have:¬((i:Int)<l.length):=by simpa using hi1
    omega
   subst this;rw[w5,B1]at hd;have:k=(B1 l).length:=Nat.le_antisymm hk (List.drop_eq_nil_iff.1 hd);simp only[go_sem,seval,this,p9]
def SC:Spec|[.agg [.sl z f rows d]]=>some (True,.clo (.func 124) [] [.ro [.sl z f rows d] 0])|_=>none
theorem Ud:AZ Tryz.prog 85 SC:=⟨x85.ok,by
 intro args vc r h hv;unfold SC at h;split at h
 ·cases h
  refine N5 (An (P:=Tryz.prog)) _ x85.hf x85.hc x85.hn (mO rfl) λ_=>?_
  have hS:=An (P:=Tryz.prog);dsimp only[x85,Al,DE]
  repeat' (first
  |((with_reducible first|apply FP|apply GN|apply GI|apply HY|apply FQ|apply FR);(·(first|exact Ctx.fn_ok hS|exact Ctx.rd_ok hS|assumption|exact yT));iterate 2 (·(simp only[go_sem,seval]<;>eq_refl)))
  |(with_reducible first|apply FM|apply GD|apply Fm|apply FL|apply EZ|apply El|apply Ez|apply Fe|apply GE|apply GF|apply Gd|apply GG|apply F1)
  |(with_reducible apply GH;(·first|rfl|decide))
  |(with_reducible first|apply FN|apply FO|apply GK|apply GL|apply GM|apply yT|apply And.intro yT yT)
  |(fail_if_success with_reducible apply Jx);(fail_if_success with_reducible apply GJ);first|omega|(simp only[go_sem,seval];done)
  |fail)
  first|refine Mc (by simp only[go_sem,seval]<;>eq_refl) (by simp only[go_sem,seval]) (by simp only[go_sem,seval]) ?_ rfl|refine Md (by simp only[go_sem,seval]<;>eq_refl) (by simp only[go_sem,seval]) (by simp only[go_sem,seval]) ?_ rfl
  simp only[go_sem,seval]
 ·simp at h⟩
end
end
section
attribute [local irreducible] As Cn B6 BK CA BJ Bv Cl Cv Dx
set_option maxRecDepth 100000
set_option maxHeartbeats 8000000
theorem nC:FU Tryz.prog 79:=⟨_,Tryz.func79,by kernel_rfl,by kernel_rfl⟩
theorem AdJ:FU Tryz.prog 82:=⟨_,Tryz.func82,by kernel_rfl,by kernel_rfl⟩
theorem NJ{l:List Un}:∀r∈l.map Ak,r.length=6/\AS r=true:=λr hr=>by obtain⟨x,_,rfl⟩:=tI.1 hr;exact⟨rfl,rfl⟩
theorem YG{l:List Un}{i:Int}{u:Un}{d:List AV}(h0:0<=i)(h1:i<=l.length)(h2:(l.length+1)*64<=140737488355328):PV Tryz.prog 79 6 (l.map Ak) [.i i,.sl 6 false [Ak u] d] ((l.take i.toNat++[u]++l.drop i.toNat).map Ak):=by have h:=XY (rows:=l.map Ak) (u:=Ak u) (d:=d) (i:=i.toNat) (by rw[p9];omega) (by rw[p9];exact h2) (λr hr=>(NJ r hr).1);rw[show((i.toNat:Nat):Int)=i by omega]at h;rw[w9,w9,List.map_take,List.map_drop];exact h
theorem vE{l:List Un}{i:Int}(h0:0<=i)(h1:i<l.length)(h2:(l.length:Int)<=9223372036854775807):PV Tryz.prog 82 6 (l.map Ak) [.i i,.i (i+1)] ((l.take i.toNat++l.drop (i.toNat+1)).map Ak):=by have h:=tM (rows:=l.map Ak) (i:=i.toNat) (by rw[p9];omega) (by rw[p9];omega) (λr hr=>(NJ r hr).1);rw[show((i.toNat:Nat):Int)=i by omega,show((i.toNat+1:Nat):Int)=i+1 by omega]at h;rw[w9,List.map_take,List.map_drop];exact h
end
attribute [local irreducible] As Cn B6 BK CA BJ Bv Cl Cv Dx
set_option maxRecDepth 100000
set_option maxHeartbeats 8000000
attribute [local go_sem] SC
def Dg(N:Nat)(f1:List (Int×Int×Int×(List (Int×Int))×Int×Int)):Nat->Int->Option (Sum Unit Bool)|0,_=>none|n+1,x13=>bif decide (x13<(f1.length:Int))then((AA f1 x13).bind λ(x14,x15,x16,x17,x18,x19)=>(BN N x14 x15 x16 x17 x18 x19).bind λiq=>gd ((decide (0<x13))=true->(Ab (x13-1)))<|gd ((decide (0<x13))=true->(0<=x13-1/\x13-1<(f1.length:Int)))<|bif (!iq)||((decide (0<x13))&&(decide (x14<=(f1.getD (x13-1).toNat (0,0,0,[],0,0)).1)))then(some (.inr false))else(gd (Ab (x13+1))<|Dg N f1 n (x13+1)))else(some (.inl ()))
def En(N:Nat):List ((Int×Int×Int×(List (Int×Int))×Int×Int)×(Int×Int×Int×(List (Int×Int))×Int×Int))->Option (Sum Unit Bool)|[]=>some (.inl ())|((g8,gz,gy,gx,gw,gu),(gt,gj,gi,gh,gf,gc))::ys=>(Ei N g8 gz gy gx gw gu gt gj gi gh gf gc).bind λip=>bif ip then(some (.inr false))else(En N ys)
def Br(N:Nat)(f1:List (Int×Int×Int×(List (Int×Int))×Int×Int)):Option Bool:=bif decide (12<(f1.length:Int))then(some false)else((Dg N f1 N 0).bind λdz=>match dz with|.inl ()=>(gd (f1.length<=1000000000)<|(En N (B1 f1)).bind λdm=>match dm with|.inl ()=>(some true)|.inr i7=>(some i7))|.inr i8=>(some i8))
@[go_sem] def s27(N:Nat):Spec:=p0<|pG<|pD Ar λf1=>pE<|pE<|pF (Br N f1) false λr=>.b r
theorem JI(N:Nat):AZ Tryz.prog 27 (s27 N):=by
 refine Ax x27.ok<|A2<|Dj λf1=>Ai<|Ai<|Ay λr h=>wx x27 (Ac (MV N)<|Ac Ud<|Ac (oG N)<|An) λ_ hS F=>?_
 dsimp only[x27,Al,Ar];unfold Br at h;refine Ap hS F h (λ_ h=>?_) (λ_ h=>?_)
 ·exact Af hS F h
 ·obtain⟨dz,bi,h⟩:=un h;refine go hS F ?_;refine AM dz (λz:Nat=>⟨[(1,.box (0,1) 0),(2,.box (1,1) 0)],[(.c (1,1) 0,.b false),(.c (0,1) 0,Aj f1)],z⟩) (λz=>(.inl ():Sum Unit Bool)) (.x 0) ?_ ?_
  ·refine AH (λn (y:Int×Nat)=>Dg N f1 n y.1) (λy=>⟨[(1,.box (0,1) 0),(2,.box (1,1) 0),(12,Aj f1),(13,.i (f1.length:Int)),(14,.i y.1)],[(.c (1,1) 0,.b false),(.c (0,1) 0,Aj f1)],y.2⟩) (0,3) bi (Bn F) ?_;rintro n ⟨x13,i6⟩ ae;simp only[Dg]at ae;refine Ap hS F ae (λ_ ae=>?_) (λ_ ae=>?_)
   ·obtain⟨⟨x14,x15,x16,x17,x18,x19⟩,fo,ae⟩:=un ae;obtain⟨jc,F⟩:=Bt Ak fo F;obtain⟨iq,fg,d7,d6,ae⟩:=un ae;replace F:=fc fg F;refine Ap hS F ae (λ_ ae=>?_) (λ_ ae=>?_)
    ·obtain rfl:=yJ ae;exact Af hS F h
    ·obtain⟨iv,ae⟩:=un ae;exact Bk hS F (n,x13+1,i6+1+1+1+1) ae
   ·exact A9 hS F (i6+1) ae
  ·rintro je rfl;obtain⟨ir,h⟩:=un h;obtain⟨dm,jd,h⟩:=un h;refine go hS F ?_;refine AM dm (λz:Nat=>⟨[(2,.box (1,1) 0)],[(.c (1,1) 0,.b false)],z⟩) (λz=>(.inl ():Sum Unit Bool)) .n ?_ ?_
   ·refine Mg (λy:Nat×Nat=>([(.c (1,1) 0,.b false)],y.2)) (λy=>En N ((B1 f1).drop y.1)=some dm/\y.1<=(B1 f1).length) (λy=>y.1) (0,je+1) (ev F) (WH f1 false (by assumption)) x124.ok ⟨rfl,rfl⟩ (by simp[x27,Al]) (by intro a ha;obtain⟨y,_,rfl⟩:=tI.1 ha;exact⟨rfl,rfl⟩) ⟨jd,t7 _⟩ rfl ?_ ?_ ?_
    ·exact Bn F
    ·rintro l ⟨n,fq⟩ ⟨ak,hle⟩ args iz;obtain⟨⟨⟨g8,gz,gy,gx,gw,gu⟩,⟨gt,gj,gi,gh,gf,gc⟩⟩,cq,rfl,hlt⟩:=J6 iz;simp only[cq,En]at ak;clear iz cq;simp only[gE,GU];obtain⟨ip,fb,ak⟩:=un ak;replace F:=fc fb F;refine Ap hS F ak (λ_ ak=>?_) (λ_ ak=>?_)
     ·obtain rfl:=yJ ak;exact Af hS F h
     ·exact RO hS F (n+1,fq+1+1+1) ak
    ·rintro⟨n,fq⟩ ⟨ak,hle⟩ hk;rw[show n=_ from hk,JU]at ak;simp only[En]at ak;exact A9 hS F fq ak
   ·rintro jk rfl;exact Af hS F h
def GB(N:Nat)(dl:Int)(du:Int)(dt:Int)(dq:List (Int×Int))(dp:Int)(u52:Int)(av:Int):Option Int:=(DK N dl av).bind λij=>some ij
@[go_sem] def s74(N:Nat):Spec:=p0<|pG<|pI λdl=>pI λdu=>pI λdt=>pS AF λdq=>pI λdp=>pI λu52=>pE<|pI λav=>pE<|pF (GB N dl du dt dq dp u52 av) 0 λr=>.i r
theorem Abx(N:Nat):AZ Tryz.prog 74 (s74 N):=by
 refine Ax x74.ok<|A2<|Ad λdl=>Ad λdu=>Ad λdt=>Bf λdq=>Ad λdp=>Ad λu52=>Ai<|Ad λav=>Ai<|Ay λr h=>wx x74 (Ac (UC N)<|An) λ_ hS F=>?_
 dsimp only[x74,Al,AF];unfold GB at h;obtain⟨ij,ez,h⟩:=un h;exact Af hS (fc ez F) h
def AR(N:Nat)(x56:List (Int×Int×Int×(List (Int×Int))×Int×Int))(aa:Int):Nat->Int->Int->Option Int|0,_,_=>none|n+1,aj,an=>bif decide (aj<an)then(gd (Ab (aj+an))<|(AA x56 (IntKind.wrap .i64 (CQ .shr .u64 (IntKind.wrap .u64 (aj+an)) 1))).bind λ(x71,x72,x73,x74,x75,x76)=>(GB N x71 x72 x73 x74 x75 x76 aa).bind λig=>bif decide (ig<0)then(gd (Ab ((IntKind.wrap .i64 (CQ .shr .u64 (IntKind.wrap .u64 (aj+an)) 1))+1))<|AR N x56 aa n ((IntKind.wrap .i64 (CQ .shr .u64 (IntKind.wrap .u64 (aj+an)) 1))+1) an)else(AR N x56 aa n aj (IntKind.wrap .i64 (CQ .shr .u64 (IntKind.wrap .u64 (aj+an)) 1))))else(some aj)
def AW(N:Nat)(x56:List (Int×Int×Int×(List (Int×Int))×Int×Int))(aa:Int):Option (Int×Bool):=(AR N x56 aa N 0 (x56.length:Int)).bind λi84=>gd ((decide (i84<(x56.length:Int)))=true->(0<=i84/\i84<(x56.length:Int)))<|gd ((decide (i84<(x56.length:Int)))=true->((GB N ((x56.getD i84.toNat (0,0,0,[],0,0)).1) ((x56.getD i84.toNat (0,0,0,[],0,0)).2.1) ((x56.getD i84.toNat (0,0,0,[],0,0)).2.2.1) ((x56.getD i84.toNat (0,0,0,[],0,0)).2.2.2.1) ((x56.getD i84.toNat (0,0,0,[],0,0)).2.2.2.2.1) ((x56.getD i84.toNat (0,0,0,[],0,0)).2.2.2.2.2) aa).isSome=true))<|some (i84,(decide (i84<(x56.length:Int)))&&(decide ((GB N ((x56.getD i84.toNat (0,0,0,[],0,0)).1) ((x56.getD i84.toNat (0,0,0,[],0,0)).2.1) ((x56.getD i84.toNat (0,0,0,[],0,0)).2.2.1) ((x56.getD i84.toNat (0,0,0,[],0,0)).2.2.2.1) ((x56.getD i84.toNat (0,0,0,[],0,0)).2.2.2.2.1) ((x56.getD i84.toNat (0,0,0,[],0,0)).2.2.2.2.2) aa).getD 0=0)))
@[go_sem] def tC(N:Nat):Spec:=p0<|pD Ar λx56=>pI λaa=>pL 74<|pE<|pE<|pF (AW N x56 aa) (0,false) λr=>.tup [.i r.1,.b r.2]
theorem Pn(N:Nat):AZ Tryz.prog 73 (tC N):=by
 refine Ax x73.ok<|Dj λx56=>Ad λaa=>LG<|Ai<|Ai<|Ay λr h=>wx x73 (Ac (Abx N)<|An) λ_ hS F=>?_
 dsimp only[x73,Al,Ar];unfold AW at h;obtain⟨i9,bi,h⟩:=un h;refine go hS F ?_;refine AM i9 (λz:Int×Nat=>⟨[(0,Aj x56),(1,.i aa),(2,.clo (.func 74) [] []),(8,.i (x56.length:Int)),(9,.i z.1)],[],z.2⟩) (λz=>(z.1:Int)) (.x 0) ?_ ?_
 ·refine AH (λn (y:Int×Int×Nat)=>AR N x56 aa n y.1 y.2.1) (λy=>⟨[(0,Aj x56),(1,.i aa),(2,.clo (.func 74) [] []),(8,.i (x56.length:Int)),(9,.i y.1),(10,.i y.2.1)],[],y.2.2⟩) (0,(x56.length:Int),3) bi (Bn F) ?_;rintro n ⟨aj,an,fp⟩ ae;simp only[AR]at ae;refine Ap hS F ae (λ_ ae=>?_) (λ_ ae=>?_)
  ·obtain⟨d7,⟨x71,x72,x73,x74,x75,x76⟩,fj,ae⟩:=un ae;obtain⟨jb,F⟩:=Bt Ak fj F;obtain⟨ig,eh,ae⟩:=un ae;replace F:=fc eh F;refine Ap hS F ae (λ_ ae=>?_) (λ_ ae=>?_)
   ·obtain⟨d6,ae⟩:=un ae;exact Bk hS F (n,(IntKind.wrap .i64 (CQ .shr .u64 (IntKind.wrap .u64 (aj+an)) 1))+1,an,fp+1+1+1+1) ae
   ·exact Bk hS F (n,aj,IntKind.wrap .i64 (CQ .shr .u64 (IntKind.wrap .u64 (aj+an)) 1),fp+1+1+1+1) ae
  ·exact A9 hS F (aj,fp+1) ae
 ·rintro⟨i84,jj⟩ rfl;obtain⟨iv,ir,h⟩:=un h;by_cases hi:i84<(x56.length:Int)
  ·have hd:decide (i84<(x56.length:Int))=true:=dC hi;obtain⟨c,hc⟩:=yX (ir hd);have hq:=(Bt Ak (Km (0,0,0,[],0,0) (iv hd).1 hi) F).2.1;exact Af hS (fc hc (fc hd (fc hq F))) h
  ·have hd:decide (i84<(x56.length:Int))=false:=dJ hi;exact Af hS (fc (wF Ak hi) (fc hd F)) h
def Fi(N:Nat)(bj:List (Int×Int×Int×(List (Int×Int))×Int×Int))(au:Int):Option ((Int×Int×Int×(List (Int×Int))×Int×Int)×Bool):=(Br N bj).bind λie=>bif !ie then(some ((0,0,0,[],0,0),false))else((AW N bj au).bind λ(ic,g9)=>bif !g9 then(some ((0,0,0,[],0,0),false))else((AA bj ic).bind λ(x93,x94,x95,x96,x97,x98)=>gd (x96≠[])<|gd ((x96.length)*16<=140737488355328)<|some ((x93,x94,x95,x96,x97,x98),true)))
@[go_sem] def s22(N:Nat):Spec:=p0<|pG<|pD Ar λbj=>pE<|pI λau=>pE<|pF (Fi N bj au) ((0,0,0,[],0,0),false) λr=>.tup [.agg [.i r.1.1,.i r.1.2.1,.i r.1.2.2.1,A3 r.1.2.2.2.1,.i r.1.2.2.2.2.1,.i r.1.2.2.2.2.2],.b r.2]
theorem Zv(N:Nat):AZ Tryz.prog 22 (s22 N):=by
 refine Ax x22.ok<|A2<|Dj λbj=>Ai<|Ad λau=>Ai<|Ay λr h=>wx x22 (Ac (JI N)<|Ac (Pn N)<|An) λ_ hS F=>?_
 dsimp only[x22,Al,Ar];unfold Fi at h;obtain⟨ie,d9,h⟩:=un h;replace F:=fc d9 F;refine Ap hS F h (λ_ h=>?_) (λ_ h=>?_)
 ·exact Af hS F h
 ·obtain⟨⟨ic,g9⟩,d8,h⟩:=un h;replace F:=fc d8 F;refine Ap hS F h (λ_ h=>?_) (λ_ h=>?_)
  ·exact Af hS F h
  ·obtain⟨⟨x93,x94,x95,x96,x97,x98⟩,fh,h⟩:=un h;obtain⟨ja,F⟩:=Bt Ak fh F;refine go hS F ?_;refine DO hS 2 x78.hf x78.hc x78.hn x78.ok rfl (ev F) (ev F) ?_ rfl (ev F) (mO rfl) λhb=>?_
   ·exact Hk hS F
   dsimp only[x78,Al];obtain⟨ji,h⟩:=un h;refine Kg hS F ?_;obtain⟨jh,h⟩:=un h;exact Af hS F h
def Fb(N:Nat)(f100:List (Int×Int×Int×(List (Int×Int))×Int×Int)):Nat->Int->Int->Option Int|0,_,_=>none|n+1,ai,x115=>bif decide (x115<(f100.length:Int))then((AA f100 x115).bind λ(x116,x117,x118,bw,bv,x121)=>(F4 N x116 x117 x118 bw bv x121).bind λaq=>gd (Ab (ai+aq))<|gd (Ab (x115+1))<|Fb N f100 n (ai+aq) (x115+1))else(some ai)
def A7(N:Nat)(f100:List (Int×Int×Int×(List (Int×Int))×Int×Int)):Option Int:=(Br N f100).bind λce=>bif !ce then(some 0)else((Fb N f100 N 0 0).bind λam=>some am)
@[go_sem] def s25(N:Nat):Spec:=p0<|pG<|pD Ar λf100=>pE<|pE<|pF (A7 N f100) 0 λr=>.i r
theorem oM(N:Nat):AZ Tryz.prog 25 (s25 N):=by
 refine Ax x25.ok<|A2<|Dj λf100=>Ai<|Ai<|Ay λr h=>wx x25 (Ac (JI N)<|Ac (Abn N)<|An) λ_ hS F=>?_
 dsimp only[x25,Al,Ar];unfold A7 at h;obtain⟨ce,cz,h⟩:=un h;replace F:=fc cz F;refine Ap hS F h (λ_ h=>?_) (λ_ h=>?_)
 ·exact Af hS F h
 ·obtain⟨d5,bi,h⟩:=un h;refine go hS F ?_;refine AM d5 (λz:Int×Nat=>⟨[(3,.i z.1)],[],z.2⟩) (λz=>(z.1:Int)) (.x 0) ?_ ?_
  ·refine AH (λn (y:Int×Int×Nat)=>Fb N f100 n y.1 y.2.1) (λy=>⟨[(3,.i y.1),(10,Aj f100),(11,.i (f100.length:Int)),(12,.i y.2.1)],[],y.2.2⟩) (0,0,4) bi (Bn F) ?_;rintro n ⟨ai,x115,dh⟩ ae;simp only[Fb]at ae;refine Ap hS F ae (λ_ ae=>?_) (λ_ ae=>?_)
   ·obtain⟨⟨x116,x117,x118,bw,bv,x121⟩,de,ae⟩:=un ae;obtain⟨iy,F⟩:=Bt Ak de F;obtain⟨aq,cy,d7,d6,ae⟩:=un ae;exact Bk hS (fc cy F) (n,ai+aq,x115+1,dh+1+1+1+1) ae
   ·exact A9 hS F (ai,dh+1) ae
  ·rintro⟨am,jg⟩ rfl;exact Af hS F h
def EL(N:Nat)(f131:List (Int×Int×Int×(List (Int×Int))×Int×Int))(ah:Int)(af:Int):Nat->Int->(List (Int×Int×Int×(List (Int×Int))×Int×Int))->Option (Sum ((List (Int×Int×Int×(List (Int×Int))×Int×Int))) (((List (Int×Int×Int×(List (Int×Int))×Int×Int))×Int)))|0,_,_=>none|n+1,x171,l172=>bif decide (x171<(f131.length:Int))then((AA f131 x171).bind λ(bu,br,bq,bp,bo,bm)=>(HR N bu br bq bp bo bm ah af).bind λ((bg,be,bb,az,ay,aw),bz)=>bif decide (bz≠0)then(some (.inr ([],120)))else(gd ((l172.length+1)*64<=140737488355328)<|gd (Ab (x171+1))<|EL N f131 ah af n (x171+1) (l172++[(bg,be,bb,az,ay,aw)])))else(some (.inl l172))
def FY(N:Nat)(f131:List (Int×Int×Int×(List (Int×Int))×Int×Int))(ah:Int)(af:Int):Option ((List (Int×Int×Int×(List (Int×Int))×Int×Int))×Int):=(Br N f131).bind λb9=>bif !b9 then(some ([],120))else((EL N f131 ah af N 0 []).bind λbh=>match bh with|.inl co=>(some (co,0))|.inr dw=>(some dw))
@[go_sem] def s36(N:Nat):Spec:=p0<|pG<|pD Ar λf131=>pE<|pI λah=>pI λaf=>pE<|pF (FY N f131 ah af) ([],0) λr=>.tup [.agg [Aj r.1],.i r.2]
theorem oN(N:Nat):AZ Tryz.prog 36 (s36 N):=by
 refine Ax x36.ok<|A2<|Dj λf131=>Ai<|Ad λah=>Ad λaf=>Ai<|Ay λr h=>wx x36 (Ac (JI N)<|Ac (Abo N)<|An) λ_ hS F=>?_
 dsimp only[x36,Al,Ar];unfold FY at h;obtain⟨b9,cu,h⟩:=un h;replace F:=fc cu F;refine Ap hS F h (λ_ h=>?_) (λ_ h=>?_)
 ·exact Af hS F h
 ·refine go hS F ?_;refine Dy 1000001 (300,3) 0 6 [.i 0,.i 0,.i 0,.sl 0 true [] [],.i 0,.i 0] (by omega) (ev F) ?_;obtain⟨bh,bi,h⟩:=un h;refine go hS F ?_;refine AM bh (λz:(List (Int×Int×Int×(List (Int×Int))×Int×Int))×Nat=>⟨[(6,.box (1,1) 0),(8,.box (300,3) 0)],[(.c (300,3) 0,.own (1000001,5) z.1.length),(.a (1000001,5),Bl z.1),(.c (1,1) 0,.sl 0 true [] [])],z.2⟩) (λz=>(.inl z.1:Sum ((List (Int×Int×Int×(List (Int×Int))×Int×Int))) (((List (Int×Int×Int×(List (Int×Int))×Int×Int))×Int)))) (.x 0) ?_ ?_
  ·refine AH (λn (y:Int×(List (Int×Int×Int×(List (Int×Int))×Int×Int))×Nat)=>EL N f131 ah af n y.1 y.2.1) (λy=>⟨[(1,.i ah),(2,.i af),(6,.box (1,1) 0),(8,.box (300,3) 0),(18,Aj f131),(19,.i (f131.length:Int)),(20,.i y.1)],[(.c (300,3) 0,.own (1000001,5) y.2.1.length),(.a (1000001,5),Bl y.2.1),(.c (1,1) 0,.sl 0 true [] [])],y.2.2⟩) (0,[],5) bi (Bn F) ?_;rintro n ⟨x171,l172,dg⟩ ae;simp only[EL]at ae;refine Ap hS F ae (λ_ ae=>?_) (λ_ ae=>?_)
   ·obtain⟨⟨bu,br,bq,bp,bo,bm⟩,db,ae⟩:=un ae;obtain⟨iw,F⟩:=Bt Ak db F;obtain⟨⟨⟨bg,be,bb,az,ay,aw⟩,bz⟩,cr,ae⟩:=un ae;replace F:=fc cr F;refine Ap hS F ae (λ_ ae=>?_) (λ_ ae=>?_)
    ·obtain rfl:=yJ ae;exact Af hS F h
    ·obtain⟨d7,d6,ae⟩:=un ae;exact Bk hS F (n,x171+1,l172++[(bg,be,bb,az,ay,aw)],dg+1+1+1+1+1+1) ae
   ·exact A9 hS F (l172,dg+1) ae
  ·rintro⟨co,jf⟩ rfl;exact Af hS F h
