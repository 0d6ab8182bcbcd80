import Derived.Test.YtciphecegkfaiaaGreatAx5
set_option linter.unusedSimpArgs false
set_option linter.unusedVariables false
namespace Go.Proofs.YtciphecegkfaiaaGreat.Am
open Go
section
attribute [local irreducible] As Cn B6 BK CA BJ Bv Cl Cv Dx
set_option maxRecDepth 100000
set_option maxHeartbeats 8000000
def By(x:Int×Int):List AV:=[.i x.1,.i x.2]
def Nf:List AV->Int×Int|[.v (.int _ a1),.v (.int _ a2)]=>(a1,a2)|_=>(0,0)
theorem Abh(x:Int×Int):Nf (By x)=x:=by rfl
theorem P3(R:List (Int×Int)):(R.map By).map Nf=R:=by
 induction R with
 |nil=>rfl
 |cons r R ih=>rw[eZ,eZ,ih,Abh]
theorem P4(R:List (Int×Int))(i:Nat):BG (R.map By) [.i 0,.i 0] i=By (R.getD i (0,0)):=by unfold BG;rw[eT,eT,qX];cases R[i]? <;>rfl
def AF:Rw (Int×Int):=⟨2,By,Nf,[.i 0,.i 0]⟩
def A3(l:List (Int×Int)):AV:=.sl 2 false (l.map By) [.i 0,.i 0]
def JS(l:List (Int×Int)):AV:=.sl 2 true (l.map By) [.i 0,.i 0]
attribute [go_sem] AF A3 JS By Nf P3 P4
def DV(N:Nat)(a1:Int)(a2:Int)(b3:Int)(b4:Int)(c5:Int)(c6:Int):Option Int:=gd (Ab (b3-a1))<|gd (Ab (c6-a2))<|gd (Ab ((b3-a1)*(c6-a2)))<|gd (Ab (b4-a2))<|gd (Ab (c5-a1))<|gd (Ab ((b4-a2)*(c5-a1)))<|gd (Ab (((b3-a1)*(c6-a2))-((b4-a2)*(c5-a1))))<|some (((b3-a1)*(c6-a2))-((b4-a2)*(c5-a1)))
@[go_sem] def AcQ(N:Nat):Spec:=p0<|pG<|pI λa1=>pI λa2=>pE<|pG<|pI λb3=>pI λb4=>pE<|pG<|pI λc5=>pI λc6=>pE<|pE<|pF (DV N a1 a2 b3 b4 c5 c6) 0 λr=>.i r
theorem VF(N:Nat):AZ Tryz.prog 142 (AcQ N):=by
 refine Ax x142.ok<|A2<|Ad λa1=>Ad λa2=>Ai<|A2<|Ad λb3=>Ad λb4=>Ai<|A2<|Ad λc5=>Ad λc6=>Ai<|Ai<|Ay λr h=>wx x142 (An) λ_ hS F=>?_
 dsimp only[x142,Al];unfold DV at h;obtain⟨ai,ah,ak,aj,au,aq,an,h⟩:=un h;exact Af hS F h
def F2(N:Nat)(p7:Int)(p8:Int):Option Bool:=some ((((decide (0<=p7))&&(decide (p7<=40)))&&(decide (0<=p8)))&&(decide (p8<=40)))
@[go_sem] def S0(N:Nat):Spec:=p0<|pG<|pI λp7=>pI λp8=>pE<|pE<|pF (F2 N p7 p8) false λr=>.b r
theorem xX(N:Nat):AZ Tryz.prog 141 (S0 N):=by
 refine Ax x141.ok<|A2<|Ad λp7=>Ad λp8=>Ai<|Ai<|Ay λr h=>wx x141 (An) λ_ hS F=>?_
 dsimp only[x141,Al];unfold F2 at h;exact Af hS F h
def Ci(N:Nat)(l9:List (Int×Int))(ae:Int):Option (Int×Int):=gd (Ab (ae+1))<|gd ((l9.length:Int)≠0)<|(AA l9 ((ae+1).tmod (l9.length:Int))).bind λ(x11,x12)=>some (x11,x12)
@[go_sem] def AcR(N:Nat):Spec:=p0<|pS AF λl9=>pI λae=>pE<|pF (Ci N l9 ae) (0,0) λr=>.agg [.i r.1,.i r.2]
theorem R7(N:Nat):AZ Tryz.prog 143 (AcR N):=by
 refine Ax x143.ok<|Bf λl9=>Ad λae=>Ai<|Ay λr h=>wx x143 (An) λ_ hS F=>?_
 dsimp only[x143,Al,AF];unfold Ci at h;obtain⟨ai,ah,⟨x11,x12⟩,af,h⟩:=un h;obtain⟨am,F⟩:=Bt By af F;exact Af hS F h
def EI(N:Nat)(c14:Int)(aa:Int):Option Int:=bif decide (c14<0)then(gd (Ab (c14+1))<|gd (Ab (-(c14+1)))<|gd (aa≠0)<|some ((-(c14+1)).tmod aa))else(gd (aa≠0)<|some (c14.tmod aa))
@[go_sem] def AcS(N:Nat):Spec:=p0<|pI λc14=>pI λaa=>pE<|pF (EI N c14 aa) 0 λr=>.i r
theorem xY(N:Nat):AZ Tryz.prog 140 (AcS N):=by
 refine Ax x140.ok<|Ad λc14=>Ad λaa=>Ai<|Ay λr h=>wx x140 (An) λ_ hS F=>?_
 dsimp only[x140,Al];unfold EI at h;refine Ap hS F h (λ_ h=>?_) (λ_ h=>?_)
 ·obtain⟨ai,ah,ak,h⟩:=un h;exact Af hS F h
 ·obtain⟨aj,h⟩:=un h;exact Af hS F h
end
section
attribute [local irreducible] As Cn B6 BK CA BJ Bv Cl Cv Dx
set_option maxRecDepth 100000
set_option maxHeartbeats 8000000
def C4(N:Nat)(l16:List (Int×Int)):Nat->Int->Option (Sum Unit Bool)|0,_=>none|n+1,ah=>bif decide (ah<(l16.length:Int))then((AA l16 ah).bind λ(x25,x26)=>(F2 N x25 x26).bind λaq=>bif !aq then(some (.inr false))else(gd (Ab (ah+1))<|C4 N l16 n (ah+1)))else(some (.inl ()))
def Cb(N:Nat)(l16:List (Int×Int))(i45:Int):Nat->Int->Option (Sum Unit Bool)|0,_=>none|n+1,k48=>bif decide (k48<(l16.length:Int))then(gd ((decide (k48≠i45))=true->(Ab (i45+1)))<|gd ((decide (k48≠i45))=true->((l16.length:Int)≠0))<|gd (((decide (k48≠i45))&&(decide (k48≠(i45+1).tmod (l16.length:Int))))=true->(0<=i45/\i45<(l16.length:Int)))<|gd (((decide (k48≠i45))&&(decide (k48≠(i45+1).tmod (l16.length:Int))))=true->((Ci N l16 i45).isSome=true))<|gd (((decide (k48≠i45))&&(decide (k48≠(i45+1).tmod (l16.length:Int))))=true->(0<=k48/\k48<(l16.length:Int)))<|gd (((decide (k48≠i45))&&(decide (k48≠(i45+1).tmod (l16.length:Int))))=true->((DV N ((l16.getD i45.toNat (0,0)).1) ((l16.getD i45.toNat (0,0)).2) (((Ci N l16 i45).getD (0,0)).1) (((Ci N l16 i45).getD (0,0)).2) ((l16.getD k48.toNat (0,0)).1) ((l16.getD k48.toNat (0,0)).2)).isSome=true))<|bif ((decide (k48≠i45))&&(decide (k48≠(i45+1).tmod (l16.length:Int))))&&(decide ((DV N ((l16.getD i45.toNat (0,0)).1) ((l16.getD i45.toNat (0,0)).2) (((Ci N l16 i45).getD (0,0)).1) (((Ci N l16 i45).getD (0,0)).2) ((l16.getD k48.toNat (0,0)).1) ((l16.getD k48.toNat (0,0)).2)).getD 0<=0))then(some (.inr false))else(gd (Ab (k48+1))<|Cb N l16 i45 n (k48+1)))else(some (.inl ()))
def CC(N:Nat)(l16:List (Int×Int)):Nat->Int->Option (Sum Unit Bool)|0,_=>none|n+1,i45=>bif decide (i45<(l16.length:Int))then((Cb N l16 i45 N 0).bind λaj=>match aj with|.inl ()=>(gd (Ab (i45+1))<|CC N l16 n (i45+1))|.inr az=>(some (.inr az)))else(some (.inl ()))
def Bo(N:Nat)(l16:List (Int×Int)):Option Bool:=bif (decide ((l16.length:Int)<3))||(decide (8<(l16.length:Int)))then(some false)else((C4 N l16 N 0).bind λak=>match ak with|.inl ()=>((CC N l16 N 0).bind λai=>match ai with|.inl ()=>(some true)|.inr ay=>(some ay))|.inr bb=>(some bb))
@[go_sem] def AcT(N:Nat):Spec:=p0<|pS AF λl16=>pE<|pF (Bo N l16) false λr=>.b r
theorem Pk(N:Nat):AZ Tryz.prog 106 (AcT N):=by
 refine Ax x106.ok<|Bf λl16=>Ai<|Ay λr h=>wx x106 (Ac (xX N)<|Ac (R7 N)<|Ac (VF N)<|An) λ_ hS F=>?_
 dsimp only[x106,Al,AF];unfold Bo at h;refine Ap hS F h (λ_ h=>?_) (λ_ h=>?_)
 ·exact Af hS F h
 ·obtain⟨ak,br,h⟩:=un h;refine go hS F ?_;refine AM ak (λz:Nat=>⟨[(0,A3 l16)],[],z⟩) (λz=>(.inl ():Sum Unit Bool)) (.x 0) ?_ ?_
  ·refine AH (λn (y:Int×Nat)=>C4 N l16 n y.1) (λy=>⟨[(0,A3 l16),(3,.i y.1)],[],y.2⟩) (0,3) br (Bn F) ?_;rintro n ⟨ah,aw⟩ aa;simp only[C4]at aa;refine Ap hS F aa (λ_ aa=>?_) (λ_ aa=>?_)
   ·obtain⟨⟨x25,x26⟩,an,aa⟩:=un aa;obtain⟨bo,F⟩:=Bt By an F;obtain⟨aq,am,aa⟩:=un aa;replace F:=fc am F;refine Ap hS F aa (λ_ aa=>?_) (λ_ aa=>?_)
    ·obtain rfl:=yJ aa;exact Af hS F h
    ·obtain⟨b9,aa⟩:=un aa;exact Bk hS F (n,ah+1,aw+1+1+1) aa
   ·exact A9 hS F (aw+1) aa
  ·rintro bv rfl;obtain⟨ai,bq,h⟩:=un h;refine go hS F ?_;refine AM ai (λz:Nat=>⟨[],[],z⟩) (λz=>(.inl ():Sum Unit Bool)) (.x 2) ?_ ?_
   ·refine AH (λn (y:Int×Nat)=>CC N l16 n y.1) (λy=>⟨[(0,A3 l16),(4,.i y.1)],[],y.2⟩) (0,bv+1) bq (Bn F) ?_;rintro n ⟨i45,av⟩ af;simp only[CC]at af;refine Ap hS F af (λ_ af=>?_) (λ_ af=>?_)
    ·obtain⟨aj,bp,af⟩:=un af;refine go hS F ?_;refine AM aj (λz:Nat=>⟨[(0,A3 l16),(4,.i i45)],[],z⟩) (λz=>(.inl ():Sum Unit Bool)) (.x 4) ?_ ?_
     ·refine AH (λn (y:Int×Nat)=>Cb N l16 i45 n y.1) (λy=>⟨[(0,A3 l16),(4,.i i45),(5,.i y.1)],[],y.2⟩) (0,av+1+1) bp (Bn F) ?_;rintro n ⟨k48,au⟩ ae;simp only[Cb]at ae;refine Ap hS F ae (λ_ ae=>?_) (λ_ ae=>?_)
      ·obtain⟨bz,bw,bm,bj,bi,bh,ae⟩:=un ae;refine Ap hS F ae (λ_ ae=>?_) (λ_ ae=>?_)
       ·obtain rfl:=yJ ae;obtain rfl:=yJ af;exact Af hS F h
       ·obtain⟨bg,ae⟩:=un ae;exact Bk hS F (n,k48+1,au+1+1+1) ae
      ·exact A9 hS F (au+1) ae
     ·rintro bu rfl;obtain⟨be,af⟩:=un af;exact Bk hS F (n,i45+1,bu+1) af
    ·exact A9 hS F (av+1) af
   ·rintro ce rfl;exact Af hS F h
end
attribute [local irreducible] As Cn B6 BK CA BJ Bv Cl Cv Dx
set_option maxRecDepth 100000
set_option maxHeartbeats 8000000
def CD(N:Nat)(l616:List (Int×Int))(aj:Int)(ai:Int):Nat->Int->Int->Option (Sum Int Int)|0,_,_=>none|n+1,ah,ak=>bif decide (ak<(l616.length:Int))then((AA l616 ak).bind λ(ce,b9)=>(Ci N l616 ak).bind λ(cy,cu)=>(DV N ce b9 cy cu aj ai).bind λbo=>bif decide (bo<0)then(some (.inr (-1)))else(bif decide (bo=0)then(gd (Ab (ak+1))<|CD N l616 aj ai n 0 (ak+1))else(gd (Ab (ak+1))<|CD N l616 aj ai n ah (ak+1))))else(some (.inl ah))
def DJ(N:Nat)(l616:List (Int×Int))(aj:Int)(ai:Int):Option Int:=(CD N l616 aj ai N 1 0).bind λbp=>match bp with|.inl bh=>(some bh)|.inr fo=>(some fo)
@[go_sem] def Ac8(N:Nat):Spec:=p0<|pS AF λl616=>pG<|pI λaj=>pI λai=>pE<|pE<|pF (DJ N l616 aj ai) 0 λr=>.i r
theorem yP(N:Nat):AZ Tryz.prog 169 (Ac8 N):=by
 refine Ax x169.ok<|Bf λl616=>A2<|Ad λaj=>Ad λai=>Ai<|Ai<|Ay λr h=>wx x169 (Ac (R7 N)<|Ac (VF N)<|An) λ_ hS F=>?_
 dsimp only[x169,Al,AF];unfold DJ at h;obtain⟨bp,d9,h⟩:=un h;refine go hS F ?_;refine AM bp (λz:Int×Nat=>⟨[(5,.i z.1)],[],z.2⟩) (λz=>(.inl z.1:Sum Int Int)) (.x 0) ?_ ?_
 ·refine AH (λn (y:Int×Int×Nat)=>CD N l616 aj ai n y.1 y.2.1) (λy=>⟨[(0,A3 l616),(3,.box (0,1) 0),(5,.i y.1),(6,.i y.2.1)],[(.c (0,1) 0,.i aj),(.c (0,1) 1,.i ai)],y.2.2⟩) (1,0,3) d9 (Bn F) ?_;rintro n ⟨ah,ak,br⟩ aa;simp only[CD]at aa;refine Ap hS F aa (λ_ aa=>?_) (λ_ aa=>?_)
  ·obtain⟨⟨ce,b9⟩,d8,aa⟩:=un aa;obtain⟨gz,F⟩:=Bt By d8 F;obtain⟨⟨cy,cu⟩,dt,aa⟩:=un aa;obtain⟨bo,dq,aa⟩:=un aa;replace F:=fc dq (fc dt F);refine Ap hS F aa (λ_ aa=>?_) (λ_ aa=>?_)
   ·obtain rfl:=yJ aa;exact Af hS F h
   ·refine Ap hS F aa (λ_ aa=>?_) (λ_ aa=>?_)
    ·obtain⟨gf,aa⟩:=un aa;exact Bk hS F (n,(0:Int),ak+1,br+1+1+1+1+1+1) aa
    ·obtain⟨gc,aa⟩:=un aa;exact Bk hS F (n,ah,ak+1,br+1+1+1+1+1) aa
  ·exact A9 hS F (ah,br+1) aa
 ·rintro⟨bh,ip⟩ rfl;exact Af hS F h
def Eg(N:Nat)(l646:List (Int×Int)):Nat->Int->Int->Option Int|0,_,_=>none|n+1,au,av=>bif decide (av<(l646.length:Int))then((AA l646 av).bind λ(aw,bb)=>(Ci N l646 av).bind λ(bg,ay)=>gd (Ab (aw*ay))<|gd (Ab (au+(aw*ay)))<|gd (Ab (bb*bg))<|gd (Ab ((au+(aw*ay))-(bb*bg)))<|gd (Ab (av+1))<|Eg N l646 n ((au+(aw*ay))-(bb*bg)) (av+1))else(some au)
def Es(N:Nat)(l646:List (Int×Int)):Option Int:=(Bo N l646).bind λcr=>bif !cr then(some 0)else((Eg N l646 N 0 0).bind λcz=>some cz)
@[go_sem] def Ac9(N:Nat):Spec:=p0<|pS AF λl646=>pE<|pF (Es N l646) 0 λr=>.i r
theorem yQ(N:Nat):AZ Tryz.prog 146 (Ac9 N):=by
 refine Ax x146.ok<|Bf λl646=>Ai<|Ay λr h=>wx x146 (Ac (Pk N)<|Ac (R7 N)<|An) λ_ hS F=>?_
 dsimp only[x146,Al,AF];unfold Es at h;obtain⟨cr,dp,h⟩:=un h;replace F:=fc dp F;refine Ap hS F h (λ_ h=>?_) (λ_ h=>?_)
 ·exact Af hS F h
 ·obtain⟨fq,d9,h⟩:=un h;refine go hS F ?_;refine AM fq (λz:Int×Nat=>⟨[(3,.i z.1)],[],z.2⟩) (λz=>(z.1:Int)) (.x 0) ?_ ?_
  ·refine AH (λn (y:Int×Int×Nat)=>Eg N l646 n y.1 y.2.1) (λy=>⟨[(0,A3 l646),(3,.i y.1),(4,.i y.2.1)],[],y.2.2⟩) (0,0,4) d9 (Bn F) ?_;rintro n ⟨au,av,ez⟩ aa;simp only[Eg]at aa;refine Ap hS F aa (λ_ aa=>?_) (λ_ aa=>?_)
   ·obtain⟨⟨aw,bb⟩,d7,aa⟩:=un aa;obtain⟨gy,F⟩:=Bt By d7 F;obtain⟨⟨bg,ay⟩,dm,aa⟩:=un aa;obtain⟨gf,gc,gi,gh,g8,aa⟩:=un aa;exact Bk hS (fc dm F) (n,(au+(aw*ay))-(bb*bg),av+1,ez+1+1+1+1+1) aa
   ·exact A9 hS F (au,ez+1) aa
  ·rintro⟨cz,ij⟩ rfl;exact Af hS F h
def EB(N:Nat)(l671:List (Int×Int))(af:Int)(ae:Int):Nat->Int->(List (Int×Int))->Option ((List (Int×Int)))|0,_,_=>none|n+1,az,l687=>bif decide (az<(l671.length:Int))then((AA l671 az).bind λ(bj,bi)=>gd (Ab (bj+af))<|gd (Ab (bi+ae))<|gd ((l687.length+1)*16<=140737488355328)<|gd (Ab (az+1))<|EB N l671 af ae n (az+1) (l687++[(bj+af,bi+ae)]))else(some l687)
def DX(N:Nat)(l671:List (Int×Int))(af:Int)(ae:Int):Option ((List (Int×Int))×Int):=(Bo N l671).bind λcq=>bif ((((!cq)||(decide (af<(-40))))||(decide (40<af)))||(decide (ae<(-40))))||(decide (40<ae))then(some ([],70))else((EB N l671 af ae N 0 []).bind λbq=>(Bo N bq).bind λco=>bif !co then(some ([],70))else(some (bq,0)))
@[go_sem] def s54(N:Nat):Spec:=p0<|pS AF λl671=>pI λaf=>pI λae=>pE<|pF (DX N l671 af ae) ([],0) λr=>.tup [A3 r.1,.i r.2]
theorem Zk(N:Nat):AZ Tryz.prog 54 (s54 N):=by
 refine Ax x54.ok<|Bf λl671=>Ad λaf=>Ad λae=>Ai<|Ay λr h=>wx x54 (Ac (Pk N)<|An) λ_ hS F=>?_
 dsimp only[x54,Al,AF];unfold DX at h;obtain⟨cq,dl,h⟩:=un h;replace F:=fc dl F;refine Ap hS F h (λ_ h=>?_) (λ_ h=>?_)
 ·exact Af hS F h
 ·refine go hS F ?_;refine Df 1000001 8 2 [.i 0,.i 0] (by show(8:Nat)<57;omega) (by omega) (ev F) ?_;obtain⟨fp,d9,h⟩:=un h;refine go hS F ?_;refine AM fp (λz:(List (Int×Int))×Nat=>⟨[(8,.own (1000001,5) z.1.length)],[(.a (1000001,5),JS z.1)],z.2⟩) (λz=>(z.1:(List (Int×Int)))) (.x 0) ?_ ?_
  ·refine AH (λn (y:Int×(List (Int×Int))×Nat)=>EB N l671 af ae n y.1 y.2.1) (λy=>⟨[(0,A3 l671),(1,.i af),(2,.i ae),(8,.own (1000001,5) y.2.1.length),(9,.i y.1)],[(.a (1000001,5),JS y.2.1)],y.2.2⟩) (0,[],5) d9 (Bn F) ?_;rintro n ⟨az,l687,eh⟩ aa;simp only[EB]at aa;refine Ap hS F aa (λ_ aa=>?_) (λ_ aa=>?_)
   ·obtain⟨⟨bj,bi⟩,d6,aa⟩:=un aa;obtain⟨gx,F⟩:=Bt By d6 F;obtain⟨gf,gc,gi,gh,aa⟩:=un aa;exact Bk hS F (n,az+1,l687++[(bj+af,bi+ae)],eh+1+1+1) aa
   ·exact A9 hS F (l687,eh+1) aa
  ·rintro⟨bq,ig⟩ rfl;obtain⟨co,dh,h⟩:=un h;replace F:=fc dh F;refine Ap hS F h (λ_ h=>?_) (λ_ h=>?_)
   ·exact Af hS F h
   ·exact Af hS F h
def Gh(N:Nat)(l699:List (Int×Int))(an:Int)(am:Int)(aq:Int):Option (List (Int×Int)):=gd ((l699.length)*16<=140737488355328)<|bif decide ((l699.length:Int)=0)then(some [(am,am)])else((EI N aq (l699.length:Int)).bind λr703=>(EI N an 5).bind λbe=>bif decide (be=0)then((AA l699 r703).bind λ(fj,bz)=>some (l699.set r703.toNat (am,bz)))else(bif decide (be=1)then((AA l699 r703).bind λ(bw,fh)=>some (l699.set r703.toNat (bw,am)))else(bif decide (be=2)then(gd (Ab (r703+1))<|gd ((l699.length:Int)≠0)<|(AA l699 ((r703+1).tmod (l699.length:Int))).bind λ(bv,bu)=>(AA l699 r703).bind λ(fg,fb)=>some (l699.set r703.toNat (bv,bu)))else(bif decide (be=3)then(gd (0<=0/\0<=r703/\r703<=r703/\r703<=(l699.length:Int))<|gd (Ab (r703+1))<|gd (0<=r703+1/\r703+1<=(l699.length:Int))<|gd (((l699.take (r703.toNat-0)).length+(l699.drop (r703+1).toNat).length)*16<=140737488355328)<|some (l699.take (r703.toNat-0)++(l699.drop (r703+1).toNat)))else(gd (0<=0/\0<=r703/\r703<=r703/\r703<=(l699.length:Int))<|(EI N aq 50).bind λbm=>gd (Ab (bm-5))<|gd (0<=r703/\r703<=(l699.length:Int))<|gd ((1+(l699.drop r703.toNat).length)*16<=140737488355328)<|gd (((l699.take (r703.toNat-0)).length+([(am,bm-5)]++(l699.drop r703.toNat)).length)*16<=140737488355328)<|some (l699.take (r703.toNat-0)++([(am,bm-5)]++(l699.drop r703.toNat))))))))
@[go_sem] def Ada(N:Nat):Spec:=p0<|pS AF λl699=>pI λan=>pI λam=>pI λaq=>pE<|pF (Gh N l699 an am aq) [] λr=>A3 r
theorem yR(N:Nat):AZ Tryz.prog 105 (Ada N):=by
 refine Ax x105.ok<|Bf λl699=>Ad λan=>Ad λam=>Ad λaq=>Ai<|Ay λr h=>wx x105 (Ac (xY N)<|An) λ_ hS F=>?_
 dsimp only[x105,Al,AF];unfold Gh at h;obtain⟨iw,h⟩:=un h;refine Ap hS F h (λ_ h=>?_) (λ_ h=>?_)
 ·exact Af hS F h
 ·obtain⟨r703,dg,be,de,h⟩:=un h;replace F:=fc de (fc dg F);refine Ap hS F h (λ_ h=>?_) (λ_ h=>?_)
  ·obtain⟨⟨fj,bz⟩,d5,h⟩:=un h;obtain⟨gw,F⟩:=Bt By d5 F;exact Af hS F h
  ·refine Ap hS F h (λ_ h=>?_) (λ_ h=>?_)
   ·obtain⟨⟨bw,fh⟩,dz,h⟩:=un h;obtain⟨gu,F⟩:=Bt By dz F;exact Af hS F h
   ·refine Ap hS F h (λ_ h=>?_) (λ_ h=>?_)
    ·obtain⟨iv,gf,⟨bv,bu⟩,dw,h⟩:=un h;obtain⟨gt,F⟩:=Bt By dw F;obtain⟨⟨fg,fb⟩,du,h⟩:=un h;obtain⟨gj,F⟩:=Bt By du F;exact Af hS F h
    ·refine Ap hS F h (λ_ h=>?_) (λ_ h=>?_)
     ·refine go hS F ?_;refine QT 9 (by show(9:Nat)<81;omega) (ev F) (ev F) (by simp) ?_;obtain⟨gc,gi,gh,g8,h⟩:=un h;exact Af hS F h
     ·refine go hS F ?_;refine QT 9 (by show(9:Nat)<81;omega) (ev F) (ev F) (by simp) ?_;obtain⟨ir,bm,db,iq,ie,ic,g9,h⟩:=un h;exact Af hS (fc db F) h
