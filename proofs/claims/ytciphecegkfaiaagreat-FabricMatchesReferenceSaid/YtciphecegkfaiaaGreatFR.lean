import Derived.Test.YtciphecegkfaiaaGreatF9
set_option linter.unusedSimpArgs false
set_option linter.unusedVariables false
namespace Go.Proofs.YtciphecegkfaiaaGreat.Am
open Go
attribute [local irreducible] As Cn B6 BK CA BJ Bv Cl Cv Dx
set_option maxRecDepth 100000
set_option maxHeartbeats 8000000
def oV(Q:AE->St->Prop):AE->St->Prop:=Q
theorem tF{Q:AE->St->Prop}{e:AE}{s:St}(h:Q e s):oV Q e s:=h
theorem cY{V:Ctx}{i j:Nat}{a b:AC}{Q:AE->St->Prop}{s:St}(h:As V a (oV (B6 j (Cn V b Q))) s):B6 i (Cn V a (B6 j (Cn V b Q))) (.x i) s:=by refine F1 (Fe ?_);exact h
def DC(N:Nat)(out50:List (Int×Int))(ae:Int)(ai:Int):Nat->Int->Option Int|0,_=>none|n+1,k75=>gd ((decide (k75<(out50.length:Int)))=true->(0<=k75/\k75<(out50.length:Int)))<|gd (((decide (k75<(out50.length:Int)))&&(!(decide ((out50.getD k75.toNat (0,0)).1<ae))))=true->(0<=k75/\k75<(out50.length:Int)))<|gd ((((decide (k75<(out50.length:Int)))&&(!(decide ((out50.getD k75.toNat (0,0)).1<ae))))&&(decide ((out50.getD k75.toNat (0,0)).1=ae)))=true->(0<=k75/\k75<(out50.length:Int)))<|bif (decide (k75<(out50.length:Int)))&&((decide ((out50.getD k75.toNat (0,0)).1<ae))||((decide ((out50.getD k75.toNat (0,0)).1=ae))&&(decide ((out50.getD k75.toNat (0,0)).2<ai))))then(gd (Ab (k75+1))<|DC N out50 ae ai n (k75+1))else(some k75)
def C6(N:Nat)(r2:List (Int×Int×((Int×Int)×(Int×Int))×Int×Int)):Nat->(List (Int×Int))->Int->Option ((List (Int×Int)))|0,_,_=>none|n+1,out50,ah=>bif decide (ah<(r2.length:Int))then((AA r2 ah).bind λ(x52,x53,((x54,x55),(x56,x57)),x58,x59)=>bif decide (x54=x56)then(gd (Ab (ah+1))<|C6 N r2 n out50 (ah+1))else((bif decide (x56<x54)then(some (x53,x52))else(some (x52,x53)):Option (Int×Int)).bind λ(ae,ai)=>(DC N out50 ae ai N 0).bind λk79=>gd (0<=0/\0<=k79/\k79<=k79/\k79<=(out50.length:Int))<|gd (0<=k79/\k79<=(out50.length:Int))<|gd ((1+(out50.drop k79.toNat).length)*16<=140737488355328)<|gd (((out50.take (k79.toNat-0)).length+1+(out50.drop k79.toNat).length)*16<=140737488355328)<|gd (Ab (ah+1))<|C6 N r2 n (out50.take (k79.toNat-0)++([(ae,ai)]++(out50.drop k79.toNat))) (ah+1)))else(some out50)
def BU(N:Nat)(f1:List (Int×Int×Int×(List (Int×Int))×Int×Int)):Option (List (Int×Int)):=(AQ N f1).bind λr2=>(C6 N r2 N [] 0).bind λak=>some ak
@[go_sem] def s58(N:Nat):Spec:=p0<|pG<|pD Ar λf1=>pE<|pE<|pF (BU N f1) [] λr=>A3 r
theorem AbK(N:Nat):AZ Tryz.prog 58 (s58 N):=by
 refine Ax x58.ok<|A2<|Dj λf1=>Ai<|Ai<|Ay λr h=>wx x58 (Ac (UF N)<|An) λ_ hS F=>?_
 dsimp only[x58,Al,Ar];unfold BU at h;obtain⟨r2,bi,h⟩:=un h;replace F:=fc bi F;refine go hS F ?_;refine sD 4 2 [.i 0,.i 0] (by show(4:Nat)<116;omega) (ev F) ?_;obtain⟨au,bo,h⟩:=un h;refine go hS F ?_;refine AM au (λz:(List (Int×Int))×Nat=>⟨[(4,A3 z.1)],[],z.2⟩) (λz=>(z.1:(List (Int×Int)))) (.x 0) ?_ ?_
 ·refine AH (λn (y:(List (Int×Int))×Int×Nat)=>C6 N r2 n y.1 y.2.1) (λy=>⟨[(3,Bq r2),(4,A3 y.1),(5,.i y.2.1)],[],y.2.2⟩) ([],0,4) bo (Bn F) ?_;rintro n ⟨out50,ah,af⟩ aa;simp only[C6]at aa;refine Ap hS F aa (λ_ aa=>?_) (λ_ aa=>?_)
  ·obtain⟨⟨x52,x53,⟨⟨x54,x55⟩,⟨x56,x57⟩⟩,x58,x59⟩,an,aa⟩:=un aa;obtain⟨bj,F⟩:=Bt B0 an F;refine Ap hS F aa (λ_ aa=>?_) (λ_ aa=>?_)
   ·obtain⟨bw,aa⟩:=un aa;exact Bk hS F (n,out50,ah+1,af+1+1+1+1) aa
   ·obtain⟨aw,am,aa⟩:=un aa;refine go hS F ?_;refine AM aw (λz:Int×Int×Nat=>⟨[(3,Bq r2),(4,A3 out50),(5,.i ah),(6,.box (611,af+1+1) 0)],[(.c (611,af+1+1) 0,.i z.1),(.c (611,af+1+1) 1,.i z.2.1)],z.2.2⟩) (λz=>((z.1,z.2.1):Int×Int)) .n ?_ ?_
    ·refine Ap hS F am (λ_ am=>?_) (λ_ am=>?_)
     ·exact A9 hS F (x53,x52,af+1+1+1+1+1) am
     ·exact A9 hS F (x52,x53,af+1+1+1+1) am
    ·rintro⟨ae,ai,bq⟩ rfl;obtain⟨av,bm,aa⟩:=un aa;refine go hS F ?_;refine AM av (λz:Int×Nat=>⟨[(3,Bq r2),(4,A3 out50),(5,.i ah),(6,.box (611,af+1+1) 0),(7,.i z.1)],[(.c (611,af+1+1) 0,.i ae),(.c (611,af+1+1) 1,.i ai)],z.2⟩) (λz=>(z.1:Int)) (.x 2) ?_ ?_
     ·refine AH (λn (y:Int×Nat)=>DC N out50 ae ai n y.1) (λy=>⟨[(3,Bq r2),(4,A3 out50),(5,.i ah),(6,.box (611,af+1+1) 0),(7,.i y.1)],[(.c (611,af+1+1) 0,.i ae),(.c (611,af+1+1) 1,.i ai)],y.2⟩) (0,bq+1) bm (Bn F) ?_;rintro n ⟨k75,aq⟩ aj;simp only[DC]at aj;obtain⟨bv,bu,br,aj⟩:=un aj;refine Ap hS F aj (λ_ aj=>?_) (λ_ aj=>?_)
      ·obtain⟨bh,aj⟩:=un aj;exact Bk hS F (n,k75+1,aq+1+1) aj
      ·exact A9 hS F (k75,aq+1) aj
     ·rintro⟨k79,bp⟩ rfl;obtain⟨bg,be,bb,az,ay,aa⟩:=un aa;refine cY ?_;refine go hS F ?_;refine tF ?_;refine Gd ?_;refine Fe ?_;refine QT 4 (by show(4:Nat)<116;omega) (ev F) (ev F) (by simp) ?_;exact Bk hS F (n,out50.take (k79.toNat-0)++([(ae,ai)]++(out50.drop k79.toNat)),ah+1,bp+1+1) aa
  ·exact A9 hS F (out50,af+1) aa
 ·rintro⟨ak,bz⟩ rfl;exact Af hS F h
