import Derived.Test.YtciphecegkfaiaaGreatF9
import Derived.Test.YtciphecegkfaiaaGreatP9
set_option linter.unusedSimpArgs false
set_option linter.unusedVariables false
namespace Go.Proofs.YtciphecegkfaiaaGreat.Am
open Go
attribute [local irreducible] As Cn B6 BK CA BJ Bv Cl Cv Dx
set_option maxRecDepth 100000
set_option maxHeartbeats 8000000
def FZ(N:Nat)(s769:List UInt8):Option ((List UInt8)×Int):=bif decide (65536<(s769.length:Int))then(some ([],10))else((Dr N (s769.length:Int)).bind λ(bo,d7)=>gd ((bo++s769).length<=140737488355328)<|some (bo++s769,0))
@[go_sem] def s66(N:Nat):Spec:=p0<|pT λs769=>pE<|pF (FZ N s769) ([],0) λr=>.tup [.v (.string (sB r.1)),.i r.2]
theorem AbG(N:Nat):AZ Tryz.prog 66 (s66 N):=by
 refine Ax x66.ok<|LH λs769=>Ai<|Ay λr h=>wx x66 (Ac (UD N)<|An) λ_ hS F=>?_
 dsimp only[x66,Al,DE];unfold FZ at h;refine Ap hS F h (λ_ h=>?_) (λ_ h=>?_)
 ·exact Af hS F h
 ·obtain⟨⟨bo,d7⟩,dp,h⟩:=un h;obtain⟨fg,h⟩:=un h;exact Af hS (fc dp F) h
def ES(N:Nat)(s773:List UInt8)(aj:Int):Option ((List UInt8)×Int×Int):=(E1 N s773 aj).bind λ(af,r776,bm)=>bif decide (bm≠0)then(some ([],0,bm))else(gd ((!((decide (af<0))||(decide (65536<af))))=true->(Ab ((s773.length:Int)-r776)))<|bif ((decide (af<0))||(decide (65536<af)))||(decide ((s773.length:Int)-r776<af))then(some ([],0,10))else(gd (Ab (r776+af))<|gd (0<=r776/\r776<=r776+af/\r776+af<=(s773.length:Int))<|gd (Ab (r776+af))<|some ((s773.drop r776.toNat).take ((r776+af).toNat-r776.toNat),r776+af,0)))
@[go_sem] def s71(N:Nat):Spec:=p0<|pT λs773=>pI λaj=>pE<|pF (ES N s773 aj) ([],0,0) λr=>.tup [.v (.string (sB r.1)),.i r.2.1,.i r.2.2]
theorem AbH(N:Nat):AZ Tryz.prog 71 (s71 N):=by
 refine Ax x71.ok<|LH λs773=>Ad λaj=>Ai<|Ay λr h=>wx x71 (Ac (Zq N)<|An) λ_ hS F=>?_
 dsimp only[x71,Al,DE];unfold ES at h;obtain⟨⟨af,r776,bm⟩,dm,h⟩:=un h;replace F:=fc dm F;refine Ap hS F h (λ_ h=>?_) (λ_ h=>?_)
 ·exact Af hS F h
 ·obtain⟨fg,h⟩:=un h;refine Ap hS F h (λ_ h=>?_) (λ_ h=>?_)
  ·exact Af hS F h
  ·obtain⟨fp,ez,eh,h⟩:=un h;exact Af hS F h
def D8(N:Nat)(f779:List (Int×Int×Int×(List (Int×Int))×Int×Int)):Nat->(List UInt8)->Int->Option ((List UInt8))|0,_,_=>none|n+1,ae,ak=>bif decide (ak<(f779.length:Int))then((AA f779 ak).bind λ(bz,bw,bv,bu,br,bq)=>(Ec N bz bw bv bu br bq).bind λ(cr,d5)=>(FZ N cr).bind λ(au,dz)=>gd ((ae++au).length<=140737488355328)<|gd (Ab (ak+1))<|D8 N f779 n (ae++au) (ak+1))else(some ae)
def ET(N:Nat)(f779:List (Int×Int×Int×(List (Int×Int))×Int×Int)):Option ((List UInt8)×Int):=(Bj N f779).bind λcu=>bif !cu then(some ([],120))else((Dr N (f779.length:Int)).bind λ(bj,d6)=>(D8 N f779 N bj 0).bind λam=>some (am,0))
@[go_sem] def s17(N:Nat):Spec:=p0<|pG<|pD Ar λf779=>pE<|pE<|pF (ET N f779) ([],0) λr=>.tup [.v (.string (sB r.1)),.i r.2]
theorem oT(N:Nat):AZ Tryz.prog 17 (s17 N):=by
 refine Ax x17.ok<|A2<|Dj λf779=>Ai<|Ai<|Ay λr h=>wx x17 (Ac (K6 N)<|Ac (UD N)<|Ac (Abs N)<|Ac (AbG N)<|An) λ_ hS F=>?_
 dsimp only[x17,Al,Ar,DE];unfold ET at h;obtain⟨cu,dl,h⟩:=un h;replace F:=fc dl F;refine Ap hS F h (λ_ h=>?_) (λ_ h=>?_)
 ·exact Af hS F h
 ·obtain⟨⟨bj,d6⟩,dh,h⟩:=un h;replace F:=fc dh F;obtain⟨d8,d9,h⟩:=un h;refine go hS F ?_;refine AM d8 (λz:(List UInt8)×Nat=>⟨[(4,.v (.string (sB z.1)))],[],z.2⟩) (λz=>(z.1:(List UInt8))) (.x 0) ?_ ?_
  ·refine AH (λn (y:(List UInt8)×Int×Nat)=>D8 N f779 n y.1 y.2.1) (λy=>⟨[(1,.box (0,1) 0),(4,.v (.string (sB y.1))),(6,.i y.2.1)],[(.c (0,1) 0,Aj f779)],y.2.2⟩) (bj,0,4) d9 (Bn F) ?_;rintro n ⟨ae,ak,du⟩ aa;simp only[D8]at aa;refine Ap hS F aa (λ_ aa=>?_) (λ_ aa=>?_)
   ·obtain⟨⟨bz,bw,bv,bu,br,bq⟩,dq,aa⟩:=un aa;obtain⟨fb,F⟩:=Bt Ak dq F;obtain⟨⟨cr,d5⟩,dg,aa⟩:=un aa;obtain⟨⟨au,dz⟩,de,aa⟩:=un aa;obtain⟨ez,eh,aa⟩:=un aa;exact Bk hS (fc de (fc dg F)) (n,ae++au,ak+1,du+1+1+1+1+1) aa
   ·exact A9 hS F (ae,du+1) aa
  ·rintro⟨am,fj⟩ rfl;exact Af hS F h
def CS(N:Nat)(ah:Int)(s821:List UInt8):Nat->Int->Int->(List (Int×Int×Int×(List (Int×Int))×Int×Int))->Option (Sum (Int×(List (Int×Int×Int×(List (Int×Int))×Int×Int))) (((List (Int×Int×Int×(List (Int×Int))×Int×Int))×Int)))|0,_,_,_=>none|n+1,ai,an,l858=>bif decide (an<ah)then((ES N s821 ai).bind λ(co,bh,ce)=>bif decide (ce≠0)then(some (.inr ([],120)))else((FF N co).bind λ((bg,be,bb,az,ay,aw),b9)=>bif decide (b9≠0)then(some (.inr ([],120)))else(gd ((l858.length+1)*64<=140737488355328)<|gd (Ab (an+1))<|CS N ah s821 n bh (an+1) (l858++[(bg,be,bb,az,ay,aw)]))))else(some (.inl (ai,l858)))
def FJ(N:Nat)(s821:List UInt8):Option ((List (Int×Int×Int×(List (Int×Int))×Int×Int))×Int):=(E1 N s821 0).bind λ(ah,bi,cq)=>bif ((decide (cq≠0))||(decide (ah<0)))||(decide (12<ah))then(some ([],120))else((CS N ah s821 N bi 0 []).bind λbp=>match bp with|.inl (aq,av)=>(gd ((!(decide (aq≠(s821.length:Int))))=true->((Bj N av).isSome=true))<|bif (decide (aq≠(s821.length:Int)))||(!((Bj N av).getD false))then(some ([],120))else(some (av,0)))|.inr dw=>(some dw))
@[go_sem] def s19(N:Nat):Spec:=p0<|pT λs821=>pE<|pF (FJ N s821) ([],0) λr=>.tup [.agg [Aj r.1],.i r.2]
theorem AbI(N:Nat):AZ Tryz.prog 19 (s19 N):=by
 refine Ax x19.ok<|LH λs821=>Ai<|Ay λr h=>wx x19 (Ac (Zq N)<|Ac (AbH N)<|Ac (Abt N)<|Ac (K6 N)<|An) λ_ hS F=>?_
 dsimp only[x19,Al];unfold FJ at h;obtain⟨⟨ah,bi,cq⟩,db,h⟩:=un h;replace F:=fc db F;refine Ap hS F h (λ_ h=>?_) (λ_ h=>?_)
 ·exact Af hS F h
 ·refine go hS F ?_;refine Dy 1000001 (400,4) 0 6 [.i 0,.i 0,.i 0,.sl 0 true [] [],.i 0,.i 0] (by omega) (ev F) ?_;obtain⟨bp,d9,h⟩:=un h;refine go hS F ?_;refine AM bp (λz:Int×(List (Int×Int×Int×(List (Int×Int))×Int×Int))×Nat=>⟨[(0,.v (.string (sB s821))),(2,.box (0,1) 0),(5,.i z.1),(7,.box (400,4) 0)],[(.c (400,4) 0,.own (1000001,6) z.2.1.length),(.a (1000001,6),Bl z.2.1),(.c (0,1) 0,.sl 0 true [] [])],z.2.2⟩) (λz=>(.inl (z.1,z.2.1):Sum (Int×(List (Int×Int×Int×(List (Int×Int))×Int×Int))) (((List (Int×Int×Int×(List (Int×Int))×Int×Int))×Int)))) (.x 0) ?_ ?_
  ·refine AH (λn (y:Int×Int×(List (Int×Int×Int×(List (Int×Int))×Int×Int))×Nat)=>CS N ah s821 n y.1 y.2.1 y.2.2.1) (λy=>⟨[(0,.v (.string (sB s821))),(2,.box (0,1) 0),(4,.i ah),(5,.i y.1),(7,.box (400,4) 0),(8,.i y.2.1)],[(.c (400,4) 0,.own (1000001,6) y.2.2.1.length),(.a (1000001,6),Bl y.2.2.1),(.c (0,1) 0,.sl 0 true [] [])],y.2.2.2⟩) (bi,0,[],6) d9 (Bn F) ?_;rintro n ⟨ai,an,l858,dt⟩ aa;simp only[CS]at aa;refine Ap hS F aa (λ_ aa=>?_) (λ_ aa=>?_)
   ·obtain⟨⟨co,bh,ce⟩,cz,aa⟩:=un aa;replace F:=fc cz F;refine Ap hS F aa (λ_ aa=>?_) (λ_ aa=>?_)
    ·obtain rfl:=yJ aa;exact Af hS F h
    ·obtain⟨⟨⟨bg,be,bb,az,ay,aw⟩,b9⟩,cy,aa⟩:=un aa;replace F:=fc cy F;refine Ap hS F aa (λ_ aa=>?_) (λ_ aa=>?_)
     ·obtain rfl:=yJ aa;exact Af hS F h
     ·obtain⟨ez,eh,aa⟩:=un aa;exact Bk hS F (n,bh,an+1,l858++[(bg,be,bb,az,ay,aw)],dt+1+1+1+1+1+1+1+1) aa
   ·exact A9 hS F (ai,l858,dt+1) aa
  ·rintro⟨aq,av,fh⟩ rfl;obtain⟨fo,h⟩:=un h;refine Ap hS F h (λ_ h=>?_) (λ_ h=>?_)
   ·exact Af hS F h
   ·exact Af hS F h
