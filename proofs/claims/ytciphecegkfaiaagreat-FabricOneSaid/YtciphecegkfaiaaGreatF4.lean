import Derived.Test.YtciphecegkfaiaaGreatF2
import Derived.Test.YtciphecegkfaiaaGreatP9
namespace Go.Proofs.YtciphecegkfaiaaGreat.Am
open Go
attribute [local irreducible] awp B5 BR Bx B3 Bw Bn BS B1 itK
set_option maxRecDepth 100000
set_option maxHeartbeats 8000000
set_option linter.unusedSimpArgs false
set_option linter.unusedVariables false
def BF (N:Nat) (s1:List (Int×Int)):Option (List (Int×Int)):=
 gd (s1≠[])<|
 gd ((s1.length)*16≤140737488355328)<|
 some s1
@[go_sem] def s78 (N:Nat):Spec:=p0<|pS Ap fun s1=>pE<|pF (BF N s1) [] fun r=>A1 r
theorem Y8 (N:Nat):FOK Tryz.prog 78 (s78 N):=by
 refine Al x78.ok<|A3 fun s1=>Ah<|An fun r h=>wx x78 (Aj) fun _ hS F=> ?_
 dsimp only[x78,mkX,Ap]
 unfold BF at h
 obtain⟨dl,h⟩:=un h
 refine gcf hS F ?_
 obtain⟨dh,h⟩:=un h
 exact Ad hS F h
def GN (N:Nat) (v2:Int) (v3:Int) (v4:Int) (v5:List (Int×Int)) (v6:Int) (v7:Int) (x8:Int) (x9:Int) (x10:Int) (x11:List (Int×Int)) (x12:Int) (x13:Int):Option Bool:=
 (Cz N x8 x9 x10 x11 x12 x13 v2 v3 v4 v5 v6 v7).bind fun r14=>
 some r14
@[go_sem] def s76 (N:Nat):Spec:=p0<|pG<|pI fun v2=>pI fun v3=>pI fun v4=>pS Ap fun v5=>pI fun v6=>pI fun v7=>pE<|pO<|pI fun x8=>pI fun x9=>pI fun x10=>pR Ap fun x11=>pI fun x12=>pI fun x13=>pE<|pE<|pF (GN N v2 v3 v4 v5 v6 v7 x8 x9 x10 x11 x12 x13) false fun r=> .b r
theorem lY (N:Nat):FOK Tryz.prog 76 (s76 N):=by
 refine Al x76.ok<|AW<|Ac fun v2=>Ac fun v3=>Ac fun v4=>A3 fun v5=>Ac fun v6=>Ac fun v7=>Ah<|JI<|Ac fun x8=>Ac fun x9=>Ac fun x10=>Uc fun x11=>Ac fun x12=>Ac fun x13=>Ah<|Ah<|An fun r h=>wx x76 (Aa (Uv N)<|Aj) fun _ hS F=> ?_
 dsimp only[x76,mkX,Ap]
 unfold GN at h
 obtain⟨r14,cy,h⟩:=un h
 exact Ad hS (fc cy F) h
def AU (N:Nat) (s16:List (Int×Int×Int×(List (Int×Int))×Int×Int)) (ay:Int) (aw:Int) (av:Int) (au:List (Int×Int)) (aq:Int) (an:Int):Nat→Int→Option (Sum Unit Int)
 |0,_=>none
 |n+1,x34=>
  bif decide (x34<(s16.length:Int)) then(
   (nth s16 x34).bind fun(x35,x36,x37,x38,x39,x40)=>
   (GN N x35 x36 x37 x38 x39 x40 ay aw av au aq an).bind fun dg=>
   bif dg then(
    some (.inr x34))
   else(
    gd (I64 (x34+1))<|
    AU N s16 ay aw av au aq an n (x34+1)))
  else(
   some (.inl ()))
def Cv (N:Nat) (s16:List (Int×Int×Int×(List (Int×Int))×Int×Int)) (ay:Int) (aw:Int) (av:Int) (au:List (Int×Int)) (aq:Int) (an:Int):Option Int:=
 (AU N s16 ay aw av au aq an N 0).bind fun ci=>match ci with
  | .inl ()=>(
   some (-1))
  | .inr r47=>(
   some r47)
@[go_sem] def Yh (N:Nat):Spec:=p0<|pD Ak fun s16=>pL 76<|pO<|pI fun ay=>pI fun aw=>pI fun av=>pR Ap fun au=>pI fun aq=>pI fun an=>pE<|pE<|pE<|pF (Cv N s16 ay aw av au aq an) 0 fun r=> .i r
theorem UF (N:Nat):FOK Tryz.prog 117 (Yh N):=by
 refine Al x117.ok<|CQ fun s16=>JJ<|JI<|Ac fun ay=>Ac fun aw=>Ac fun av=>Uc fun au=>Ac fun aq=>Ac fun an=>Ah<|Ah<|Ah<|An fun r h=>wx x117 (Aa (lY N)<|Aj) fun _ hS F=> ?_
 dsimp only[x117,mkX,Ap,Ak]
 unfold Cv at h
 obtain⟨ci,d9,h⟩:=un h
 refine go hS F ?_
 refine Au ci (fun z:Nat=>⟨[],[],z⟩) (fun z=>(.inl ():Sum Unit Int)) (.x 0) ?_ ?_
 ·refine Aq (fun n (y:Int×Nat)=>AU N s16 ay aw av au aq an n y.1) (fun y=>⟨[(0,Af s16),(1,.clo (.func 76) [] [.ro [.i ay,.i aw,.i av,A1 au,.i aq,.i an] 0]),(7,.i (s16.length:Int)),(8,.i y.1)],[],y.2⟩) (0,2) d9 (leF F) ?_
  rintro n ⟨x34,dq⟩ aa
  simp only[AU] at aa
  refine gcb hS F aa (fun _ aa=> ?_) (fun _ aa=> ?_)
  ·obtain⟨⟨x35,x36,x37,x38,x39,x40⟩,db,aa⟩:=un aa
   obtain⟨d6,F⟩:=rqG Ai db F
   obtain⟨dg,cu,aa⟩:=un aa
   replace F:=fc cu F
   refine gcb hS F aa (fun _ aa=> ?_) (fun _ aa=> ?_)
   ·obtain rfl:=yJ aa
    exact Ad hS F h
   ·obtain⟨dz,aa⟩:=un aa
    exact gbk hS F (n,x34+1,dq+1+1+1+1) aa
  ·exact gck hS F (dq+1) aa
 ·rintro e8 rfl
  exact Ad hS F h
def Bt (N:Nat) (s49:List (Int×Int×Int×(List (Int×Int))×Int×Int)) (bv:Int) (bu:Int) (br:Int) (bq:List (Int×Int)) (bp:Int) (bo:Int):Option Bool:=
 (Cv N s49 bv bu br bq bp bo).bind fun de=>
 some (decide (0≤de))
@[go_sem] def aO (N:Nat):Spec:=p0<|pD Ak fun s49=>pL 76<|pO<|pI fun bv=>pI fun bu=>pI fun br=>pR Ap fun bq=>pI fun bp=>pI fun bo=>pE<|pE<|pE<|pF (Bt N s49 bv bu br bq bp bo) false fun r=> .b r
theorem V5 (N:Nat):FOK Tryz.prog 75 (aO N):=by
 refine Al x75.ok<|CQ fun s49=>JJ<|JI<|Ac fun bv=>Ac fun bu=>Ac fun br=>Uc fun bq=>Ac fun bp=>Ac fun bo=>Ah<|Ah<|Ah<|An fun r h=>wx x75 (Aa (UF N)<|Aj) fun _ hS F=> ?_
 dsimp only[x75,mkX,Ap,Ak]
 unfold Bt at h
 obtain⟨de,cr,h⟩:=un h
 exact Ad hS (fc cr F) h
def Fo (N:Nat) (f58:List (Int×Int×Int×(List (Int×Int))×Int×Int)):Nat→Int→(List (Int×Int×Int×(List (Int×Int))×Int×Int))→Option ((List (Int×Int×Int×(List (Int×Int))×Int×Int)))
 |0,_,_=>none
 |n+1,x81,l82=>
  bif decide (x81<(f58.length:Int)) then(
   (nth l82 x81).bind fun(x83,x84,x85,x86,x87,x88)=>
   (BF N x86).bind fun bz=>
   gd (I64 (x81+1))<|
   Fo N f58 n (x81+1) (l82.set x81.toNat (x83,x84,x85,bz,x87,x88)))
  else(
   some l82)
def EM (N:Nat) (f58:List (Int×Int×Int×(List (Int×Int))×Int×Int)) (ae:Int) (ai:Int) (ah:Int) (aj:List (Int×Int)) (af:Int) (u64:Int):Option ((List (Int×Int×Int×(List (Int×Int))×Int×Int))×Int):=
 (AT N f58).bind fun ce=>
 gd ((!(!ce))=true→((BA N ae ai ah aj af u64).isSome=true))<|
 bif ((!ce)||(!((BA N ae ai ah aj af u64).getD false)))||(decide ((f58.length:Int)=12)) then(
  some ([],120))
 else(
  (AG N f58 ae).bind fun(r67,b9)=>
  gd ((!b9)=true→((Bt N f58 ae ai ah aj af u64).isSome=true))<|
  bif b9||((Bt N f58 ae ai ah aj af u64).getD false) then(
   some ([],120))
  else(
   gd (f58≠[])<|
   gd ((f58.length)*64≤140737488355328)<|
   (Fo N f58 N 0 f58).bind fun l96=>
   (BF N aj).bind fun bw=>
   gd (0≤r67∧r67≤(l96.length:Int))<|
   gd ((l96.length+1)*64≤140737488355328)<|
   some (l96.take r67.toNat++[(ae,ai,ah,bw,af,u64)]++l96.drop r67.toNat,0)))
@[go_sem] def s21 (N:Nat):Spec:=p0<|pG<|pD Ak fun f58=>pE<|pG<|pI fun ae=>pI fun ai=>pI fun ah=>pD Ap fun aj=>pI fun af=>pI fun u64=>pE<|pE<|pF (EM N f58 ae ai ah aj af u64) ([],0) fun r=> .tup [.agg [Af r.1],.i r.2]
theorem UG (N:Nat):FOK Tryz.prog 21 (s21 N):=by
 refine Al x21.ok<|AW<|CQ fun f58=>Ah<|AW<|Ac fun ae=>Ac fun ai=>Ac fun ah=>CQ fun aj=>Ac fun af=>Ac fun u64=>Ah<|Ah<|An fun r h=>wx x21 (Aa (G5 N)<|Aa (JQ N)<|Aa (MA N)<|Aa (V5 N)<|Aa (Y8 N)<|Aj) fun _ hS F=> ?_
 dsimp only[x21,mkX,Ap,Ak]
 unfold EM at h
 obtain⟨ce,cq,dl,h⟩:=un h
 replace F:=fc cq F
 refine gcb hS F h (fun _ h=> ?_) (fun _ h=> ?_)
 ·exact Ad hS F h
 ·obtain⟨⟨r67,b9⟩,co,h⟩:=un h
  obtain⟨dh,h⟩:=un h
  replace F:=fc co F
  refine gcb hS F h (fun _ h=> ?_) (fun _ h=> ?_)
  ·exact Ad hS F h
  ·refine go hS F ?_
   refine Df hS 1 x77.hf x77.hc x77.hn x77.ok rfl (ev F) (ev F) ?_ rfl (ev F) (Nat.le_of_ble_eq_true rfl) fun hb=> ?_
   ·exact goc hS F
   dsimp only[x77,mkX]
   refine go hS F ?_
   refine Df hS 2 x118.hf x118.hc x118.hn x118.ok rfl (ev F) (ev F) ?_ rfl (ev F) (Nat.le_of_ble_eq_true rfl) fun hb=> ?_
   ·exact goc hS F
   dsimp only[x118,mkX]
   obtain⟨dz,h⟩:=un h
   refine gcf hS F ?_
   obtain⟨eu,h⟩:=un h
   obtain⟨dt,d7,h⟩:=un h
   refine go hS F ?_
   refine Au dt (fun z:(List (Int×Int×Int×(List (Int×Int))×Int×Int))×Nat=>⟨[(2,.box (1,6) 0),(3,.box (104,11) 0)],[(.c (1,1) 0,.i ae),(.c (1,1) 1,.i ai),(.c (1,1) 2,.i ah),(.c (1,1) 3,A1 aj),(.c (1,1) 4,.i af),(.c (1,1) 5,.i u64),(.c (0,1) 0,Af f58),(.c (2,1) 0,.sl 0 true [] []),(.c (104,11) 0,.own (300,10) z.1.length),(.a (300,10),BK z.1),(.c (1,6) 0,.sl 0 true [] [])],z.2⟩) (fun z=>(z.1:(List (Int×Int×Int×(List (Int×Int))×Int×Int)))) (.x 0) ?_ ?_
   ·refine Aq (fun n (y:Int×(List (Int×Int×Int×(List (Int×Int))×Int×Int))×Nat)=>Fo N f58 n y.1 y.2.1) (fun y=>⟨[(2,.box (1,6) 0),(3,.box (104,11) 0),(11,.i (f58.length:Int)),(12,.i y.1)],[(.c (1,1) 0,.i ae),(.c (1,1) 1,.i ai),(.c (1,1) 2,.i ah),(.c (1,1) 3,A1 aj),(.c (1,1) 4,.i af),(.c (1,1) 5,.i u64),(.c (0,1) 0,Af f58),(.c (2,1) 0,.sl 0 true [] []),(.c (104,11) 0,.own (300,10) y.2.1.length),(.a (300,10),BK y.2.1),(.c (1,6) 0,.sl 0 true [] [])],y.2.2⟩) (0,f58,12) d7 (leF F) ?_
    rintro n ⟨x81,l82,dp⟩ ak
    simp only[Fo] at ak
    refine gcb hS F ak (fun _ ak=> ?_) (fun _ ak=> ?_)
    ·obtain⟨⟨x83,x84,x85,x86,x87,x88⟩,cz,ak⟩:=un ak
     obtain⟨d5,F⟩:=rqG Ai cz F
     obtain⟨bz,cn,dw,ak⟩:=un ak
     exact gbk hS (fc cn F) (n,x81+1,l82.set x81.toNat (x83,x84,x85,bz,x87,x88),dp+1+1+1+1) ak
    ·exact gck hS F (l82,dp+1) ak
   ·rintro⟨l96,ez⟩ rfl
    obtain⟨bw,ck,du,ei,h⟩:=un h
    replace F:=fc ck F
    refine go hS F ?_
    refine S9 (Ctx.fn_ok hS) 5 qN rfl (ev F) ?_ (ev F) (ev F) (by simp) (ev F) (ev F) (ev F) (by simp only[go_sem,seval,F]<;>simp) Nl (cR (l:=l96) (i:=r67) (u:=(ae,ai,ah,bw,af,u64)) (by omega) (by omega) (by omega)) (ev F) ?_ ?_
    ·exact goc hS F
    ·exact goc hS F
    exact Ad hS F h
def Es (N:Nat) (f100:List (Int×Int×Int×(List (Int×Int))×Int×Int)):Nat→Int→(List (Int×Int×Int×(List (Int×Int))×Int×Int))→Option ((List (Int×Int×Int×(List (Int×Int))×Int×Int)))
 |0,_,_=>none
 |n+1,x118,l119=>
  bif decide (x118<(f100.length:Int)) then(
   (nth l119 x118).bind fun(az,x121,x122,x123,x124,Ut)=>
   (BF N x123).bind fun ba=>
   gd (I64 (x118+1))<|
   Es N f100 n (x118+1) (l119.set x118.toNat (az,x121,x122,ba,x124,Ut)))
  else(
   some l119)
def Cn (N:Nat) (f100:List (Int×Int×Int×(List (Int×Int))×Int×Int)) (ab:Int):Option ((List (Int×Int×Int×(List (Int×Int))×Int×Int))×Int):=
 (AT N f100).bind fun be=>
 bif !be then(
  some ([],120))
 else(
  (AG N f100 ab).bind fun(r104,bb)=>
  bif !bb then(
   some ([],120))
  else(
   gd (f100≠[])<|
   gd ((f100.length)*64≤140737488355328)<|
   (Es N f100 N 0 f100).bind fun l133=>
   gd (I64 (r104+1))<|
   gd (0≤r104∧r104<(l133.length:Int))<|
   gd ((l133.length:Int)≤9223372036854775807)<|
   some (l133.take r104.toNat++l133.drop (r104.toNat+1),0)))
@[go_sem] def s24 (N:Nat):Spec:=p0<|pG<|pD Ak fun f100=>pE<|pI fun ab=>pE<|pF (Cn N f100 ab) ([],0) fun r=> .tup [.agg [Af r.1],.i r.2]
theorem UH (N:Nat):FOK Tryz.prog 24 (s24 N):=by
 refine Al x24.ok<|AW<|CQ fun f100=>Ah<|Ac fun ab=>Ah<|An fun r h=>wx x24 (Aa (G5 N)<|Aa (MA N)<|Aa (Y8 N)<|Aj) fun _ hS F=> ?_
 dsimp only[x24,mkX,Ak]
 unfold Cn at h
 obtain⟨be,bi,h⟩:=un h
 replace F:=fc bi F
 refine gcb hS F h (fun _ h=> ?_) (fun _ h=> ?_)
 ·exact Ad hS F h
 ·obtain⟨⟨r104,bb⟩,bh,h⟩:=un h
  replace F:=fc bh F
  refine gcb hS F h (fun _ h=> ?_) (fun _ h=> ?_)
  ·exact Ad hS F h
  ·refine go hS F ?_
   refine Df hS 1 x77.hf x77.hc x77.hn x77.ok rfl (ev F) (ev F) ?_ rfl (ev F) (Nat.le_of_ble_eq_true rfl) fun hb=> ?_
   ·exact goc hS F
   dsimp only[x77,mkX]
   refine go hS F ?_
   refine Df hS 2 x118.hf x118.hc x118.hn x118.ok rfl (ev F) (ev F) ?_ rfl (ev F) (Nat.le_of_ble_eq_true rfl) fun hb=> ?_
   ·exact goc hS F
   dsimp only[x118,mkX]
   obtain⟨dl,h⟩:=un h
   refine gcf hS F ?_
   obtain⟨dh,h⟩:=un h
   obtain⟨cj,d8,h⟩:=un h
   refine go hS F ?_
   refine Au cj (fun z:(List (Int×Int×Int×(List (Int×Int))×Int×Int))×Nat=>⟨[(2,.box (1,6) 0),(3,.box (104,11) 0)],[(.c (0,1) 0,Af f100),(.c (1,1) 0,.sl 0 true [] []),(.c (104,11) 0,.own (300,10) z.1.length),(.a (300,10),BK z.1),(.c (1,6) 0,.sl 0 true [] [])],z.2⟩) (fun z=>(z.1:(List (Int×Int×Int×(List (Int×Int))×Int×Int)))) (.x 0) ?_ ?_
   ·refine Aq (fun n (y:Int×(List (Int×Int×Int×(List (Int×Int))×Int×Int))×Nat)=>Es N f100 n y.1 y.2.1) (fun y=>⟨[(2,.box (1,6) 0),(3,.box (104,11) 0),(11,.i (f100.length:Int)),(12,.i y.1)],[(.c (0,1) 0,Af f100),(.c (1,1) 0,.sl 0 true [] []),(.c (104,11) 0,.own (300,10) y.2.1.length),(.a (300,10),BK y.2.1),(.c (1,6) 0,.sl 0 true [] [])],y.2.2⟩) (0,f100,12) d8 (leF F) ?_
    rintro n ⟨x118,l119,bm⟩ am
    simp only[Es] at am
    refine gcb hS F am (fun _ am=> ?_) (fun _ am=> ?_)
    ·obtain⟨⟨az,x121,x122,x123,x124,Ut⟩,bj,am⟩:=un am
     obtain⟨dm,F⟩:=rqG Ai bj F
     obtain⟨ba,bg,em,am⟩:=un am
     exact gbk hS (fc bg F) (n,x118+1,l119.set x118.toNat (az,x121,x122,ba,x124,Ut),bm+1+1+1+1) am
    ·exact gck hS F (l119,bm+1) am
   ·rintro⟨l133,eh⟩ rfl
    obtain⟨ej,dw,du,h⟩:=un h
    refine go hS F ?_
    refine S9 (Ctx.fn_ok hS) 5 qO rfl (ev F) ?_ (ev F) (ev F) (by simp) (ev F) (ev F) (ev F) (by simp only[go_sem,seval,F]<;>simp) Nl (cS (l:=l133) (i:=r104) (by omega) (by omega) (by omega)) (ev F) ?_ ?_
    ·exact goc hS F
    ·exact goc hS F
    exact Ad hS F h
end Go.Proofs.YtciphecegkfaiaaGreat.Am
namespace Go.Proofs.YtciphecegkfaiaaGreat.Am
open Go
attribute [local irreducible] awp B5 BR Bx B3 Bw Bn BS B1 itK
set_option maxRecDepth 100000
set_option maxHeartbeats 8000000
set_option linter.unusedSimpArgs false
set_option linter.unusedVariables false
attribute [local go_sem] LZ LZ
def Ik (N:Nat) (s1:List UInt8):Option ((List UInt8)×Int):=
 bif decide (65536<(s1.length:Int)) then(
  some ([],10))
 else(
  gd (((EZ (s1.length:Int))++s1).length≤140737488355328)<|
  some ((EZ (s1.length:Int))++s1,0))
@[go_sem] def s96 (N:Nat):Spec:=p0<|pT fun s1=>pE<|pF (Ik N s1) ([],0) fun r=> .tup [.v (.string (sB r.1)),.i r.2]
theorem lZ (N:Nat):FOK Tryz.prog 96 (s96 N):=by
 refine Al x96.ok<|JK fun s1=>Ah<|An fun r h=>wx x96 (Aa NX<|Aj) fun _ hS F=> ?_
 dsimp only[x96,mkX,CZ]
 unfold Ik at h
 refine gcb hS F h (fun _ h=> ?_) (fun _ h=> ?_)
 ·exact Ad hS F h
 ·obtain⟨cn,h⟩:=un h
  exact Ad hS F h
def JD (N:Nat) (s2:List UInt8) (aq:Int):Option ((List UInt8)×Int×Int):=
 (DT N s2 aq).bind fun(r4,r5,r6)=>
 bif decide (r6≠0) then(
  some ([],0,r6))
 else(
  gd ((!((decide (r4<0))||(decide (65536<r4))))=true→(I64 ((s2.length:Int)-r5)))<|
  bif ((decide (r4<0))||(decide (65536<r4)))||(decide ((s2.length:Int)-r5<r4)) then(
   some ([],0,10))
  else(
   gd (I64 (r5+r4))<|
   gd (0≤r5∧r5≤r5+r4∧r5+r4≤(s2.length:Int))<|
   gd (I64 (r5+r4))<|
   some ((s2.drop r5.toNat).take ((r5+r4).toNat-r5.toNat),r5+r4,0)))
@[go_sem] def s68 (N:Nat):Spec:=p0<|pT fun s2=>pI fun aq=>pE<|pF (JD N s2 aq) ([],0,0) fun r=> .tup [.v (.string (sB r.1)),.i r.2.1,.i r.2.2]
theorem mA (N:Nat):FOK Tryz.prog 68 (s68 N):=by
 refine Al x68.ok<|JK fun s2=>Ac fun aq=>Ah<|An fun r h=>wx x68 (Aa (Uw N)<|Aj) fun _ hS F=> ?_
 dsimp only[x68,mkX,CZ]
 unfold JD at h
 obtain⟨⟨r4,r5,r6⟩,cq,h⟩:=un h
 replace F:=fc cq F
 refine gcb hS F h (fun _ h=> ?_) (fun _ h=> ?_)
 ·exact Ad hS F h
 ·obtain⟨cn,h⟩:=un h
  refine gcb hS F h (fun _ h=> ?_) (fun _ h=> ?_)
  ·exact Ad hS F h
  ·obtain⟨cz,ce,b9,h⟩:=un h
   exact Ad hS F h
def Gd (N:Nat) (f8:List (Int×Int×Int×(List (Int×Int))×Int×Int)):Nat→(List UInt8)→Int→Option ((List UInt8))
 |0,_,_=>none
 |n+1,ab,x27=>
  bif decide (x27<(f8.length:Int)) then(
   (nth f8 x27).bind fun(x28,x29,x30,x31,x32,x33)=>
   (DS N x28 x29 x30 x31 x32 x33).bind fun(bz,r36)=>
   (Ik N bz).bind fun(an,cj)=>
   gd ((ab++an).length≤140737488355328)<|
   gd (I64 (x27+1))<|
   Gd N f8 n (ab++an) (x27+1))
  else(
   some ab)
def Ge (N:Nat) (f8:List (Int×Int×Int×(List (Int×Int))×Int×Int)):Option ((List UInt8)×Int):=
 (AT N f8).bind fun r9=>
 bif !r9 then(
  some ([],120))
 else(
  (Gd N f8 N (EZ (f8.length:Int)) 0).bind fun am=>
  some (am,0))
@[go_sem] def s42 (N:Nat):Spec:=p0<|pG<|pD Ak fun f8=>pE<|pE<|pF (Ge N f8) ([],0) fun r=> .tup [.v (.string (sB r.1)),.i r.2]
theorem Y9 (N:Nat):FOK Tryz.prog 42 (s42 N):=by
 refine Al x42.ok<|AW<|CQ fun f8=>Ah<|Ah<|An fun r h=>wx x42 (Aa (G5 N)<|Aa NX<|Aa (mY N)<|Aa (lZ N)<|Aj) fun _ hS F=> ?_
 dsimp only[x42,mkX,Ak,CZ]
 unfold Ge at h
 obtain⟨r9,co,h⟩:=un h
 replace F:=fc co F
 refine gcb hS F h (fun _ h=> ?_) (fun _ h=> ?_)
 ·exact Ad hS F h
 ·obtain⟨ck,bq,h⟩:=un h
  refine go hS F ?_
  refine Au ck (fun z:(List UInt8)×Nat=>⟨[(4,.v (.string (sB z.1)))],[],z.2⟩) (fun z=>(z.1:(List UInt8))) (.x 0) ?_ ?_
  ·refine Aq (fun n (y:(List UInt8)×Int×Nat)=>Gd N f8 n y.1 y.2.1) (fun y=>⟨[(4,.v (.string (sB y.1))),(23,Af f8),(24,.i (f8.length:Int)),(25,.i y.2.1)],[],y.2.2⟩) (EZ (f8.length:Int),0,4) bq (leF F) ?_
   rintro n ⟨ab,x27,ci⟩ aa
   simp only[Gd] at aa
   refine gcb hS F aa (fun _ aa=> ?_) (fun _ aa=> ?_)
   ·obtain⟨⟨x28,x29,x30,x31,x32,x33⟩,bp,aa⟩:=un aa
    obtain⟨cr,F⟩:=rqG Ai bp F
    obtain⟨⟨bz,r36⟩,bo,aa⟩:=un aa
    obtain⟨⟨an,cj⟩,bm,aa⟩:=un aa
    obtain⟨ce,b9,aa⟩:=un aa
    exact gbk hS (fc bm (fc bo F)) (n,ab++an,x27+1,ci+1+1+1+1+1+1) aa
   ·exact gck hS F (ab,ci+1) aa
  ·rintro⟨am,db⟩ rfl
   exact Ad hS F h
def Gf (N:Nat) (aj:Int) (ae:Int) (s47:List UInt8):Nat→Int→Int→(List (Int×Int×Int×(List (Int×Int))×Int×Int))→Option (Int×Bool×(List (Int×Int×Int×(List (Int×Int))×Int×Int)))
 |0,_,_,_=>none
 |n+1,ah,i83,l84=>
  bif (!(((decide (aj≠0))||(decide (ae<0)))||(decide (12<ae))))&&(decide (i83<ae)) then(
   (JD N s47 ah).bind fun(bw,bb,bv)=>
   (CK N bw).bind fun((ba,az,ay,aw,av,au),bu)=>
   bif (decide (bv≠0))||(decide (bu≠0)) then(
    some (ah,true,l84))
   else(
    gd ((l84.length+1)*64≤140737488355328)<|
    gd (I64 (i83+1))<|
    Gf N aj ae s47 n bb (i83+1) (l84++[(ba,az,ay,aw,av,au)])))
  else(
   some (ah,((decide (aj≠0))||(decide (ae<0)))||(decide (12<ae)),l84))
def Fp (N:Nat) (s47:List UInt8):Option ((List (Int×Int×Int×(List (Int×Int))×Int×Int))×Int):=
 (DT N s47 0).bind fun(ae,be,aj)=>
 (Gf N aj ae s47 N be 0 []).bind fun(ai,af,ak)=>
 gd ((!(af||(decide (ai≠(s47.length:Int)))))=true→((AT N ak).isSome=true))<|
 bif (af||(decide (ai≠(s47.length:Int))))||(!((AT N ak).getD false)) then(
  some ([],120))
 else(
  some (ak,0))
@[go_sem] def s18 (N:Nat):Spec:=p0<|pT fun s47=>pE<|pF (Fp N s47) ([],0) fun r=> .tup [.agg [Af r.1],.i r.2]
theorem Za (N:Nat):FOK Tryz.prog 18 (s18 N):=by
 refine Al x18.ok<|JK fun s47=>Ah<|An fun r h=>wx x18 (Aa (Uw N)<|Aa (mA N)<|Aa (mZ N)<|Aa (G5 N)<|Aj) fun _ hS F=> ?_
 dsimp only[x18,mkX]
 unfold Fp at h
 obtain⟨⟨ae,be,aj⟩,bj,h⟩:=un h
 replace F:=fc bj F
 refine go hS F ?_
 refine DR 1000001 (0,1) 0 6 [.i 0,.i 0,.i 0,.sl 0 true [] [],.i 0,.i 0] (by omega) (ev F) ?_
 obtain⟨bg,bq,h⟩:=un h
 refine go hS F ?_
 refine Au bg (fun z:Int×Bool×(List (Int×Int×Int×(List (Int×Int))×Int×Int))×Nat=>⟨[(0,.v (.string (sB s47))),(2,.box (0,1) 0),(5,.i z.1),(6,.b z.2.1)],[(.c (0,1) 0,.own (1000001,5) z.2.2.1.length),(.a (1000001,5),BK z.2.2.1)],z.2.2.2⟩) (fun z=>((z.1,z.2.1,z.2.2.1):Int×Bool×(List (Int×Int×Int×(List (Int×Int))×Int×Int)))) (.x 0) ?_ ?_
 ·refine Aq (fun n (y:Int×Int×(List (Int×Int×Int×(List (Int×Int))×Int×Int))×Nat)=>Gf N aj ae s47 n y.1 y.2.1 y.2.2.1) (fun y=>⟨[(0,.v (.string (sB s47))),(2,.box (0,1) 0),(4,.i ae),(5,.i y.1),(6,.b (((decide (aj≠0))||(decide (ae<0)))||(decide (12<ae)))),(7,.i y.2.1)],[(.c (0,1) 0,.own (1000001,5) y.2.2.1.length),(.a (1000001,5),BK y.2.2.1)],y.2.2.2⟩) (be,0,[],5) bq (leF F) ?_
  rintro n ⟨ah,i83,l84,br⟩ aa
  simp only[Gf] at aa
  refine gcb hS F aa (fun _ aa=> ?_) (fun _ aa=> ?_)
  ·obtain⟨⟨bw,bb,bv⟩,bi,aa⟩:=un aa
   obtain⟨⟨⟨ba,az,ay,aw,av,au⟩,bu⟩,bh,aa⟩:=un aa
   replace F:=fc bh (fc bi F)
   refine gcb hS F aa (fun _ aa=> ?_) (fun _ aa=> ?_)
   ·exact gck hS F (ah,true,l84,br+1+1+1+1+1) aa
   ·obtain⟨ce,b9,aa⟩:=un aa
    exact gbk hS F (n,bb,i83+1,l84++[(ba,az,ay,aw,av,au)],br+1+1+1+1+1+1) aa
  ·exact gck hS F (ah,((decide (aj≠0))||(decide (ae<0)))||(decide (12<ae)),l84,br+1) aa
 ·rintro⟨ai,af,ak,cu⟩ rfl
  obtain⟨cy,h⟩:=un h
  refine gcb hS F h (fun _ h=> ?_) (fun _ h=> ?_)
  ·exact Ad hS F h
  ·exact Ad hS F h
end Go.Proofs.YtciphecegkfaiaaGreat.Am
