import Derived.Test.YtciphecegkfaiaaGreatF2
import Derived.Test.YtciphecegkfaiaaGreatA25
import Derived.Test.YtciphecegkfaiaaGreatA10
import Derived.Test.YtciphecegkfaiaaGreatP9
namespace Go.Proofs.YtciphecegkfaiaaGreat.Am
open Go
attribute [local irreducible] awp B5 BR Bx B3 Bw Bn BS B1 itK
set_option maxRecDepth 100000
set_option maxHeartbeats 8000000
set_option linter.unusedSimpArgs false
set_option linter.unusedVariables false
def BF (N:Nat) (s1:List (Int×Int)):Option (List (Int×Int)):=
 gd (s1≠[])<|
 gd ((s1.length)*16≤140737488355328)<|
 some s1
@[go_sem] def s78 (N:Nat):Spec:=p0<|pS Ap fun s1=>pE<|pF (BF N s1) [] fun r=>A1 r
theorem Y8 (N:Nat):FOK Tryz.prog 78 (s78 N):=by
 refine Al x78.ok<|A3 fun s1=>Ah<|An fun r h=>wx x78 (Aj) fun _ hS F=> ?_
 dsimp only[x78,mkX,Ap]
 unfold BF at h
 obtain⟨d7,h⟩:=un h
 refine gcf hS F ?_
 obtain⟨d6,h⟩:=un h
 exact Ad hS F h
def GN (N:Nat) (v2:Int) (v3:Int) (v4:Int) (v5:List (Int×Int)) (v6:Int) (v7:Int) (x8:Int) (x9:Int) (x10:Int) (x11:List (Int×Int)) (x12:Int) (x13:Int):Option Bool:=
 (Cz N x8 x9 x10 x11 x12 x13 v2 v3 v4 v5 v6 v7).bind fun r14=>
 some r14
@[go_sem] def s76 (N:Nat):Spec:=p0<|pG<|pI fun v2=>pI fun v3=>pI fun v4=>pS Ap fun v5=>pI fun v6=>pI fun v7=>pE<|pO<|pI fun x8=>pI fun x9=>pI fun x10=>pR Ap fun x11=>pI fun x12=>pI fun x13=>pE<|pE<|pF (GN N v2 v3 v4 v5 v6 v7 x8 x9 x10 x11 x12 x13) false fun r=> .b r
theorem lY (N:Nat):FOK Tryz.prog 76 (s76 N):=by
 refine Al x76.ok<|AW<|Ac fun v2=>Ac fun v3=>Ac fun v4=>A3 fun v5=>Ac fun v6=>Ac fun v7=>Ah<|JI<|Ac fun x8=>Ac fun x9=>Ac fun x10=>Uc fun x11=>Ac fun x12=>Ac fun x13=>Ah<|Ah<|An fun r h=>wx x76 (Aa (Uv N)<|Aj) fun _ hS F=> ?_
 dsimp only[x76,mkX,Ap]
 unfold GN at h
 obtain⟨r14,dq,h⟩:=un h
 exact Ad hS (fc dq F) h
def AU (N:Nat) (s16:List (Int×Int×Int×(List (Int×Int))×Int×Int)) (az:Int) (ay:Int) (aw:Int) (av:List (Int×Int)) (au:Int) (aq:Int):Nat→Int→Option (Sum Unit Int)
 |0,_=>none
 |n+1,x34=>
  bif decide (x34<(s16.length:Int)) then(
   (nth s16 x34).bind fun(x35,x36,x37,x38,x39,x40)=>
   (GN N x35 x36 x37 x38 x39 x40 az ay aw av au aq).bind fun dz=>
   bif dz then(
    some (.inr x34))
   else(
    gd (I64 (x34+1))<|
    AU N s16 az ay aw av au aq n (x34+1)))
  else(
   some (.inl ()))
def Cv (N:Nat) (s16:List (Int×Int×Int×(List (Int×Int))×Int×Int)) (az:Int) (ay:Int) (aw:Int) (av:List (Int×Int)) (au:Int) (aq:Int):Option Int:=
 (AU N s16 az ay aw av au aq N 0).bind fun cz=>match cz with
  | .inl ()=>(
   some (-1))
  | .inr r47=>(
   some r47)
@[go_sem] def Yh (N:Nat):Spec:=p0<|pD Ak fun s16=>pL 76<|pO<|pI fun az=>pI fun ay=>pI fun aw=>pR Ap fun av=>pI fun au=>pI fun aq=>pE<|pE<|pE<|pF (Cv N s16 az ay aw av au aq) 0 fun r=> .i r
theorem UF (N:Nat):FOK Tryz.prog 117 (Yh N):=by
 refine Al x117.ok<|CQ fun s16=>JJ<|JI<|Ac fun az=>Ac fun ay=>Ac fun aw=>Uc fun av=>Ac fun au=>Ac fun aq=>Ah<|Ah<|Ah<|An fun r h=>wx x117 (Aa (lY N)<|Aj) fun _ hS F=> ?_
 dsimp only[x117,mkX,Ap,Ak]
 unfold Cv at h
 obtain⟨cz,fq,h⟩:=un h
 refine go hS F ?_
 refine Au cz (fun z:Nat=>⟨[],[],z⟩) (fun z=>(.inl ():Sum Unit Int)) (.x 0) ?_ ?_
 ·refine Aq (fun n (y:Int×Nat)=>AU N s16 az ay aw av au aq n y.1) (fun y=>⟨[(0,Af s16),(1,.clo (.func 76) [] [.ro [.i az,.i ay,.i aw,A1 av,.i au,.i aq] 0]),(7,.i (s16.length:Int)),(8,.i y.1)],[],y.2⟩) (0,2) fq (leF F) ?_
  rintro n ⟨x34,eh⟩ aa
  simp only[AU] at aa
  refine gcb hS F aa (fun _ aa=> ?_) (fun _ aa=> ?_)
  ·obtain⟨⟨x35,x36,x37,x38,x39,x40⟩,du,aa⟩:=un aa
   obtain⟨fh,F⟩:=rqG Ai du F
   obtain⟨dz,dp,aa⟩:=un aa
   replace F:=fc dp F
   refine gcb hS F aa (fun _ aa=> ?_) (fun _ aa=> ?_)
   ·obtain rfl:=yJ aa
    exact Ad hS F h
   ·obtain⟨d5,aa⟩:=un aa
    exact gbk hS F (n,x34+1,eh+1+1+1+1) aa
  ·exact gck hS F (eh+1) aa
 ·rintro gj rfl
  exact Ad hS F h
def Bt (N:Nat) (s49:List (Int×Int×Int×(List (Int×Int))×Int×Int)) (co:Int) (ce:Int) (b9:Int) (bz:List (Int×Int)) (bw:Int) (bv:Int):Option Bool:=
 (Cv N s49 co ce b9 bz bw bv).bind fun dw=>
 some (decide (0≤dw))
@[go_sem] def aO (N:Nat):Spec:=p0<|pD Ak fun s49=>pL 76<|pO<|pI fun co=>pI fun ce=>pI fun b9=>pR Ap fun bz=>pI fun bw=>pI fun bv=>pE<|pE<|pE<|pF (Bt N s49 co ce b9 bz bw bv) false fun r=> .b r
theorem V5 (N:Nat):FOK Tryz.prog 75 (aO N):=by
 refine Al x75.ok<|CQ fun s49=>JJ<|JI<|Ac fun co=>Ac fun ce=>Ac fun b9=>Uc fun bz=>Ac fun bw=>Ac fun bv=>Ah<|Ah<|Ah<|An fun r h=>wx x75 (Aa (UF N)<|Aj) fun _ hS F=> ?_
 dsimp only[x75,mkX,Ap,Ak]
 unfold Bt at h
 obtain⟨dw,dm,h⟩:=un h
 exact Ad hS (fc dm F) h
def Aaj:Spec
 |[.sl 0 true [] [],.v (.int .i64 n),.sl 6 _ [u] d]=>some (n=0∧u.length=6,.sl 6 false [u] d)
 |_=>none
@[go_sem] theorem AbE (n:Int) (f:Bool) (u d:List AV):Aaj [.sl 0 true [] [],.v (.int .i64 n),.sl 6 f [u] d]=some (n=0∧u.length=6,.sl 6 false [u] d):=rfl
theorem Aba:FOK Tryz.prog 79 Aaj:=by
 refine⟨qN,fun args vc r h hv=> ?_⟩
 unfold Aaj at h
 split at h
 ·rename_i n f u d
  simp only[yE,Prod.mk.injEq] at h
  obtain⟨rfl,rfl⟩:=h
  obtain⟨rfl,hu⟩:=hv
  intro σ vs gl hlt hp hr
  simp only[RepL] at hr
  obtain⟨v0,_,rfl,r0,v1,_,rfl,r1,v2,_,rfl,r2,rfl⟩:=hr
  simp only[AB,Cg,Bool.and_eq_true,Bool.and_true] at hp
  simp only[Rep] at r0 r1
  obtain⟨base,cap,rfl,_,hc,_⟩:=r0
  have hc:=hc trivial
  simp only[List.length_nil] at hc
  subst hc
  subst r1
  have r2':Rep σ (.sl 6 false [u] d) v2:=by
   simp only[Rep] at r2⊢
   obtain⟨b2,c2,h1,h2,h3,h4,h5⟩:=r2
   exact⟨b2,c2,h1,h2,fun e=>(by cases e),h4,h5⟩
  have pu:AB u=true:=by
   simp only[Rep] at r2
   obtain⟨_,_,_,_,_,h4,_⟩:=r2
   exact h4 u (by simp)
  have o:=aW (rows:=[]) (u:=u) (d:=d) (i:=0) (Nat.le_refl _) (by decide) (by simp) σ [.int .i64 0,v2] [] base σ.w.heap.size 0 0 gl hlt (by
   simp only[RepL];exact⟨_,_,rfl,by simp only[Rep];rfl,_,_,rfl,r2',rfl⟩) (by simp[RepL]) (by simp) (by simp) (Nat.le_refl _) (.inr ⟨rfl,Nat.le_refl _⟩)
  refine o.mono ?_
  rintro e w' ⟨b',o',cap',vals',rfl,q1,q2,q3,q4,q5,q6,q7⟩
  have hk:∀x,x<σ.w.heap.size→w'.heap[x]? =σ.w.heap[x]? :=fun x hx=>q2.heap x hx (by omega)
  refine⟨_,rfl,fun x ob hx=> ?_,q2.io, ?_, ?_⟩
  ·rw[hk x (Array.getElem?_eq_some_iff.1 hx).1];exact hx
  ·simp[Cg]
  ·have hf:∀b,Fz σ b→Fz (σ.at w') b:=fun b hb=>⟨hb.1,hb.2.1,Nat.lt_of_lt_of_le hb.2.2 q2.sz⟩
   have q8:=RepL.ofPure (σ':=σ.at w') hf (fun b hb=>hk b hb.2.2) _ vals' (by simpa using pu) q6
   simp only[Rep]
   refine⟨_,cap',rfl,q1,fun e=>(by cases e),fun r hr=> ?_,.inr ⟨b',o',rfl,⟨fun hM=> ?_,fun hO=> ?_,q4⟩,D9 q8 q7 q5 fun r hr=> ?_⟩⟩
   ·simp only[List.take_nil,List.drop_nil,List.nil_append,List.append_nil,List.mem_singleton] at hr;rw[hr];exact pu
   ·have:=hlt b' (.inl hM);omega
   ·have:=hlt b' (.inr hO);omega
   ·simp only[List.take_nil,List.drop_nil,List.nil_append,List.append_nil,List.mem_singleton] at hr;rw[hr];exact hu
 ·cases h
def Fo (N:Nat) (f58:List (Int×Int×Int×(List (Int×Int))×Int×Int)):Nat→Int→(List (Int×Int×Int×(List (Int×Int))×Int×Int))→Option ((List (Int×Int×Int×(List (Int×Int))×Int×Int)))
 |0,_,_=>none
 |n+1,x81,l82=>
  bif decide (x81<(f58.length:Int)) then(
   (nth l82 x81).bind fun(x83,x84,x85,x86,x87,x88)=>
   (BF N x86).bind fun cq=>
   gd (I64 (x81+1))<|
   Fo N f58 n (x81+1) (l82.set x81.toNat (x83,x84,x85,cq,x87,x88)))
  else(
   some l82)
def EM (N:Nat) (f58:List (Int×Int×Int×(List (Int×Int))×Int×Int)) (af:Int) (aj:Int) (ai:Int) (ak:List (Int×Int)) (ah:Int) (u64:Int):Option ((List (Int×Int×Int×(List (Int×Int))×Int×Int))×Int):=
 (AT N f58).bind fun cu=>
 gd ((!(!cu))=true→((BA N af aj ai ak ah u64).isSome=true))<|
 bif ((!cu)||(!((BA N af aj ai ak ah u64).getD false)))||(decide ((f58.length:Int)=12)) then(
  some ([],120))
 else(
  (AG N f58 af).bind fun(r67,cr)=>
  gd ((!cr)=true→((Bt N f58 af aj ai ak ah u64).isSome=true))<|
  bif cr||((Bt N f58 af aj ai ak ah u64).getD false) then(
   some ([],120))
  else(
   gd ((f58.length)*64≤140737488355328)<|
   (Fo N f58 N 0 f58).bind fun l96=>
   (BF N ak).bind fun bh=>
   gd (0≤r67∧r67≤(l96.length:Int))<|
   gd ((l96.length+1)*64≤140737488355328)<|
   some (l96.take r67.toNat++[(af,aj,ai,bh,ah,u64)]++l96.drop r67.toNat,0)))
@[go_sem] def s21 (N:Nat):Spec:=p0<|pG<|pD Ak fun f58=>pE<|pG<|pI fun af=>pI fun aj=>pI fun ai=>pD Ap fun ak=>pI fun ah=>pI fun u64=>pE<|pE<|pF (EM N f58 af aj ai ak ah u64) ([],0) fun r=> .tup [.agg [Af r.1],.i r.2]
theorem UG (N:Nat):FOK Tryz.prog 21 (s21 N):=by
 refine Al x21.ok<|AW<|CQ fun f58=>Ah<|AW<|Ac fun af=>Ac fun aj=>Ac fun ai=>CQ fun ak=>Ac fun ah=>Ac fun u64=>Ah<|Ah<|An fun r h=>wx x21 (Aa Aba<|Aa (G5 N)<|Aa (JQ N)<|Aa (MA N)<|Aa (V5 N)<|Aa (Y8 N)<|Aj) fun _ hS F=> ?_
 dsimp only[x21,mkX,Ap,Ak]
 unfold EM at h
 obtain⟨cu,dl,d7,h⟩:=un h
 replace F:=fc dl F
 refine gcb hS F h (fun _ h=> ?_) (fun _ h=> ?_)
 ·exact Ad hS F h
 ·obtain⟨⟨r67,cr⟩,dh,h⟩:=un h
  obtain⟨d6,h⟩:=un h
  replace F:=fc dh F
  refine gcb hS F h (fun _ h=> ?_) (fun _ h=> ?_)
  ·exact Ad hS F h
  ·refine go hS F ?_
   refine Df hS 1 x77.hf x77.hc x77.hn x77.ok rfl (ev F) (ev F) ?_ rfl (ev F) (Nat.le_of_ble_eq_true rfl) fun hb=> ?_
   ·exact goc hS F
   dsimp only[x77,mkX]
   refine go hS F ?_
   refine Df hS 2 x118.hf x118.hc x118.hn x118.ok rfl (ev F) (ev F) ?_ rfl (ev F) (Nat.le_of_ble_eq_true rfl) fun hb=> ?_
   ·exact goc hS F
   dsimp only[x118,mkX]
   by_cases d5:f58=[]
   ·subst d5
    obtain⟨fb,h⟩:=un h
    obtain⟨cy,br,h⟩:=un h
    obtain rfl:cy=[]:=by
     cases N with
     |zero=>cases br
     |succ n=>rw[Fo] at br;exact(yJ br).symm
    obtain⟨bh,bg,de,ez,h⟩:=un h
    obtain rfl:r67=0:=by simp only[List.length_nil] at de;omega
    replace F:=fc bg F
    refine rK 0 (by show(0:Nat)<8;omega) (ev F) (fun k=> ?_) (fun b k=> ?_)
    ·refine gct hS F ?_
     refine go hS F ?_
     refine E4 30 ?_
     refine gcf hS F ?_
     exact Ad hS F h
    ·refine gcf hS F ?_
     refine XY 0 (.sl 6 false [] [.i 0,.i 0,.i 0,.sl 0 true [] [],.i 0,.i 0]) (by show(0:Nat)<8;omega) (ev F) (fun _=>rL) ?_
     refine go hS F ?_
     refine E4 30 ?_
     refine gcf hS F ?_
     refine go hS F ?_
     refine S9 (Ctx.fn_ok hS) 5 qN rfl (ev F) ?_ (ev F) (ev F) (by simp) (ev F) (ev F) (ev F) (by simp only[go_sem,seval,F]<;>simp) Nl (cR (l:=[]) (i:=0) (u:=(af,aj,ai,bh,ah,u64)) (by omega) (by simp) (by simp)) (ev F) ?_ ?_
     ·exact goc hS F
     ·exact goc hS F
     exact Ad hS F h
   refine gcf hS F ?_
   obtain⟨fb,h⟩:=un h
   obtain⟨cy,br,h⟩:=un h
   refine go hS F ?_
   refine Au cy (fun z:(List (Int×Int×Int×(List (Int×Int))×Int×Int))×Nat=>⟨[(2,.box (1,6) 0),(3,.box (104,11) 0)],[(.c (1,1) 0,.i af),(.c (1,1) 1,.i aj),(.c (1,1) 2,.i ai),(.c (1,1) 3,A1 ak),(.c (1,1) 4,.i ah),(.c (1,1) 5,.i u64),(.c (0,1) 0,Af f58),(.c (2,1) 0,.sl 0 true [] []),(.c (104,11) 0,.own (300,10) z.1.length),(.a (300,10),BK z.1),(.c (1,6) 0,.sl 0 true [] [])],z.2⟩) (fun z=>(z.1:(List (Int×Int×Int×(List (Int×Int))×Int×Int)))) (.x 0) ?_ ?_
   ·refine Aq (fun n (y:Int×(List (Int×Int×Int×(List (Int×Int))×Int×Int))×Nat)=>Fo N f58 n y.1 y.2.1) (fun y=>⟨[(2,.box (1,6) 0),(3,.box (104,11) 0),(11,.i (f58.length:Int)),(12,.i y.1)],[(.c (1,1) 0,.i af),(.c (1,1) 1,.i aj),(.c (1,1) 2,.i ai),(.c (1,1) 3,A1 ak),(.c (1,1) 4,.i ah),(.c (1,1) 5,.i u64),(.c (0,1) 0,Af f58),(.c (2,1) 0,.sl 0 true [] []),(.c (104,11) 0,.own (300,10) y.2.1.length),(.a (300,10),BK y.2.1),(.c (1,6) 0,.sl 0 true [] [])],y.2.2⟩) (0,f58,12) br (leF F) ?_
    rintro n ⟨x81,l82,d9⟩ am
    simp only[Fo] at am
    refine gcb hS F am (fun _ am=> ?_) (fun _ am=> ?_)
    ·obtain⟨⟨x83,x84,x85,x86,x87,x88⟩,dt,am⟩:=un am
     obtain⟨fg,F⟩:=rqG Ai dt F
     obtain⟨cq,dg,e9,am⟩:=un am
     exact gbk hS (fc dg F) (n,x81+1,l82.set x81.toNat (x83,x84,x85,cq,x87,x88),d9+1+1+1+1) am
    ·exact gck hS F (l82,d9+1) am
   ·rintro⟨l96,gi⟩ rfl
    obtain⟨bh,bg,de,ez,h⟩:=un h
    replace F:=fc bg F
    refine go hS F ?_
    refine S9 (Ctx.fn_ok hS) 5 qN rfl (ev F) ?_ (ev F) (ev F) (by simp) (ev F) (ev F) (ev F) (by simp only[go_sem,seval,F]<;>simp) Nl (cR (l:=l96) (i:=r67) (u:=(af,aj,ai,bh,ah,u64)) (by omega) (by omega) (by omega)) (ev F) ?_ ?_
    ·exact goc hS F
    ·exact goc hS F
    exact Ad hS F h
def Es (N:Nat) (f100:List (Int×Int×Int×(List (Int×Int))×Int×Int)):Nat→Int→(List (Int×Int×Int×(List (Int×Int))×Int×Int))→Option ((List (Int×Int×Int×(List (Int×Int))×Int×Int)))
 |0,_,_=>none
 |n+1,x118,l119=>
  bif decide (x118<(f100.length:Int)) then(
   (nth l119 x118).bind fun(bb,x121,x122,x123,x124,Ut)=>
   (BF N x123).bind fun be=>
   gd (I64 (x118+1))<|
   Es N f100 n (x118+1) (l119.set x118.toNat (bb,x121,x122,be,x124,Ut)))
  else(
   some l119)
def Cn (N:Nat) (f100:List (Int×Int×Int×(List (Int×Int))×Int×Int)) (ae:Int):Option ((List (Int×Int×Int×(List (Int×Int))×Int×Int))×Int):=
 (AT N f100).bind fun bj=>
 bif !bj then(
  some ([],120))
 else(
  (AG N f100 ae).bind fun(r104,bi)=>
  bif !bi then(
   some ([],120))
  else(
   gd (f100≠[])<|
   gd ((f100.length)*64≤140737488355328)<|
   (Es N f100 N 0 f100).bind fun l133=>
   gd (I64 (r104+1))<|
   gd (0≤r104∧r104<(l133.length:Int))<|
   gd ((l133.length:Int)≤9223372036854775807)<|
   some (l133.take r104.toNat++l133.drop (r104.toNat+1),0)))
@[go_sem] def s24 (N:Nat):Spec:=p0<|pG<|pD Ak fun f100=>pE<|pI fun ae=>pE<|pF (Cn N f100 ae) ([],0) fun r=> .tup [.agg [Af r.1],.i r.2]
theorem UH (N:Nat):FOK Tryz.prog 24 (s24 N):=by
 refine Al x24.ok<|AW<|CQ fun f100=>Ah<|Ac fun ae=>Ah<|An fun r h=>wx x24 (Aa (G5 N)<|Aa (MA N)<|Aa (Y8 N)<|Aj) fun _ hS F=> ?_
 dsimp only[x24,mkX,Ak]
 unfold Cn at h
 obtain⟨bj,bp,h⟩:=un h
 replace F:=fc bp F
 refine gcb hS F h (fun _ h=> ?_) (fun _ h=> ?_)
 ·exact Ad hS F h
 ·obtain⟨⟨r104,bi⟩,bo,h⟩:=un h
  replace F:=fc bo F
  refine gcb hS F h (fun _ h=> ?_) (fun _ h=> ?_)
  ·exact Ad hS F h
  ·refine go hS F ?_
   refine Df hS 1 x77.hf x77.hc x77.hn x77.ok rfl (ev F) (ev F) ?_ rfl (ev F) (Nat.le_of_ble_eq_true rfl) fun hb=> ?_
   ·exact goc hS F
   dsimp only[x77,mkX]
   refine go hS F ?_
   refine Df hS 2 x118.hf x118.hc x118.hn x118.ok rfl (ev F) (ev F) ?_ rfl (ev F) (Nat.le_of_ble_eq_true rfl) fun hb=> ?_
   ·exact goc hS F
   dsimp only[x118,mkX]
   obtain⟨d7,h⟩:=un h
   refine gcf hS F ?_
   obtain⟨d6,h⟩:=un h
   obtain⟨db,fj,h⟩:=un h
   refine go hS F ?_
   refine Au db (fun z:(List (Int×Int×Int×(List (Int×Int))×Int×Int))×Nat=>⟨[(2,.box (1,6) 0),(3,.box (104,11) 0)],[(.c (0,1) 0,Af f100),(.c (1,1) 0,.sl 0 true [] []),(.c (104,11) 0,.own (300,10) z.1.length),(.a (300,10),BK z.1),(.c (1,6) 0,.sl 0 true [] [])],z.2⟩) (fun z=>(z.1:(List (Int×Int×Int×(List (Int×Int))×Int×Int)))) (.x 0) ?_ ?_
   ·refine Aq (fun n (y:Int×(List (Int×Int×Int×(List (Int×Int))×Int×Int))×Nat)=>Es N f100 n y.1 y.2.1) (fun y=>⟨[(2,.box (1,6) 0),(3,.box (104,11) 0),(11,.i (f100.length:Int)),(12,.i y.1)],[(.c (0,1) 0,Af f100),(.c (1,1) 0,.sl 0 true [] []),(.c (104,11) 0,.own (300,10) y.2.1.length),(.a (300,10),BK y.2.1),(.c (1,6) 0,.sl 0 true [] [])],y.2.2⟩) (0,f100,12) fj (leF F) ?_
    rintro n ⟨x118,l119,bu⟩ an
    simp only[Es] at an
    refine gcb hS F an (fun _ an=> ?_) (fun _ an=> ?_)
    ·obtain⟨⟨bb,x121,x122,x123,x124,Ut⟩,bq,an⟩:=un an
     obtain⟨d8,F⟩:=rqG Ai bq F
     obtain⟨be,bm,gh,an⟩:=un an
     exact gbk hS (fc bm F) (n,x118+1,l119.set x118.toNat (bb,x121,x122,be,x124,Ut),bu+1+1+1+1) an
    ·exact gck hS F (l119,bu+1) an
   ·rintro⟨l133,gc⟩ rfl
    obtain⟨gf,e9,de,h⟩:=un h
    refine go hS F ?_
    refine S9 (Ctx.fn_ok hS) 5 qO rfl (ev F) ?_ (ev F) (ev F) (by simp) (ev F) (ev F) (ev F) (by simp only[go_sem,seval,F]<;>simp) Nl (cS (l:=l133) (i:=r104) (by omega) (by omega) (by omega)) (ev F) ?_ ?_
    ·exact goc hS F
    ·exact goc hS F
    exact Ad hS F h
end Go.Proofs.YtciphecegkfaiaaGreat.Am
namespace Go.Proofs.YtciphecegkfaiaaGreat.Am
open Go
attribute [local irreducible] awp B5 BR Bx B3 Bw Bn BS B1 itK
set_option maxRecDepth 100000
set_option maxHeartbeats 8000000
set_option linter.unusedSimpArgs false
set_option linter.unusedVariables false
attribute [local go_sem] LZ LZ
def Ik (N:Nat) (s1:List UInt8):Option ((List UInt8)×Int):=
 bif decide (65536<(s1.length:Int)) then(
  some ([],10))
 else(
  gd (((EZ (s1.length:Int))++s1).length≤140737488355328)<|
  some ((EZ (s1.length:Int))++s1,0))
@[go_sem] def s96 (N:Nat):Spec:=p0<|pT fun s1=>pE<|pF (Ik N s1) ([],0) fun r=> .tup [.v (.string (sB r.1)),.i r.2]
theorem lZ (N:Nat):FOK Tryz.prog 96 (s96 N):=by
 refine Al x96.ok<|JK fun s1=>Ah<|An fun r h=>wx x96 (Aa NX<|Aj) fun _ hS F=> ?_
 dsimp only[x96,mkX,CZ]
 unfold Ik at h
 refine gcb hS F h (fun _ h=> ?_) (fun _ h=> ?_)
 ·exact Ad hS F h
 ·obtain⟨cy,h⟩:=un h
  exact Ad hS F h
def JD (N:Nat) (s2:List UInt8) (aq:Int):Option ((List UInt8)×Int×Int):=
 (DT N s2 aq).bind fun(r4,r5,r6)=>
 bif decide (r6≠0) then(
  some ([],0,r6))
 else(
  gd ((!((decide (r4<0))||(decide (65536<r4))))=true→(I64 ((s2.length:Int)-r5)))<|
  bif ((decide (r4<0))||(decide (65536<r4)))||(decide ((s2.length:Int)-r5<r4)) then(
   some ([],0,10))
  else(
   gd (I64 (r5+r4))<|
   gd (0≤r5∧r5≤r5+r4∧r5+r4≤(s2.length:Int))<|
   gd (I64 (r5+r4))<|
   some ((s2.drop r5.toNat).take ((r5+r4).toNat-r5.toNat),r5+r4,0)))
@[go_sem] def s68 (N:Nat):Spec:=p0<|pT fun s2=>pI fun aq=>pE<|pF (JD N s2 aq) ([],0,0) fun r=> .tup [.v (.string (sB r.1)),.i r.2.1,.i r.2.2]
theorem mA (N:Nat):FOK Tryz.prog 68 (s68 N):=by
 refine Al x68.ok<|JK fun s2=>Ac fun aq=>Ah<|An fun r h=>wx x68 (Aa (Uw N)<|Aj) fun _ hS F=> ?_
 dsimp only[x68,mkX,CZ]
 unfold JD at h
 obtain⟨⟨r4,r5,r6⟩,db,h⟩:=un h
 replace F:=fc db F
 refine gcb hS F h (fun _ h=> ?_) (fun _ h=> ?_)
 ·exact Ad hS F h
 ·obtain⟨cy,h⟩:=un h
  refine gcb hS F h (fun _ h=> ?_) (fun _ h=> ?_)
  ·exact Ad hS F h
  ·obtain⟨dl,co,ce,h⟩:=un h
   exact Ad hS F h
def Gd (N:Nat) (f8:List (Int×Int×Int×(List (Int×Int))×Int×Int)):Nat→(List UInt8)→Int→Option ((List UInt8))
 |0,_,_=>none
 |n+1,ae,x27=>
  bif decide (x27<(f8.length:Int)) then(
   (nth f8 x27).bind fun(x28,x29,x30,x31,x32,x33)=>
   (DS N x28 x29 x30 x31 x32 x33).bind fun(b9,r36)=>
   (Ik N b9).bind fun(an,cr)=>
   gd ((ae++an).length≤140737488355328)<|
   gd (I64 (x27+1))<|
   Gd N f8 n (ae++an) (x27+1))
  else(
   some ae)
def Ge (N:Nat) (f8:List (Int×Int×Int×(List (Int×Int))×Int×Int)):Option ((List UInt8)×Int):=
 (AT N f8).bind fun r9=>
 bif !r9 then(
  some ([],120))
 else(
  (Gd N f8 N (EZ (f8.length:Int)) 0).bind fun am=>
  some (am,0))
@[go_sem] def s42 (N:Nat):Spec:=p0<|pG<|pD Ak fun f8=>pE<|pE<|pF (Ge N f8) ([],0) fun r=> .tup [.v (.string (sB r.1)),.i r.2]
theorem Y9 (N:Nat):FOK Tryz.prog 42 (s42 N):=by
 refine Al x42.ok<|AW<|CQ fun f8=>Ah<|Ah<|An fun r h=>wx x42 (Aa (G5 N)<|Aa NX<|Aa (mY N)<|Aa (lZ N)<|Aj) fun _ hS F=> ?_
 dsimp only[x42,mkX,Ak,CZ]
 unfold Ge at h
 obtain⟨r9,cz,h⟩:=un h
 replace F:=fc cz F
 refine gcb hS F h (fun _ h=> ?_) (fun _ h=> ?_)
 ·exact Ad hS F h
 ·obtain⟨cu,br,h⟩:=un h
  refine go hS F ?_
  refine Au cu (fun z:(List UInt8)×Nat=>⟨[(4,.v (.string (sB z.1)))],[],z.2⟩) (fun z=>(z.1:(List UInt8))) (.x 0) ?_ ?_
  ·refine Aq (fun n (y:(List UInt8)×Int×Nat)=>Gd N f8 n y.1 y.2.1) (fun y=>⟨[(4,.v (.string (sB y.1))),(23,Af f8),(24,.i (f8.length:Int)),(25,.i y.2.1)],[],y.2.2⟩) (EZ (f8.length:Int),0,4) br (leF F) ?_
   rintro n ⟨ae,x27,cq⟩ aa
   simp only[Gd] at aa
   refine gcb hS F aa (fun _ aa=> ?_) (fun _ aa=> ?_)
   ·obtain⟨⟨x28,x29,x30,x31,x32,x33⟩,bq,aa⟩:=un aa
    obtain⟨de,F⟩:=rqG Ai bq F
    obtain⟨⟨b9,r36⟩,bp,aa⟩:=un aa
    obtain⟨⟨an,cr⟩,bo,aa⟩:=un aa
    obtain⟨co,ce,aa⟩:=un aa
    exact gbk hS (fc bo (fc bp F)) (n,ae++an,x27+1,cq+1+1+1+1+1+1) aa
   ·exact gck hS F (ae,cq+1) aa
  ·rintro⟨am,dm⟩ rfl
   exact Ad hS F h
def Gf (N:Nat) (ak:Int) (af:Int) (s47:List UInt8):Nat→Int→Int→(List (Int×Int×Int×(List (Int×Int))×Int×Int))→Option (Int×Bool×(List (Int×Int×Int×(List (Int×Int))×Int×Int)))
 |0,_,_,_=>none
 |n+1,ai,i83,l84=>
  bif (!(((decide (ak≠0))||(decide (af<0)))||(decide (12<af))))&&(decide (i83<af)) then(
   (JD N s47 ai).bind fun(bz,be,bw)=>
   (CK N bz).bind fun((bb,az,ay,aw,av,au),bv)=>
   bif (decide (bw≠0))||(decide (bv≠0)) then(
    some (ai,true,l84))
   else(
    gd ((l84.length+1)*64≤140737488355328)<|
    gd (I64 (i83+1))<|
    Gf N ak af s47 n be (i83+1) (l84++[(bb,az,ay,aw,av,au)])))
  else(
   some (ai,((decide (ak≠0))||(decide (af<0)))||(decide (12<af)),l84))
def Fp (N:Nat) (s47:List UInt8):Option ((List (Int×Int×Int×(List (Int×Int))×Int×Int))×Int):=
 (DT N s47 0).bind fun(af,bg,ak)=>
 (Gf N ak af s47 N bg 0 []).bind fun(aj,ah,l104)=>
 gd ((!(ah||(decide (aj≠(s47.length:Int)))))=true→((AT N l104).isSome=true))<|
 bif (ah||(decide (aj≠(s47.length:Int))))||(!((AT N l104).getD false)) then(
  some ([],120))
 else(
  some (l104,0))
@[go_sem] def s18 (N:Nat):Spec:=p0<|pT fun s47=>pE<|pF (Fp N s47) ([],0) fun r=> .tup [.agg [Af r.1],.i r.2]
theorem Za (N:Nat):FOK Tryz.prog 18 (s18 N):=by
 refine Al x18.ok<|JK fun s47=>Ah<|An fun r h=>wx x18 (Aa (Uw N)<|Aa (mA N)<|Aa (mZ N)<|Aa (G5 N)<|Aj) fun _ hS F=> ?_
 dsimp only[x18,mkX]
 unfold Fp at h
 obtain⟨⟨af,bg,ak⟩,bm,h⟩:=un h
 replace F:=fc bm F
 refine go hS F ?_
 refine DR 1000001 (0,1) 0 6 [.i 0,.i 0,.i 0,.sl 0 true [] [],.i 0,.i 0] (by omega) (ev F) ?_
 obtain⟨bh,br,h⟩:=un h
 refine go hS F ?_
 refine Au bh (fun z:Int×Bool×(List (Int×Int×Int×(List (Int×Int))×Int×Int))×Nat=>⟨[(0,.v (.string (sB s47))),(2,.box (0,1) 0),(5,.i z.1),(6,.b z.2.1)],[(.c (0,1) 0,.own (1000001,5) z.2.2.1.length),(.a (1000001,5),BK z.2.2.1)],z.2.2.2⟩) (fun z=>((z.1,z.2.1,z.2.2.1):Int×Bool×(List (Int×Int×Int×(List (Int×Int))×Int×Int)))) (.x 0) ?_ ?_
 ·refine Aq (fun n (y:Int×Int×(List (Int×Int×Int×(List (Int×Int))×Int×Int))×Nat)=>Gf N ak af s47 n y.1 y.2.1 y.2.2.1) (fun y=>⟨[(0,.v (.string (sB s47))),(2,.box (0,1) 0),(4,.i af),(5,.i y.1),(6,.b (((decide (ak≠0))||(decide (af<0)))||(decide (12<af)))),(7,.i y.2.1)],[(.c (0,1) 0,.own (1000001,5) y.2.2.1.length),(.a (1000001,5),BK y.2.2.1)],y.2.2.2⟩) (bg,0,[],5) br (leF F) ?_
  rintro n ⟨ai,i83,l84,bu⟩ aa
  simp only[Gf] at aa
  refine gcb hS F aa (fun _ aa=> ?_) (fun _ aa=> ?_)
  ·obtain⟨⟨bz,be,bw⟩,bj,aa⟩:=un aa
   obtain⟨⟨⟨bb,az,ay,aw,av,au⟩,bv⟩,bi,aa⟩:=un aa
   replace F:=fc bi (fc bj F)
   refine gcb hS F aa (fun _ aa=> ?_) (fun _ aa=> ?_)
   ·exact gck hS F (ai,true,l84,bu+1+1+1+1+1) aa
   ·obtain⟨co,ce,aa⟩:=un aa
    exact gbk hS F (n,be,i83+1,l84++[(bb,az,ay,aw,av,au)],bu+1+1+1+1+1+1) aa
  ·exact gck hS F (ai,((decide (ak≠0))||(decide (af<0)))||(decide (12<af)),l84,bu+1) aa
 ·rintro⟨aj,ah,l104,dg⟩ rfl
  obtain⟨dh,h⟩:=un h
  refine gcb hS F h (fun _ h=> ?_) (fun _ h=> ?_)
  ·exact Ad hS F h
  ·exact Ad hS F h
end Go.Proofs.YtciphecegkfaiaaGreat.Am
