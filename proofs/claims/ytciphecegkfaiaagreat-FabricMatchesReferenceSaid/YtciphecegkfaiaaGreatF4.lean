import Derived.Test.YtciphecegkfaiaaGreatF2
import Derived.Test.YtciphecegkfaiaaGreatA25
import Derived.Test.YtciphecegkfaiaaGreatP9
set_option linter.unusedSimpArgs false
set_option linter.unusedVariables false
namespace Go.Proofs.YtciphecegkfaiaaGreat.Am
open Go
section
attribute [local irreducible] As Cn B6 BK CA BJ Bv Cl Cv Dx
set_option maxRecDepth 100000
set_option maxHeartbeats 8000000
def BR(N:Nat)(s1:List (Int×Int)):Option (List (Int×Int)):=gd (s1≠[])<|gd ((s1.length)*16<=140737488355328)<|some s1
@[go_sem] def s78(N:Nat):Spec:=p0<|pS AF λs1=>pE<|pF (BR N s1) [] λr=>A3 r
theorem oO(N:Nat):AZ Tryz.prog 78 (s78 N):=by
 refine Ax x78.ok<|Bf λs1=>Ai<|Ay λr h=>wx x78 (An) λ_ hS F=>?_
 dsimp only[x78,Al,AF];unfold BR at h;obtain⟨d8,h⟩:=un h;refine Kg hS F ?_;obtain⟨d7,h⟩:=un h;exact Af hS F h
def H9(N:Nat)(v2:Int)(v3:Int)(v4:Int)(v5:List (Int×Int))(v6:Int)(v7:Int)(x8:Int)(x9:Int)(bX:Int)(x11:List (Int×Int))(x12:Int)(x13:Int):Option Bool:=(Ei N x8 x9 bX x11 x12 x13 v2 v3 v4 v5 v6 v7).bind λd5=>some d5
@[go_sem] def s76(N:Nat):Spec:=p0<|pG<|pI λv2=>pI λv3=>pI λv4=>pS AF λv5=>pI λv6=>pI λv7=>pE<|pO<|pI λx8=>pI λx9=>pI λbX=>pR AF λx11=>pI λx12=>pI λx13=>pE<|pE<|pF (H9 N v2 v3 v4 v5 v6 v7 x8 x9 bX x11 x12 x13) false λr=>.b r
theorem Aby(N:Nat):AZ Tryz.prog 76 (s76 N):=by
 refine Ax x76.ok<|A2<|Ad λv2=>Ad λv3=>Ad λv4=>Bf λv5=>Ad λv6=>Ad λv7=>Ai<|LF<|Ad λx8=>Ad λx9=>Ad λbX=>Y2 λx11=>Ad λx12=>Ad λx13=>Ai<|Ai<|Ay λr h=>wx x76 (Ac (oG N)<|An) λ_ hS F=>?_
 dsimp only[x76,Al,AF];unfold H9 at h;obtain⟨d5,dq,h⟩:=un h;exact Af hS (fc dq F) h
def A5(N:Nat)(s16:List (Int×Int×Int×(List (Int×Int))×Int×Int))(az:Int)(ay:Int)(aw:Int)(av:List (Int×Int))(au:Int)(aq:Int):Nat->Int->Option (Sum Unit Int)|0,_=>none|n+1,x34=>bif decide (x34<(s16.length:Int))then((AA s16 x34).bind λ(x35,x36,x37,x38,x39,x40)=>(H9 N x35 x36 x37 x38 x39 x40 az ay aw av au aq).bind λdz=>bif dz then(some (.inr x34))else(gd (Ab (x34+1))<|A5 N s16 az ay aw av au aq n (x34+1)))else(some (.inl ()))
def C0(N:Nat)(s16:List (Int×Int×Int×(List (Int×Int))×Int×Int))(az:Int)(ay:Int)(aw:Int)(av:List (Int×Int))(au:Int)(aq:Int):Option Int:=(A5 N s16 az ay aw av au aq N 0).bind λcz=>match cz with|.inl ()=>(some (-1))|.inr r47=>(some r47)
@[go_sem] def lA(N:Nat):Spec:=p0<|pD Ar λs16=>pL 76<|pO<|pI λaz=>pI λay=>pI λaw=>pR AF λav=>pI λau=>pI λaq=>pE<|pE<|pE<|pF (C0 N s16 az ay aw av au aq) 0 λr=>.i r
theorem Zw(N:Nat):AZ Tryz.prog 117 (lA N):=by
 refine Ax x117.ok<|Dj λs16=>LG<|LF<|Ad λaz=>Ad λay=>Ad λaw=>Y2 λav=>Ad λau=>Ad λaq=>Ai<|Ai<|Ai<|Ay λr h=>wx x117 (Ac (Aby N)<|An) λ_ hS F=>?_
 dsimp only[x117,Al,AF,Ar];unfold C0 at h;obtain⟨cz,fq,h⟩:=un h;refine go hS F ?_;refine AM cz (λz:Nat=>⟨[],[],z⟩) (λz=>(.inl ():Sum Unit Int)) (.x 0) ?_ ?_
 ·refine AH (λn (y:Int×Nat)=>A5 N s16 az ay aw av au aq n y.1) (λy=>⟨[(0,Aj s16),(1,.clo (.func 76) [] [.ro [.i az,.i ay,.i aw,A3 av,.i au,.i aq] 0]),(7,.i (s16.length:Int)),(8,.i y.1)],[],y.2⟩) (0,2) fq (Bn F) ?_;rintro n ⟨x34,ez⟩ aa;simp only[A5]at aa;refine Ap hS F aa (λ_ aa=>?_) (λ_ aa=>?_)
  ·obtain⟨⟨x35,x36,x37,x38,x39,x40⟩,du,aa⟩:=un aa;obtain⟨fo,F⟩:=Bt Ak du F;obtain⟨dz,dp,aa⟩:=un aa;replace F:=fc dp F;refine Ap hS F aa (λ_ aa=>?_) (λ_ aa=>?_)
   ·obtain rfl:=yJ aa;exact Af hS F h
   ·obtain⟨d6,aa⟩:=un aa;exact Bk hS F (n,x34+1,ez+1+1+1+1) aa
  ·exact A9 hS F (ez+1) aa
 ·rintro gj rfl;exact Af hS F h
def Bx(N:Nat)(XT:List (Int×Int×Int×(List (Int×Int))×Int×Int))(co:Int)(ce:Int)(b9:Int)(bz:List (Int×Int))(bw:Int)(bv:Int):Option Bool:=(C0 N XT co ce b9 bz bw bv).bind λdw=>some (decide (0<=dw))
@[go_sem] def tD(N:Nat):Spec:=p0<|pD Ar λXT=>pL 76<|pO<|pI λco=>pI λce=>pI λb9=>pR AF λbz=>pI λbw=>pI λbv=>pE<|pE<|pE<|pF (Bx N XT co ce b9 bz bw bv) false λr=>.b r
theorem cS(N:Nat):AZ Tryz.prog 75 (tD N):=by
 refine Ax x75.ok<|Dj λXT=>LG<|LF<|Ad λco=>Ad λce=>Ad λb9=>Y2 λbz=>Ad λbw=>Ad λbv=>Ai<|Ai<|Ai<|Ay λr h=>wx x75 (Ac (Zw N)<|An) λ_ hS F=>?_
 dsimp only[x75,Al,AF,Ar];unfold Bx at h;obtain⟨dw,dm,h⟩:=un h;exact Af hS (fc dm F) h
def Zx:Spec|[.sl 0 true [] [],.v (.int .i64 n),.sl 6 _ [u] d]=>some (n=0/\u.length=6,.sl 6 false [u] d)|_=>none
@[go_sem] theorem Adp(n:Int)(f:Bool)(u d:List AV):Zx [.sl 0 true [] [],.v (.int .i64 n),.sl 6 f [u] d]=some (n=0/\u.length=6,.sl 6 false [u] d):=rfl
theorem tE:AZ Tryz.prog 79 Zx:=by
 refine⟨nC,λargs vc r h hv=>?_⟩;unfold Zx at h;split at h
 ·rename_i n f u d;simp only[yE,Wt]at h;obtain⟨rfl,rfl⟩:=h;obtain⟨rfl,hu⟩:=hv;intro U vs gl hlt hp hr;simp only[RepL]at hr;obtain⟨v0,_,rfl,r0,v1,_,rfl,r1,v2,_,rfl,r2,rfl⟩:=hr;simp only[AS,Cw,lP,Wk]at hp;simp only[Rep]at r0 r1;obtain⟨base,cap,rfl,_,hc,_⟩:=r0;have hc:=hc trivial;simp only[CP]at hc;subst hc;subst r1;have r2':Rep U (.sl 6 false [u] d) v2:=by simp only[Rep]at r2⊢;obtain⟨b2,c2,h1,h2,h3,h4,h5⟩:=r2;exact⟨b2,c2,h1,h2,λe=>(by cases e),h4,h5⟩
  have pu:AS u=true:=by simp only[Rep]at r2;obtain⟨_,_,_,_,_,h4,_⟩:=r2;exact h4 u (by simp)
  have o:=XY (rows:=[]) (u:=u) (d:=d) (i:=0) (fA _) (by decide) (by simp) U [.int .i64 0,v2] [] base U.w.heap.size 0 0 gl hlt (by simp only[RepL];exact⟨_,_,rfl,by simp only[Rep];rfl,_,_,rfl,r2',rfl⟩) (by simp[RepL]) (by simp) (by simp) (fA _) (.inr ⟨rfl,fA _⟩);refine o.mono ?_;rintro e w' ⟨b',o',cap',vals',rfl,q1,q2,q3,q4,q5,q6,q7⟩;have hk:∀x,x<U.w.heap.size->w'.heap[x]? =U.w.heap[x]? :=λx hx=>q2.heap x hx (by omega)
  refine⟨_,rfl,λx ob hx=>?_,q2.io,?_,?_⟩
  ·rw[hk x (eY.1 hx).1];exact hx
  ·simp[Cw]
  ·have hf:∀b,Fz U b->Fz (U.at w') b:=λb hb=>⟨hb.1,hb.2.1,u9 hb.2.2 q2.sz⟩
   have q8:=RepL.ofPure (σ':=U.at w') hf (λb hb=>hk b hb.2.2) _ vals' (by simpa using pu) q6;simp only[Rep];refine⟨_,cap',rfl,q1,λe=>(by cases e),λr hr=>?_,.inr ⟨b',o',rfl,⟨λhM=>?_,λhO=>?_,q4⟩,Et q8 q7 q5 λr hr=>?_⟩⟩
   ·simp only[List.take_nil,List.drop_nil,nJ,qF,y9]at hr;rw[hr];exact pu
   ·have:=hlt b' (.inl hM);omega
   ·have:=hlt b' (.inr hO);omega
   ·simp only[List.take_nil,List.drop_nil,nJ,qF,y9]at hr;rw[hr];exact hu
 ·cases h
def FG(N:Nat)(f58:List (Int×Int×Int×(List (Int×Int))×Int×Int)):Nat->Int->(List (Int×Int×Int×(List (Int×Int))×Int×Int))->Option ((List (Int×Int×Int×(List (Int×Int))×Int×Int)))|0,_,_=>none|n+1,x81,l82=>bif decide (x81<(f58.length:Int))then((AA l82 x81).bind λ(x83,x84,x85,x86,x87,VD)=>(BR N x86).bind λcq=>gd (Ab (x81+1))<|FG N f58 n (x81+1) (l82.set x81.toNat (x83,x84,x85,cq,x87,VD)))else(some l82)
def Gk(N:Nat)(f58:List (Int×Int×Int×(List (Int×Int))×Int×Int))(af:Int)(aj:Int)(ai:Int)(ak:List (Int×Int))(ah:Int)(u64:Int):Option ((List (Int×Int×Int×(List (Int×Int))×Int×Int))×Int):=(Br N f58).bind λcu=>gd ((!(!cu))=true->((BN N af aj ai ak ah u64).isSome=true))<|bif ((!cu)||(!((BN N af aj ai ak ah u64).getD false)))||(decide ((f58.length:Int)=12))then(some ([],120))else((AW N f58 af).bind λ(r67,cr)=>gd ((!cr)=true->((Bx N f58 af aj ai ak ah u64).isSome=true))<|bif cr||((Bx N f58 af aj ai ak ah u64).getD false)then(some ([],120))else(gd ((f58.length)*64<=140737488355328)<|(FG N f58 N 0 f58).bind λl96=>(BR N ak).bind λbh=>gd (0<=r67/\r67<=(l96.length:Int))<|gd ((l96.length+1)*64<=140737488355328)<|some (l96.take r67.toNat++[(af,aj,ai,bh,ah,u64)]++l96.drop r67.toNat,0)))
@[go_sem] def s21(N:Nat):Spec:=p0<|pG<|pD Ar λf58=>pE<|pG<|pI λaf=>pI λaj=>pI λai=>pD AF λak=>pI λah=>pI λu64=>pE<|pE<|pF (Gk N f58 af aj ai ak ah u64) ([],0) λr=>.tup [.agg [Aj r.1],.i r.2]
theorem Zy(N:Nat):AZ Tryz.prog 21 (s21 N):=by
 refine Ax x21.ok<|A2<|Dj λf58=>Ai<|A2<|Ad λaf=>Ad λaj=>Ad λai=>Dj λak=>Ad λah=>Ad λu64=>Ai<|Ai<|Ay λr h=>wx x21 (Ac tE<|Ac (JI N)<|Ac (MV N)<|Ac (Pn N)<|Ac (cS N)<|Ac (oO N)<|An) λ_ hS F=>?_
 dsimp only[x21,Al,AF,Ar];unfold Gk at h;obtain⟨cu,dl,d8,h⟩:=un h;replace F:=fc dl F;refine Ap hS F h (λ_ h=>?_) (λ_ h=>?_)
 ·exact Af hS F h
 ·obtain⟨⟨r67,cr⟩,dh,h⟩:=un h;obtain⟨d7,h⟩:=un h;replace F:=fc dh F;refine Ap hS F h (λ_ h=>?_) (λ_ h=>?_)
  ·exact Af hS F h
  ·refine go hS F ?_;refine DO hS 1 x77.hf x77.hc x77.hn x77.ok rfl (ev F) (ev F) ?_ rfl (ev F) (mO rfl) λhb=>?_
   ·exact Hk hS F
   dsimp only[x77,Al];refine go hS F ?_;refine DO hS 2 x118.hf x118.hc x118.hn x118.ok rfl (ev F) (ev F) ?_ rfl (ev F) (mO rfl) λhb=>?_
   ·exact Hk hS F
   dsimp only[x118,Al];by_cases d6:f58=[]
   ·subst d6;obtain⟨fh,h⟩:=un h;obtain⟨cy,br,h⟩:=un h;obtain rfl:cy=[]:=by
     cases N with
     |zero=>cases br
     |succ n=>rw[FG]at br;exact(yJ br).symm
    obtain⟨bh,bg,de,fb,h⟩:=un h;obtain rfl:r67=0:=by simp only[CP]at de;omega
    replace F:=fc bg F;refine rZ 0 (by show(0:Nat)<8;omega) (ev F) (λk=>?_) (λb k=>?_)
    ·refine TB hS F ?_;refine go hS F ?_;refine Fg 30 ?_;refine Kg hS F ?_;exact Af hS F h
    ·refine Kg hS F ?_;refine Vq 0 (.sl 6 false [] [.i 0,.i 0,.i 0,.sl 0 true [] [],.i 0,.i 0]) (by show(0:Nat)<8;omega) (ev F) (λ_=>sC) ?_;refine go hS F ?_;refine Fg 30 ?_;refine Kg hS F ?_;refine go hS F ?_;refine SQ (Ctx.fn_ok hS) 5 nC rfl (ev F) ?_ (ev F) (ev F) (by simp) (ev F) (ev F) (ev F) (by simp only[go_sem,seval,F]<;>simp) NJ (YG (l:=[]) (i:=0) (u:=(af,aj,ai,bh,ah,u64)) (by omega) (by simp) (by simp)) (ev F) ?_ ?_
     ·exact Hk hS F
     ·exact Hk hS F
     exact Af hS F h
   refine Kg hS F ?_;obtain⟨fh,h⟩:=un h;obtain⟨cy,br,h⟩:=un h;refine go hS F ?_;refine AM cy (λz:(List (Int×Int×Int×(List (Int×Int))×Int×Int))×Nat=>⟨[(2,.box (1,6) 0),(3,.box (104,11) 0)],[(.c (1,1) 0,.i af),(.c (1,1) 1,.i aj),(.c (1,1) 2,.i ai),(.c (1,1) 3,A3 ak),(.c (1,1) 4,.i ah),(.c (1,1) 5,.i u64),(.c (0,1) 0,Aj f58),(.c (2,1) 0,.sl 0 true [] []),(.c (104,11) 0,.own (300,10) z.1.length),(.a (300,10),Bl z.1),(.c (1,6) 0,.sl 0 true [] [])],z.2⟩) (λz=>(z.1:(List (Int×Int×Int×(List (Int×Int))×Int×Int)))) (.x 0) ?_ ?_
   ·refine AH (λn (y:Int×(List (Int×Int×Int×(List (Int×Int))×Int×Int))×Nat)=>FG N f58 n y.1 y.2.1) (λy=>⟨[(2,.box (1,6) 0),(3,.box (104,11) 0),(11,.i (f58.length:Int)),(12,.i y.1)],[(.c (1,1) 0,.i af),(.c (1,1) 1,.i aj),(.c (1,1) 2,.i ai),(.c (1,1) 3,A3 ak),(.c (1,1) 4,.i ah),(.c (1,1) 5,.i u64),(.c (0,1) 0,Aj f58),(.c (2,1) 0,.sl 0 true [] []),(.c (104,11) 0,.own (300,10) y.2.1.length),(.a (300,10),Bl y.2.1),(.c (1,6) 0,.sl 0 true [] [])],y.2.2⟩) (0,f58,12) br (Bn F) ?_;rintro n ⟨x81,l82,eh⟩ am;simp only[FG]at am;refine Ap hS F am (λ_ am=>?_) (λ_ am=>?_)
    ·obtain⟨⟨x83,x84,x85,x86,x87,VD⟩,dt,am⟩:=un am;obtain⟨fj,F⟩:=Bt Ak dt F;obtain⟨cq,dg,fg,am⟩:=un am;exact Bk hS (fc dg F) (n,x81+1,l82.set x81.toNat (x83,x84,x85,cq,x87,VD),eh+1+1+1+1) am
    ·exact A9 hS F (l82,eh+1) am
   ·rintro⟨l96,gi⟩ rfl;obtain⟨bh,bg,de,fb,h⟩:=un h;replace F:=fc bg F;refine go hS F ?_;refine SQ (Ctx.fn_ok hS) 5 nC rfl (ev F) ?_ (ev F) (ev F) (by simp) (ev F) (ev F) (ev F) (by simp only[go_sem,seval,F]<;>simp) NJ (YG (l:=l96) (i:=r67) (u:=(af,aj,ai,bh,ah,u64)) (by omega) (by omega) (by omega)) (ev F) ?_ ?_
    ·exact Hk hS F
    ·exact Hk hS F
    exact Af hS F h
def Fp(N:Nat)(f100:List (Int×Int×Int×(List (Int×Int))×Int×Int)):Nat->Int->(List (Int×Int×Int×(List (Int×Int))×Int×Int))->Option ((List (Int×Int×Int×(List (Int×Int))×Int×Int)))|0,_,_=>none|n+1,x118,l119=>bif decide (x118<(f100.length:Int))then((AA l119 x118).bind λ(bb,x121,x122,x123,x124,Zi)=>(BR N x123).bind λbe=>gd (Ab (x118+1))<|Fp N f100 n (x118+1) (l119.set x118.toNat (bb,x121,x122,be,x124,Zi)))else(some l119)
def Ex(N:Nat)(f100:List (Int×Int×Int×(List (Int×Int))×Int×Int))(ae:Int):Option ((List (Int×Int×Int×(List (Int×Int))×Int×Int))×Int):=(Br N f100).bind λbj=>bif !bj then(some ([],120))else((AW N f100 ae).bind λ(r104,bi)=>bif !bi then(some ([],120))else(gd (f100≠[])<|gd ((f100.length)*64<=140737488355328)<|(Fp N f100 N 0 f100).bind λl133=>gd (Ab (r104+1))<|gd (0<=r104/\r104<(l133.length:Int))<|gd ((l133.length:Int)<=9223372036854775807)<|some (l133.take r104.toNat++l133.drop (r104.toNat+1),0)))
@[go_sem] def s24(N:Nat):Spec:=p0<|pG<|pD Ar λf100=>pE<|pI λae=>pE<|pF (Ex N f100 ae) ([],0) λr=>.tup [.agg [Aj r.1],.i r.2]
theorem Zz(N:Nat):AZ Tryz.prog 24 (s24 N):=by
 refine Ax x24.ok<|A2<|Dj λf100=>Ai<|Ad λae=>Ai<|Ay λr h=>wx x24 (Ac (JI N)<|Ac (Pn N)<|Ac (oO N)<|An) λ_ hS F=>?_
 dsimp only[x24,Al,Ar];unfold Ex at h;obtain⟨bj,bp,h⟩:=un h;replace F:=fc bp F;refine Ap hS F h (λ_ h=>?_) (λ_ h=>?_)
 ·exact Af hS F h
 ·obtain⟨⟨r104,bi⟩,bo,h⟩:=un h;replace F:=fc bo F;refine Ap hS F h (λ_ h=>?_) (λ_ h=>?_)
  ·exact Af hS F h
  ·refine go hS F ?_;refine DO hS 1 x77.hf x77.hc x77.hn x77.ok rfl (ev F) (ev F) ?_ rfl (ev F) (mO rfl) λhb=>?_
   ·exact Hk hS F
   dsimp only[x77,Al];refine go hS F ?_;refine DO hS 2 x118.hf x118.hc x118.hn x118.ok rfl (ev F) (ev F) ?_ rfl (ev F) (mO rfl) λhb=>?_
   ·exact Hk hS F
   dsimp only[x118,Al];obtain⟨d8,h⟩:=un h;refine Kg hS F ?_;obtain⟨d7,h⟩:=un h;obtain⟨db,fp,h⟩:=un h;refine go hS F ?_;refine AM db (λz:(List (Int×Int×Int×(List (Int×Int))×Int×Int))×Nat=>⟨[(2,.box (1,6) 0),(3,.box (104,11) 0)],[(.c (0,1) 0,Aj f100),(.c (1,1) 0,.sl 0 true [] []),(.c (104,11) 0,.own (300,10) z.1.length),(.a (300,10),Bl z.1),(.c (1,6) 0,.sl 0 true [] [])],z.2⟩) (λz=>(z.1:(List (Int×Int×Int×(List (Int×Int))×Int×Int)))) (.x 0) ?_ ?_
   ·refine AH (λn (y:Int×(List (Int×Int×Int×(List (Int×Int))×Int×Int))×Nat)=>Fp N f100 n y.1 y.2.1) (λy=>⟨[(2,.box (1,6) 0),(3,.box (104,11) 0),(11,.i (f100.length:Int)),(12,.i y.1)],[(.c (0,1) 0,Aj f100),(.c (1,1) 0,.sl 0 true [] []),(.c (104,11) 0,.own (300,10) y.2.1.length),(.a (300,10),Bl y.2.1),(.c (1,6) 0,.sl 0 true [] [])],y.2.2⟩) (0,f100,12) fp (Bn F) ?_;rintro n ⟨x118,l119,bu⟩ an;simp only[Fp]at an;refine Ap hS F an (λ_ an=>?_) (λ_ an=>?_)
    ·obtain⟨⟨bb,x121,x122,x123,x124,Zi⟩,bq,an⟩:=un an;obtain⟨d9,F⟩:=Bt Ak bq F;obtain⟨be,bm,gh,an⟩:=un an;exact Bk hS (fc bm F) (n,x118+1,l119.set x118.toNat (bb,x121,x122,be,x124,Zi),bu+1+1+1+1) an
    ·exact A9 hS F (l119,bu+1) an
   ·rintro⟨l133,gc⟩ rfl;obtain⟨gf,fg,de,h⟩:=un h;refine go hS F ?_;refine SQ (Ctx.fn_ok hS) 5 AdJ rfl (ev F) ?_ (ev F) (ev F) (by simp) (ev F) (ev F) (ev F) (by simp only[go_sem,seval,F]<;>simp) NJ (vE (l:=l133) (i:=r104) (by omega) (by omega) (by omega)) (ev F) ?_ ?_
    ·exact Hk hS F
    ·exact Hk hS F
    exact Af hS F h
end
attribute [local irreducible] As Cn B6 BK CA BJ Bv Cl Cv Dx
set_option maxRecDepth 100000
set_option maxHeartbeats 8000000
attribute [local go_sem] Qn Qn
def It(N:Nat)(s1:List UInt8):Option ((List UInt8)×Int):=bif decide (65536<(s1.length:Int))then(some ([],10))else(gd (((EV (s1.length:Int))++s1).length<=140737488355328)<|some ((EV (s1.length:Int))++s1,0))
@[go_sem] def s96(N:Nat):Spec:=p0<|pT λs1=>pE<|pF (It N s1) ([],0) λr=>.tup [.v (.string (sB r.1)),.i r.2]
theorem Abz(N:Nat):AZ Tryz.prog 96 (s96 N):=by
 refine Ax x96.ok<|LH λs1=>Ai<|Ay λr h=>wx x96 (Ac Rb<|An) λ_ hS F=>?_
 dsimp only[x96,Al,DE];unfold It at h;refine Ap hS F h (λ_ h=>?_) (λ_ h=>?_)
 ·exact Af hS F h
 ·obtain⟨cz,h⟩:=un h;exact Af hS F h
def Hq(N:Nat)(s2:List UInt8)(aq:Int):Option ((List UInt8)×Int×Int):=(EP N s2 aq).bind λ(r4,r5,r6)=>bif decide (r6≠0)then(some ([],0,r6))else(gd ((!((decide (r4<0))||(decide (65536<r4))))=true->(Ab ((s2.length:Int)-r5)))<|bif ((decide (r4<0))||(decide (65536<r4)))||(decide ((s2.length:Int)-r5<r4))then(some ([],0,10))else(gd (Ab (r5+r4))<|gd (0<=r5/\r5<=r5+r4/\r5+r4<=(s2.length:Int))<|gd (Ab (r5+r4))<|some ((s2.drop r5.toNat).take ((r5+r4).toNat-r5.toNat),r5+r4,0)))
@[go_sem] def s68(N:Nat):Spec:=p0<|pT λs2=>pI λaq=>pE<|pF (Hq N s2 aq) ([],0,0) λr=>.tup [.v (.string (sB r.1)),.i r.2.1,.i r.2.2]
theorem AbA(N:Nat):AZ Tryz.prog 68 (s68 N):=by
 refine Ax x68.ok<|LH λs2=>Ad λaq=>Ai<|Ay λr h=>wx x68 (Ac (Zo N)<|An) λ_ hS F=>?_
 dsimp only[x68,Al,DE];unfold Hq at h;obtain⟨⟨r4,r5,r6⟩,de,h⟩:=un h;replace F:=fc de F;refine Ap hS F h (λ_ h=>?_) (λ_ h=>?_)
 ·exact Af hS F h
 ·obtain⟨cz,h⟩:=un h;refine Ap hS F h (λ_ h=>?_) (λ_ h=>?_)
  ·exact Af hS F h
  ·obtain⟨dm,co,ce,h⟩:=un h;exact Af hS F h
def Fq(N:Nat)(f8:List (Int×Int×Int×(List (Int×Int))×Int×Int)):Nat->(List UInt8)->Int->Option ((List UInt8))|0,_,_=>none|n+1,ae,x27=>bif decide (x27<(f8.length:Int))then((AA f8 x27).bind λ(xV,x29,x30,x31,x32,x33)=>(EO N xV x29 x30 x31 x32 x33).bind λ(b9,cu)=>(It N b9).bind λ(an,cr)=>gd ((ae++an).length<=140737488355328)<|gd (Ab (x27+1))<|Fq N f8 n (ae++an) (x27+1))else(some ae)
def Gt(N:Nat)(f8:List (Int×Int×Int×(List (Int×Int))×Int×Int)):Option ((List UInt8)×Int):=(Br N f8).bind λr9=>bif !r9 then(some ([],120))else((Fq N f8 N (EV (f8.length:Int)) 0).bind λam=>some (am,0))
@[go_sem] def s42(N:Nat):Spec:=p0<|pG<|pD Ar λf8=>pE<|pE<|pF (Gt N f8) ([],0) λr=>.tup [.v (.string (sB r.1)),.i r.2]
theorem oP(N:Nat):AZ Tryz.prog 42 (s42 N):=by
 refine Ax x42.ok<|A2<|Dj λf8=>Ai<|Ai<|Ay λr h=>wx x42 (Ac (JI N)<|Ac Rb<|Ac (Ab6 N)<|Ac (Abz N)<|An) λ_ hS F=>?_
 dsimp only[x42,Al,Ar,DE];unfold Gt at h;obtain⟨r9,db,h⟩:=un h;replace F:=fc db F;refine Ap hS F h (λ_ h=>?_) (λ_ h=>?_)
 ·exact Af hS F h
 ·obtain⟨cy,br,h⟩:=un h;refine go hS F ?_;refine AM cy (λz:(List UInt8)×Nat=>⟨[(4,.v (.string (sB z.1)))],[],z.2⟩) (λz=>(z.1:(List UInt8))) (.x 0) ?_ ?_
  ·refine AH (λn (y:(List UInt8)×Int×Nat)=>Fq N f8 n y.1 y.2.1) (λy=>⟨[(4,.v (.string (sB y.1))),(23,Aj f8),(24,.i (f8.length:Int)),(25,.i y.2.1)],[],y.2.2⟩) (EV (f8.length:Int),0,4) br (Bn F) ?_;rintro n ⟨ae,x27,cq⟩ aa;simp only[Fq]at aa;refine Ap hS F aa (λ_ aa=>?_) (λ_ aa=>?_)
   ·obtain⟨⟨xV,x29,x30,x31,x32,x33⟩,bq,aa⟩:=un aa;obtain⟨dg,F⟩:=Bt Ak bq F;obtain⟨⟨b9,cu⟩,bp,aa⟩:=un aa;obtain⟨⟨an,cr⟩,bo,aa⟩:=un aa;obtain⟨co,ce,aa⟩:=un aa;exact Bk hS (fc bo (fc bp F)) (n,ae++an,x27+1,cq+1+1+1+1+1+1) aa
   ·exact A9 hS F (ae,cq+1) aa
  ·rintro⟨am,dp⟩ rfl;exact Af hS F h
def C5(N:Nat)(ak:Int)(af:Int)(s47:List UInt8):Nat->Int->Int->(List (Int×Int×Int×(List (Int×Int))×Int×Int))->Option (Int×Bool×(List (Int×Int×Int×(List (Int×Int))×Int×Int)))|0,_,_,_=>none|n+1,ai,i83,l84=>bif (!(((decide (ak≠0))||(decide (af<0)))||(decide (12<af))))&&(decide (i83<af))then((Hq N s47 ai).bind λ(bz,be,bw)=>(Da N bz).bind λ((bb,az,ay,aw,av,au),bv)=>bif (decide (bw≠0))||(decide (bv≠0))then(some (ai,true,l84))else(gd ((l84.length+1)*64<=140737488355328)<|gd (Ab (i83+1))<|C5 N ak af s47 n be (i83+1) (l84++[(bb,az,ay,aw,av,au)])))else(some (ai,((decide (ak≠0))||(decide (af<0)))||(decide (12<af)),l84))
def FH(N:Nat)(s47:List UInt8):Option ((List (Int×Int×Int×(List (Int×Int))×Int×Int))×Int):=(EP N s47 0).bind λ(af,bg,ak)=>(C5 N ak af s47 N bg 0 []).bind λ(aj,ah,l104)=>gd ((!(ah||(decide (aj≠(s47.length:Int)))))=true->((Br N l104).isSome=true))<|bif (ah||(decide (aj≠(s47.length:Int))))||(!((Br N l104).getD false))then(some ([],120))else(some (l104,0))
@[go_sem] def s18(N:Nat):Spec:=p0<|pT λs47=>pE<|pF (FH N s47) ([],0) λr=>.tup [.agg [Aj r.1],.i r.2]
theorem oQ(N:Nat):AZ Tryz.prog 18 (s18 N):=by
 refine Ax x18.ok<|LH λs47=>Ai<|Ay λr h=>wx x18 (Ac (Zo N)<|Ac (AbA N)<|Ac (Ab7 N)<|Ac (JI N)<|An) λ_ hS F=>?_
 dsimp only[x18,Al];unfold FH at h;obtain⟨⟨af,bg,ak⟩,bm,h⟩:=un h;replace F:=fc bm F;refine go hS F ?_;refine Dy 1000001 (0,1) 0 6 [.i 0,.i 0,.i 0,.sl 0 true [] [],.i 0,.i 0] (by omega) (ev F) ?_;obtain⟨bh,br,h⟩:=un h;refine go hS F ?_;refine AM bh (λz:Int×Bool×(List (Int×Int×Int×(List (Int×Int))×Int×Int))×Nat=>⟨[(0,.v (.string (sB s47))),(2,.box (0,1) 0),(5,.i z.1),(6,.b z.2.1)],[(.c (0,1) 0,.own (1000001,5) z.2.2.1.length),(.a (1000001,5),Bl z.2.2.1)],z.2.2.2⟩) (λz=>((z.1,z.2.1,z.2.2.1):Int×Bool×(List (Int×Int×Int×(List (Int×Int))×Int×Int)))) (.x 0) ?_ ?_
 ·refine AH (λn (y:Int×Int×(List (Int×Int×Int×(List (Int×Int))×Int×Int))×Nat)=>C5 N ak af s47 n y.1 y.2.1 y.2.2.1) (λy=>⟨[(0,.v (.string (sB s47))),(2,.box (0,1) 0),(4,.i af),(5,.i y.1),(6,.b (((decide (ak≠0))||(decide (af<0)))||(decide (12<af)))),(7,.i y.2.1)],[(.c (0,1) 0,.own (1000001,5) y.2.2.1.length),(.a (1000001,5),Bl y.2.2.1)],y.2.2.2⟩) (bg,0,[],5) br (Bn F) ?_;rintro n ⟨ai,i83,l84,bu⟩ aa;simp only[C5]at aa;refine Ap hS F aa (λ_ aa=>?_) (λ_ aa=>?_)
  ·obtain⟨⟨bz,be,bw⟩,bj,aa⟩:=un aa;obtain⟨⟨⟨bb,az,ay,aw,av,au⟩,bv⟩,bi,aa⟩:=un aa;replace F:=fc bi (fc bj F);refine Ap hS F aa (λ_ aa=>?_) (λ_ aa=>?_)
   ·exact A9 hS F (ai,true,l84,bu+1+1+1+1+1) aa
   ·obtain⟨co,ce,aa⟩:=un aa;exact Bk hS F (n,be,i83+1,l84++[(bb,az,ay,aw,av,au)],bu+1+1+1+1+1+1) aa
  ·exact A9 hS F (ai,((decide (ak≠0))||(decide (af<0)))||(decide (12<af)),l84,bu+1) aa
 ·rintro⟨aj,ah,l104,dh⟩ rfl;obtain⟨dl,h⟩:=un h;refine Ap hS F h (λ_ h=>?_) (λ_ h=>?_)
  ·exact Af hS F h
  ·exact Af hS F h
