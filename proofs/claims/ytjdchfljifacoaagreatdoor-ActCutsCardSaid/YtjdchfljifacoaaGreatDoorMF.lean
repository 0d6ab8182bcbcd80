import Derived.Test.YtjdchfljifacoaaGreatDoorW2
set_option linter.all false
set_option maxRecDepth 100000
set_option maxHeartbeats 8000000
namespace Go.Proofs.YtjdchfljifacoaaGreatDoor.Am
section
open Go
attribute [local irreducible] Aq BD Bv A8 Bq Ba AQ Bw By Ck
def Jy(N:Nat)(iz:Int)(iy:Int)(iw:Int)(iv:List (Int×Int))(iq:Int)(ip:Int)(im:Int)(ij:Int)(ii:Int)(ig:Int)(ic:Int)(ib:Int)(g9:Int)(g8:Bool):Option ((List UInt8)×Int):=(Eu N iz iy iw iv iq ip im ij ii ig ic ib g9 g8).bind λjb=>bif !jb then(some ([],170))else((Ec N [1]).bind λay=>(KX N 1 iz iy iw iv iq ip im ij ii ig ic ib g9 g8).bind λaw=>gd ((ay++aw).length<=140737488355328)<|some (ay++aw,0))
@[go_sem] def xN(N:Nat):Spec:=p0<|(qG<|qC 1<|qI<|qI<|qI<|qS Aj<|qI<|qI<|qI<|qI<|qI<|qI<|qI<|qI<|qI<|qB<|qE<|qE<|qF ([],0) λr=>.tup [.v (.string (sB r.1)),.i r.2]) (Jy N)
theorem fW(N:Nat):Au Tryz.prog 17 (xN N):=by
 refine fk (wX x17 (Bl (Aa (LB N)<|Aa (IK N)<|Aa (yW N)<|Ae) Dt (Cq N) Du Dv)) ?_;intro iz iy iw iv iq ip im ij ii ig ic ib g9 g8 r h _ hS F;dsimp only[x17,Ad,Aj,B3];unfold Jy at h;obtain⟨jb,jx,h⟩:=un h;replace F:=fc jx F;refine An hS F h (λ_ h=>?_) (λ_ h=>?_)
 ·exact Ah hS F h
 ·obtain⟨ay,jw,aw,jv,aa,h⟩:=un h;exact Ah hS (fc jv (fc jw F)) h
def Jz(N:Nat)(gz:Int)(gy:Int)(gx:Int)(gw:List (Int×Int))(gu:Int)(gt:Int)(gr:Int)(gm:Int)(gj:Int)(gi:Int)(gh:Int)(gg:Int)(ge:Int)(gc:Bool):Option ((List UInt8)×Int):=(Ew N gz gy gx gw gu gt gr gm gj gi gh gg ge gc).bind λja=>bif !ja then(some ([],170))else((Ec N [2]).bind λav=>(J9 N 2 gz gy gx gw gu gt gr gm gj gi gh gg ge gc).bind λau=>gd ((av++au).length<=140737488355328)<|some (av++au,0))
@[go_sem] def xO(N:Nat):Spec:=p0<|(qG<|qC 2<|qI<|qI<|qI<|qS Aj<|qI<|qI<|qI<|qI<|qI<|qI<|qI<|qI<|qI<|qB<|qE<|qE<|qF ([],0) λr=>.tup [.v (.string (sB r.1)),.i r.2]) (Jz N)
theorem fX(N:Nat):Au Tryz.prog 17 (xO N):=by
 refine fk (wX x17 (Bl (Aa (LC N)<|Aa (IK N)<|Aa (yY N)<|Ae) Dt (Cq N) Du Dv)) ?_;intro gz gy gx gw gu gt gr gm gj gi gh gg ge gc r h _ hS F;dsimp only[x17,Ad,Aj,B3];unfold Jz at h;obtain⟨ja,ju,h⟩:=un h;replace F:=fc ju F;refine An hS F h (λ_ h=>?_) (λ_ h=>?_)
 ·exact Ah hS F h
 ·obtain⟨av,jt,au,js,aa,h⟩:=un h;exact Ah hS (fc js (fc jt F)) h
def JA(N:Nat)(fy:Int)(fx:Int)(fr:Int)(fq:List (Int×Int))(fp:Int)(fo:Int)(fm:Int)(fj:Int)(fh:Int)(fg:Int)(e9:Int)(e8:Int)(ez:Int)(eu:Bool):Option ((List UInt8)×Int):=(Ex N fy fx fr fq fp fo fm fj fh fg e9 e8 ez eu).bind λi9=>bif !i9 then(some ([],170))else((Ec N [3]).bind λaq=>(Ka N 3 fy fx fr fq fp fo fm fj fh fg e9 e8 ez eu).bind λan=>gd ((aq++an).length<=140737488355328)<|some (aq++an,0))
@[go_sem] def xP(N:Nat):Spec:=p0<|(qG<|qC 3<|qI<|qI<|qI<|qS Aj<|qI<|qI<|qI<|qI<|qI<|qI<|qI<|qI<|qI<|qB<|qE<|qE<|qF ([],0) λr=>.tup [.v (.string (sB r.1)),.i r.2]) (JA N)
theorem fY(N:Nat):Au Tryz.prog 17 (xP N):=by
 refine fk (wX x17 (Bl (Aa (LD N)<|Aa (IK N)<|Aa (yZ N)<|Ae) Dt (Cq N) Du Dv)) ?_;intro fy fx fr fq fp fo fm fj fh fg e9 e8 ez eu r h _ hS F;dsimp only[x17,Ad,Aj,B3];unfold JA at h;obtain⟨i9,jr,h⟩:=un h;replace F:=fc jr F;refine An hS F h (λ_ h=>?_) (λ_ h=>?_)
 ·exact Ah hS F h
 ·obtain⟨aq,jq,an,jp,aa,h⟩:=un h;exact Ah hS (fc jp (fc jq F)) h
def JB(N:Nat)(ep:Int)(el:Int)(ej:Int)(eh:List (Int×Int))(ee:Int)(d9:Int)(d8:Int)(d7:Int)(d6:Int)(d5:Int)(dz:Int)(dy:Int)(dx:Int)(dw:Bool):Option ((List UInt8)×Int):=(Ey N ep el ej eh ee d9 d8 d7 d6 d5 dz dy dx dw).bind λi8=>bif !i8 then(some ([],170))else((Ec N [4]).bind λam=>(Kb N 4 ep el ej eh ee d9 d8 d7 d6 d5 dz dy dx dw).bind λak=>gd ((am++ak).length<=140737488355328)<|some (am++ak,0))
@[go_sem] def xQ(N:Nat):Spec:=p0<|(qG<|qC 4<|qI<|qI<|qI<|qS Aj<|qI<|qI<|qI<|qI<|qI<|qI<|qI<|qI<|qI<|qB<|qE<|qE<|qF ([],0) λr=>.tup [.v (.string (sB r.1)),.i r.2]) (JB N)
theorem fZ(N:Nat):Au Tryz.prog 17 (xQ N):=by
 refine fk (wX x17 (Bl (Aa (LE N)<|Aa (IK N)<|Aa (zC N)<|Ae) Dt (Cq N) Du Dv)) ?_;intro ep el ej eh ee d9 d8 d7 d6 d5 dz dy dx dw r h _ hS F;dsimp only[x17,Ad,Aj,B3];unfold JB at h;obtain⟨i8,jo,h⟩:=un h;replace F:=fc jo F;refine An hS F h (λ_ h=>?_) (λ_ h=>?_)
 ·exact Ah hS F h
 ·obtain⟨am,jn,ak,jm,aa,h⟩:=un h;exact Ah hS (fc jm (fc jn F)) h
def JC(N:Nat)(du:Int)(dt:Int)(dq:Int)(dm:List (Int×Int))(dl:Int)(dh:Int)(dg:Int)(de:Int)(db:Int)(da:Int)(cy:Int)(cu:Int)(cr:Int)(cq:Bool):Option ((List UInt8)×Int):=(Ez N du dt dq dm dl dh dg de db da cy cu cr cq).bind λi7=>bif !i7 then(some ([],170))else((Ec N [5]).bind λaj=>(KY N 5 du dt dq dm dl dh dg de db da cy cu cr cq).bind λai=>gd ((aj++ai).length<=140737488355328)<|some (aj++ai,0))
@[go_sem] def xR(N:Nat):Spec:=p0<|(qG<|qC 5<|qI<|qI<|qI<|qS Aj<|qI<|qI<|qI<|qI<|qI<|qI<|qI<|qI<|qI<|qB<|qE<|qE<|qF ([],0) λr=>.tup [.v (.string (sB r.1)),.i r.2]) (JC N)
theorem gA(N:Nat):Au Tryz.prog 17 (xR N):=by
 refine fk (wX x17 (Bl (Aa (LF N)<|Aa (IK N)<|Aa (zD N)<|Ae) Dt (Cq N) Du Dv)) ?_;intro du dt dq dm dl dh dg de db da cy cu cr cq r h _ hS F;dsimp only[x17,Ad,Aj,B3];unfold JC at h;obtain⟨i7,jl,h⟩:=un h;replace F:=fc jl F;refine An hS F h (λ_ h=>?_) (λ_ h=>?_)
 ·exact Ah hS F h
 ·obtain⟨aj,jk,ai,jj,aa,h⟩:=un h;exact Ah hS (fc jj (fc jk F)) h
def JD(N:Nat)(co:Int)(cn:Int)(ck:Int)(cj:List (Int×Int))(ci:Int)(ce:Int)(b9:Int)(b7:Int)(bz:Int)(bw:Int)(bv:Int)(bu:Int)(br:Int)(bq:Bool):Option ((List UInt8)×Int):=(EA N co cn ck cj ci ce b9 b7 bz bw bv bu br bq).bind λi6=>bif !i6 then(some ([],170))else((Ec N [6]).bind λah=>(IL N 6 co cn ck cj ci ce b9 b7 bz bw bv bu br bq).bind λaf=>gd ((ah++af).length<=140737488355328)<|some (ah++af,0))
@[go_sem] def xS(N:Nat):Spec:=p0<|(qG<|qC 6<|qI<|qI<|qI<|qS Aj<|qI<|qI<|qI<|qI<|qI<|qI<|qI<|qI<|qI<|qB<|qE<|qE<|qF ([],0) λr=>.tup [.v (.string (sB r.1)),.i r.2]) (JD N)
theorem gC(N:Nat):Au Tryz.prog 17 (xS N):=by
 refine fk (wX x17 (Bl (Aa (LG N)<|Aa (IK N)<|Aa (aO N)<|Ae) Dt (Cq N) Du Dv)) ?_;intro co cn ck cj ci ce b9 b7 bz bw bv bu br bq r h _ hS F;dsimp only[x17,Ad,Aj,B3];unfold JD at h;obtain⟨i6,ji,h⟩:=un h;replace F:=fc ji F;refine An hS F h (λ_ h=>?_) (λ_ h=>?_)
 ·exact Ah hS F h
 ·obtain⟨ah,jh,af,jg,aa,h⟩:=un h;exact Ah hS (fc jg (fc jh F)) h
def JE(N:Nat)(bp:Int)(bo:Int)(bn:Int)(bm:List (Int×Int))(bl:Int)(bj:Int)(bi:Int)(bh:Int)(bg:Int)(bf:Int)(be:Int)(bb:Int)(ba:Int)(az:Bool):Option ((List UInt8)×Int):=(EB N bp bo bn bm bl bj bi bh bg bf be bb ba az).bind λi5=>bif !i5 then(some ([],170))else((Ec N [7]).bind λae=>(IL N 7 bp bo bn bm bl bj bi bh bg bf be bb ba az).bind λab=>gd ((ae++ab).length<=140737488355328)<|some (ae++ab,0))
@[go_sem] def xT(N:Nat):Spec:=p0<|(qG<|qC 7<|qI<|qI<|qI<|qS Aj<|qI<|qI<|qI<|qI<|qI<|qI<|qI<|qI<|qI<|qB<|qE<|qE<|qF ([],0) λr=>.tup [.v (.string (sB r.1)),.i r.2]) (JE N)
theorem gE(N:Nat):Au Tryz.prog 17 (xT N):=by
 refine fk (wX x17 (Bl (Aa (LH N)<|Aa (IK N)<|Aa (aO N)<|Ae) Dt (Cq N) Du Dv)) ?_;intro bp bo bn bm bl bj bi bh bg bf be bb ba az r h _ hS F;dsimp only[x17,Ad,Aj,B3];unfold JE at h;obtain⟨i5,jf,h⟩:=un h;replace F:=fc jf F;refine An hS F h (λ_ h=>?_) (λ_ h=>?_)
 ·exact Ah hS F h
 ·obtain⟨ae,je,ab,jd,aa,h⟩:=un h;exact Ah hS (fc jd (fc je F)) h
def JF(N:Nat)(kj:Int)(ki:Int)(kh:Int)(kg:Int)(kf:List (Int×Int))(ke:Int)(ka:Int)(j9:Int)(j8:Int)(j7:Int)(j6:Int)(j5:Int)(j4:Int)(jz:Int)(jy:Bool):Option ((List UInt8)×Int):=(EC N kj ki kh kg kf ke ka j9 j8 j7 j6 j5 j4 jz jy).bind λi4=>gd (i4=false)<|some ([],170)
@[go_sem] def xU(N:Nat):Spec:=p0<|(qG<|qI<|qI<|qI<|qI<|qS Aj<|qI<|qI<|qI<|qI<|qI<|qI<|qI<|qI<|qI<|qB<|qE<|qE<|qF ([],0) λr=>.tup [.v (.string (sB r.1)),.i r.2]) (JF N)
theorem gF(N:Nat):Au Tryz.prog 17 (xU N):=by refine fk (wX x17 (Bl (Aa (LI N)<|Ae) Dt (Cq N) Du Dv)) ?_;intro kj ki kh kg kf ke ka j9 j8 j7 j6 j5 j4 jz jy r h _ hS F;dsimp only[x17,Ad,Aj,B3];unfold JF at h;obtain⟨i4,jc,aa,h⟩:=un h;replace F:=fc aa (fc jc F);refine Jg hS F ?_;exact Ah hS F h
end
section
open Go
attribute [local irreducible] Aq BD Bv A8 Bq Ba AQ Bw By Ck
def Mw(N:Nat)(cr:Int)(cq:Int)(co:Int)(cn:Int)(ck:List (Int×Int))(cj:Int)(ci:Int)(ce:Int)(b9:Int)(b7:Int)(bz:Int)(bw:Int)(bv:Int)(bu:Int)(br:Bool):Option ((List Int)×(List Int)):=if cr=1 then J1 N cq co cn ck cj ci ce b9 b7 bz bw bv bu br else if cr=2 then J2 N cq co cn ck cj ci ce b9 b7 bz bw bv bu br else if cr=3 then J3 N cq co cn ck cj ci ce b9 b7 bz bw bv bu br else if cr=4 then J4 N cq co cn ck cj ci ce b9 b7 bz bw bv bu br else if cr=5 then J5 N cq co cn ck cj ci ce b9 b7 bz bw bv bu br else if cr=6 then J6 N cq co cn ck cj ci ce b9 b7 bz bw bv bu br else if cr=7 then J7 N cq co cn ck cj ci ce b9 b7 bz bw bv bu br else J8 N cr cq co cn ck cj ci ce b9 b7 bz bw bv bu br
@[go_sem] def aG(N:Nat):Spec:=p0<|(qG<|qI<|qI<|qI<|qI<|qS Aj<|qI<|qI<|qI<|qI<|qI<|qI<|qI<|qI<|qI<|qB<|qE<|qE<|qF ([],[]) λr=>.tup [Fm r.1,Fm r.2]) (Mw N)
theorem Aa6(N:Nat):Au Tryz.prog 20 (aG N):=by
 refine L6 x20.ok<|L7<|Bd λcr=>Bd λcq=>Bd λco=>Bd λcn=>QF λck=>Bd λcj=>Bd λci=>Bd λce=>Bd λb9=>Bd λb7=>Bd λbz=>Bd λbw=>Bd λbv=>Bd λbu=>O8 λbr=>He<|He<|L8 λr h=>?_
 dsimp only[Aj];unfold Mw at h;split at h
 ·rename_i e;subst e;exact Bg (gH N) (by simp only[go_sem,seval,h]<;>eq_refl) (by simp only[go_sem,seval,h])
 split at h
 ·rename_i e;subst e;exact Bg (gJ N) (by simp only[go_sem,seval,h]<;>eq_refl) (by simp only[go_sem,seval,h])
 split at h
 ·rename_i e;subst e;exact Bg (gN N) (by simp only[go_sem,seval,h]<;>eq_refl) (by simp only[go_sem,seval,h])
 split at h
 ·rename_i e;subst e;exact Bg (gO N) (by simp only[go_sem,seval,h]<;>eq_refl) (by simp only[go_sem,seval,h])
 split at h
 ·rename_i e;subst e;exact Bg (gP N) (by simp only[go_sem,seval,h]<;>eq_refl) (by simp only[go_sem,seval,h])
 split at h
 ·rename_i e;subst e;exact Bg (gQ N) (by simp only[go_sem,seval,h]<;>eq_refl) (by simp only[go_sem,seval,h])
 split at h
 ·rename_i e;subst e;exact Bg (gR N) (by simp only[go_sem,seval,h]<;>eq_refl) (by simp only[go_sem,seval,h])
 exact Bg (gS N) (by simp only[go_sem,seval,h]<;>eq_refl) (by simp only[go_sem,seval,h])
def Li(N:Nat)(Jm:List (Int×Int×Int×(List (Int×Int))×Int×Int))(Jn:List (Int×Int×Int×Int×Bool))(bq:Int)(bp:Int)(bo:Int)(bn:Int)(bm:List (Int×Int))(bl:Int)(bj:Int)(bi:Int)(bh:Int)(bg:Int)(bf:Int)(be:Int)(bb:Int)(ba:Int)(az:Bool):Option ((List (Int×(Int×Int×Int×(List (Int×Int))×Int×Int)×Int×Int×Int×(Int×Int×Int×Int×Bool)))×Bool):=if bq=1 then KP N Jm Jn bp bo bn bm bl bj bi bh bg bf be bb ba az else if bq=2 then KQ N Jm Jn bp bo bn bm bl bj bi bh bg bf be bb ba az else if bq=3 then KR N Jm Jn bp bo bn bm bl bj bi bh bg bf be bb ba az else if bq=4 then KS N Jm Jn bp bo bn bm bl bj bi bh bg bf be bb ba az else if bq=5 then KT N Jm Jn bp bo bn bm bl bj bi bh bg bf be bb ba az else if bq=6 then KU N Jm Jn bp bo bn bm bl bj bi bh bg bf be bb ba az else if bq=7 then KV N Jm Jn bp bo bn bm bl bj bi bh bg bf be bb ba az else KW N Jm Jn bq bp bo bn bm bl bj bi bh bg bf be bb ba az
@[go_sem] def s24(N:Nat):Spec:=p0<|(qG<|qD Ak<|qD Az<|qE<|qG<|qI<|qI<|qI<|qI<|qD Aj<|qI<|qI<|qI<|qI<|qI<|qI<|qI<|qI<|qI<|qB<|qE<|qE<|qF ([],false) λr=>.tup [As r.1,.b r.2]) (Li N)
theorem Aa7(N:Nat):Au Tryz.prog 16 (s24 N):=by
 refine L6 x16.ok<|L7<|Nc λJm=>Nc λJn=>He<|L7<|Bd λbq=>Bd λbp=>Bd λbo=>Bd λbn=>Nc λbm=>Bd λbl=>Bd λbj=>Bd λbi=>Bd λbh=>Bd λbg=>Bd λbf=>Bd λbe=>Bd λbb=>Bd λba=>O8 λaz=>He<|He<|L8 λr h=>?_
 dsimp only[Aj,Az,Ak];unfold Li at h;split at h
 ·rename_i e;subst e;exact Bg (gT N) (by simp only[go_sem,seval,h]<;>eq_refl) (by simp only[go_sem,seval,h])
 split at h
 ·rename_i e;subst e;exact Bg (gU N) (by simp only[go_sem,seval,h]<;>eq_refl) (by simp only[go_sem,seval,h])
 split at h
 ·rename_i e;subst e;exact Bg (gV N) (by simp only[go_sem,seval,h]<;>eq_refl) (by simp only[go_sem,seval,h])
 split at h
 ·rename_i e;subst e;exact Bg (gW N) (by simp only[go_sem,seval,h]<;>eq_refl) (by simp only[go_sem,seval,h])
 split at h
 ·rename_i e;subst e;exact Bg (gX N) (by simp only[go_sem,seval,h]<;>eq_refl) (by simp only[go_sem,seval,h])
 split at h
 ·rename_i e;subst e;exact Bg (gY N) (by simp only[go_sem,seval,h]<;>eq_refl) (by simp only[go_sem,seval,h])
 split at h
 ·rename_i e;subst e;exact Bg (gZ N) (by simp only[go_sem,seval,h]<;>eq_refl) (by simp only[go_sem,seval,h])
 exact Bg (hH N) (by simp only[go_sem,seval,h]<;>eq_refl) (by simp only[go_sem,seval,h])
def LT(N:Nat)(ay:Int)(aw:Int)(av:Int)(au:Int)(aq:List (Int×Int))(an:Int)(am:Int)(ak:Int)(aj:Int)(ai:Int)(ah:Int)(af:Int)(ae:Int)(ab:Int)(aa:Bool):Option ((List UInt8)×Int):=if ay=1 then Jy N aw av au aq an am ak aj ai ah af ae ab aa else if ay=2 then Jz N aw av au aq an am ak aj ai ah af ae ab aa else if ay=3 then JA N aw av au aq an am ak aj ai ah af ae ab aa else if ay=4 then JB N aw av au aq an am ak aj ai ah af ae ab aa else if ay=5 then JC N aw av au aq an am ak aj ai ah af ae ab aa else if ay=6 then JD N aw av au aq an am ak aj ai ah af ae ab aa else if ay=7 then JE N aw av au aq an am ak aj ai ah af ae ab aa else JF N ay aw av au aq an am ak aj ai ah af ae ab aa
@[go_sem] def s29(N:Nat):Spec:=p0<|(qG<|qI<|qI<|qI<|qI<|qS Aj<|qI<|qI<|qI<|qI<|qI<|qI<|qI<|qI<|qI<|qB<|qE<|qE<|qF ([],0) λr=>.tup [.v (.string (sB r.1)),.i r.2]) (LT N)
theorem Aa8(N:Nat):Au Tryz.prog 17 (s29 N):=by
 refine L6 x17.ok<|L7<|Bd λay=>Bd λaw=>Bd λav=>Bd λau=>QF λaq=>Bd λan=>Bd λam=>Bd λak=>Bd λaj=>Bd λai=>Bd λah=>Bd λaf=>Bd λae=>Bd λab=>O8 λaa=>He<|He<|L8 λr h=>?_
 dsimp only[Aj,B3];unfold LT at h;split at h
 ·rename_i e;subst e;exact Bg (fW N) (by simp only[go_sem,seval,h]<;>eq_refl) (by simp only[go_sem,seval,h])
 split at h
 ·rename_i e;subst e;exact Bg (fX N) (by simp only[go_sem,seval,h]<;>eq_refl) (by simp only[go_sem,seval,h])
 split at h
 ·rename_i e;subst e;exact Bg (fY N) (by simp only[go_sem,seval,h]<;>eq_refl) (by simp only[go_sem,seval,h])
 split at h
 ·rename_i e;subst e;exact Bg (fZ N) (by simp only[go_sem,seval,h]<;>eq_refl) (by simp only[go_sem,seval,h])
 split at h
 ·rename_i e;subst e;exact Bg (gA N) (by simp only[go_sem,seval,h]<;>eq_refl) (by simp only[go_sem,seval,h])
 split at h
 ·rename_i e;subst e;exact Bg (gC N) (by simp only[go_sem,seval,h]<;>eq_refl) (by simp only[go_sem,seval,h])
 split at h
 ·rename_i e;subst e;exact Bg (gE N) (by simp only[go_sem,seval,h]<;>eq_refl) (by simp only[go_sem,seval,h])
 exact Bg (gF N) (by simp only[go_sem,seval,h]<;>eq_refl) (by simp only[go_sem,seval,h])
end
section
abbrev Ac:=Int×Un×Int×Int×Int×Mk
inductive FA:Ac->Prop
 |build {u:Un} (h:UV u):FA (1,u,0,0,0,WT)
 |remove {id:Int} (h:0<=id/\id<=99):FA (2,Ri,id,0,0,WT)
 |cut {id i k j:Int} (h:0<=id/\id<=99) (hj:0<=j/\j<=99) (hd:id≠j) (hi:0<=i/\i<=7) (hk:0<=k/\k<=7) (he:i≠k):FA (3,(j,0,0,[],0,0),id,i,k,WT)
 |move {id x y:Int} (h:0<=id/\id<=99) (hx: -40<=x/\x<=40) (hy: -40<=y/\y<=40) (hd:x≠0\/y≠0):FA (4,Ri,id,x,y,WT)
 |mark {m:Mk} (h:PO m=true):FA (5,Ri,0,0,0,m)
 |close {id:Int} (h:0<=id/\id<=99):FA (6,Ri,id,0,0,WT)
 |opn {id:Int} (h:0<=id/\id<=99):FA (7,Ri,id,0,0,WT)
noncomputable instance(a:Ac):Decidable (FA a):=Classical.propDecidable _
section
variable{a b c p q id i k m1 m2 m3 m4:Int}{l:List Pt}{o:Bool}
theorem fa1:FA (1,(a,b,c,l,p,q),id,i,k,(m1,m2,m3,m4,o))↔UV (a,b,c,l,p,q)/\id=0/\i=0/\k=0/\m1=0/\m2=0/\m3=0/\m4=0/\o=false:=by
 constructor
 ·intro h;cases h;grind
 ·rintro⟨h,rfl,rfl,rfl,rfl,rfl,rfl,rfl,rfl⟩;exact .build h
theorem fa2:FA (2,(a,b,c,l,p,q),id,i,k,(m1,m2,m3,m4,o))↔(0<=id/\id<=99)/\a=0/\b=0/\c=0/\l=[]/\p=0/\q=0/\i=0/\k=0/\m1=0/\m2=0/\m3=0/\m4=0/\o=false:=by
 constructor
 ·intro h;cases h;grind
 ·rintro⟨h,rfl,rfl,rfl,rfl,rfl,rfl,rfl,rfl,rfl,rfl,rfl,rfl,rfl⟩;exact .remove h
theorem zE:FA (3,(a,b,c,l,p,q),id,i,k,(m1,m2,m3,m4,o))↔(0<=id/\id<=99)/\(0<=a/\a<=99)/\id≠a/\(0<=i/\i<=7)/\(0<=k/\k<=7)/\i≠k/\b=0/\c=0/\l=[]/\p=0/\q=0/\m1=0/\m2=0/\m3=0/\m4=0/\o=false:=by
 constructor
 ·intro h;cases h;grind
 ·rintro⟨h1,h2,h3,h4,h5,h6,rfl,rfl,rfl,rfl,rfl,rfl,rfl,rfl,rfl,rfl⟩;exact .cut h1 h2 h3 h4 h5 h6
theorem fa4:FA (4,(a,b,c,l,p,q),id,i,k,(m1,m2,m3,m4,o))↔(0<=id/\id<=99)/\(-40<=i/\i<=40)/\(-40<=k/\k<=40)/\(i≠0\/k≠0)/\a=0/\b=0/\c=0/\l=[]/\p=0/\q=0/\m1=0/\m2=0/\m3=0/\m4=0/\o=false:=by
 constructor
 ·intro h;cases h;grind
 ·rintro⟨h1,h2,h3,h4,rfl,rfl,rfl,rfl,rfl,rfl,rfl,rfl,rfl,rfl,rfl⟩;exact .move h1 h2 h3 h4
theorem fa5:FA (5,(a,b,c,l,p,q),id,i,k,(m1,m2,m3,m4,o))↔PO (m1,m2,m3,m4,o)=true/\id=0/\i=0/\k=0/\a=0/\b=0/\c=0/\l=[]/\p=0/\q=0:=by
 constructor
 ·intro h;cases h;grind
 ·rintro⟨h,rfl,rfl,rfl,rfl,rfl,rfl,rfl,rfl,rfl⟩;exact .mark h
theorem fa6:FA (6,(a,b,c,l,p,q),id,i,k,(m1,m2,m3,m4,o))↔(0<=id/\id<=99)/\a=0/\b=0/\c=0/\l=[]/\p=0/\q=0/\i=0/\k=0/\m1=0/\m2=0/\m3=0/\m4=0/\o=false:=by
 constructor
 ·intro h;cases h;grind
 ·rintro⟨h,rfl,rfl,rfl,rfl,rfl,rfl,rfl,rfl,rfl,rfl,rfl,rfl,rfl⟩;exact .close h
theorem fa7:FA (7,(a,b,c,l,p,q),id,i,k,(m1,m2,m3,m4,o))↔(0<=id/\id<=99)/\a=0/\b=0/\c=0/\l=[]/\p=0/\q=0/\i=0/\k=0/\m1=0/\m2=0/\m3=0/\m4=0/\o=false:=by
 constructor
 ·intro h;cases h;grind
 ·rintro⟨h,rfl,rfl,rfl,rfl,rfl,rfl,rfl,rfl,rfl,rfl,rfl,rfl,rfl⟩;exact .opn h
theorem fa0{n:Int}{u:Un}{m:Mk}(h:¬(1<=n/\n<=7)):¬FA (n,u,id,i,k,m):=by intro f;cases f<;>exact h (by decide)
theorem RZ{l:List Pt}:((l.length:Int)=0)↔l=[]:=by rw[<-A45];omega
end
section
variable{N:Nat}(hN:1001<=N)
include hN
variable(a b c p q id i k m1 m2 m3 m4:Int)(l:List Pt)(o:Bool)
theorem Abb:Eu N a b c l p q id i k m1 m2 m3 m4 o=some (decide (FA (1,(a,b,c,l,p,q),id,i,k,(m1,m2,m3,m4,o)))):=by unfold Eu ID;rw[KE (by omega)];simp;congr 1;rw[A49,s7,fa1];simp only[y8,HA];rw[show(IJ a b c p q=true/\vB l=true)↔UV (a,b,c,l,p,q) by rw[<-y8];exact HA];grind
theorem Abc:Ew N a b c l p q id i k m1 m2 m3 m4 o=some (decide (FA (2,(a,b,c,l,p,q),id,i,k,(m1,m2,m3,m4,o)))):=by unfold Ew IE B6;unfold B9 Bs;simp only[bS];rw[BY (by grind),bS];congr 1;rw[A49,s7,fa2];simp only[RZ,HA];grind
theorem Abd:Ex N a b c l p q id i k m1 m2 m3 m4 o=some (decide (FA (3,(a,b,c,l,p,q),id,i,k,(m1,m2,m3,m4,o)))):=by unfold Ex Ih B6;unfold B9 Bs;simp only[bS];rw[BY (by grind),BY (by grind),BY (by grind),BY (by grind),bS];congr 1;rw[A49,s7,zE];simp only[RZ,HA];grind
theorem Abe:Ey N a b c l p q id i k m1 m2 m3 m4 o=some (decide (FA (4,(a,b,c,l,p,q),id,i,k,(m1,m2,m3,m4,o)))):=by unfold Ey Ii B6;unfold B9 Bs;simp only[bS];rw[BY (by grind),BY (by grind),BY (by grind),bS];congr 1;rw[A49,s7,fa4];simp only[RZ,HA];grind
theorem Abf:Ez N a b c l p q id i k m1 m2 m3 m4 o=some (decide (FA (5,(a,b,c,l,p,q),id,i,k,(m1,m2,m3,m4,o)))):=by unfold Ez IG B6;rw[OT];simp only[bS];rw[BY (by grind),bS];congr 1;rw[A49,s7,fa5];simp only[RZ,HA];grind
theorem Abg:EA N a b c l p q id i k m1 m2 m3 m4 o=some (decide (FA (6,(a,b,c,l,p,q),id,i,k,(m1,m2,m3,m4,o)))):=by unfold EA Gg B6;unfold Bs;simp only[bS];rw[BY (by grind),bS];congr 1;rw[A49,s7,fa6];simp only[RZ,HA];grind
theorem Abh:EB N a b c l p q id i k m1 m2 m3 m4 o=some (decide (FA (7,(a,b,c,l,p,q),id,i,k,(m1,m2,m3,m4,o)))):=by unfold EB Gg B6;unfold Bs;simp only[bS];rw[BY (by grind),bS];congr 1;rw[A49,s7,fa7];simp only[RZ,HA];grind
theorem zF{n:Int}(h:¬(1<=n/\n<=7)):EC N n a b c l p q id i k m1 m2 m3 m4 o=some (decide (FA (n,(a,b,c,l,p,q),id,i,k,(m1,m2,m3,m4,o)))):=by unfold EC;rw[Ab (by simp;omega),Ab (by simp;omega),Ab (by simp;omega),Ab (by simp;omega),Ab (by simp;omega),Ab (by simp;omega),Ab (by simp;omega),s6 (fa0 h)]
end
end
theorem ZF{u v:List Pt}(h:u.length=v.length)(hp:∀i,i<u.length->pa u i=pa v i):u=v:=by
 apply List.ext_getElem h;intro i h1 h2;have:=hp i h1
 rwa [Fc h1,Fc h2]at this
theorem Qb{l:List Pt}{i k:Nat}(hik:i<=k)(hk:k<l.length):(l.drop i).take (k+1-i)=CQ l i (k-i):=by apply ZF;all_goals grind[Cr,Ff,Il,Fc]
theorem UD{l:List Pt}{i k:Nat}(hik:k<i)(hi:i<l.length):l.drop i++l.take (k+1)=CQ l i (k+l.length-i):=by
 apply ZF
 ·rw[Cr,w9,A23,A11];omega
 ·intro t ht;rw[w9,A23,A11]at ht;rw[Ff (by omega)];by_cases h:t<l.length-i
  ·rw[MK (by rw[A11];omega),Il (by omega),Fc (by rw[A11];omega),Fc (by omega),List.getElem_drop]
  ·rw[Wv (by rw[A11];omega) (by rw[A11,A23];omega),A11,Fc (by rw[A23];omega),List.getElem_take];have e:i+t=(t-(l.length-i))+l.length:=by omega
   rw[e,H0,Il (by omega),Fc (by omega)]
theorem SC{N:Nat}(hN:100<=N){u v:List Pt}(h:0<u.length)(hu:u.length<=1000)(hv:v.length<=1000):BE N [u,v]=some (u++v):=by
 unfold BE;have s1:∀n,Bb N [u,v] (n+1+1+1) 0 0=some (0+(u.length:Int)+(v.length)):=λn=>by rw[Bb,Ca _ (by rfl),show Bz [u,v] 0=some u from rfl,bS,Ab (by omega),Ab (by grind),Ab (by decide),Bb,Ca _ (by rfl),show Bz [u,v] (0+1)=some v from rfl,bS,Ab (by omega),Ab (by grind),Ab (by decide),Bb,BL _ (by rfl)]
 have s3:∀n,Bc N [u,v] (n+1+1+1) 0 []=some ([]++u++v):=λn=>by rw[Bc,Ca _ (by rfl),show Bz [u,v] 0=some u from rfl,bS,Ab (by simp;omega),Ab (by decide),Bc,Ca _ (by rfl),show Bz [u,v] (0+1)=some v from rfl,bS,Ab (by simp;omega),Ab (by decide),Bc,BL _ (by rfl)]
 obtain⟨n,e⟩:∃n,N=n+1+1+1:=⟨N-3,by omega⟩
 have h1:=s1 n;have h3:=s3 n;rw[<-e]at h1 h3;rw[h1,bS,Ab (by grind),Ab (by omega),Ca _ (by grind),Ab (by decide),Ab (by omega),Ab (by omega),h3,bS,A02]
theorem KA{n i k:Nat}(hik:i<=k)(hk:k<n):CA n i k=k-i:=by unfold CA;rw[Nat.mod_eq_sub_mod (by omega),A13 (by omega)];omega
theorem OD{n i k:Nat}(hik:k<i)(hi:i<n):CA n i k=k+n-i:=by unfold CA;rw[A13 (by omega)]
theorem RM{n i k:Nat}(hi:i<n)(hk:k<n)(h:i≠k):CA n i k+CA n k i=n:=by grind[KA,OD]
theorem nV{N:Nat}(hN:100<=N){l:List Pt}(h:VP l){i k:Nat}(hi:i<l.length)(hk:k<l.length):GI N l i k=some (RK l i k):=by
 unfold GI RK;have l8:=h.l8;have t1:((k:Int)+1).toNat=k+1:=by omega
 have t2:((i:Int)+1).toNat=i+1:=by omega
 rw[G2 hN h,bS,BL _ (by simp;omega),t1,t2,A19,A19,Nat.sub_zero,Nat.sub_zero];have ne:∀j m,CQ l j m≠[]:=by grind[Cr]
 rcases Nat.lt_trichotomy i k with q|q|q
 ·rw[Ca _ (by grind),BL _ (by grind),KA (by omega) hk,OD q hk,Qb (by omega) hk];rw[Ab (by omega),Ab ⟨by omega,by omega,by omega⟩,Ab (ne _ _),Ab (by rw[Cr];omega),Ab ⟨by omega,by omega⟩,Ab (by omega),Ab ⟨by omega,by omega,by omega⟩,SC hN (by rw[A11];omega) (by rw[A11];omega) (by rw[A23];omega),bS,UD q hk,Cr,Cr];grind
 ·subst q;rw[Ca _ (by grind),Ca _ (by grind),KA (by omega) hk,Qb (by omega) hk];rw[Ab (by omega),Ab ⟨by omega,by omega,by omega⟩,Ab (ne _ _),Ab (by rw[Cr];omega),Ab (by omega),Ab ⟨by omega,by omega,by omega⟩,Ab (ne _ _),Ab (by rw[Cr];omega),Cr,t8 (by omega),Ca _ (by grind)]
 ·rw[BL _ (by grind),OD q hi,KA (by omega) hi,Qb (by omega) hi];rw[Ab ⟨by omega,by omega⟩,Ab (by omega),Ab ⟨by omega,by omega,by omega⟩,SC hN (by rw[A11];omega) (by rw[A11];omega) (by rw[A23];omega),bS,Ca _ (by grind),UD q hi,Ab (by omega),Ab ⟨by omega,by omega,by omega⟩,Ab (ne _ _),Ab (by rw[Cr];omega),Cr,Cr];grind
theorem ZG(F:Pt×Pt->Int)(l:List Pt)(i m:Nat):cs F (CQ l i m)=rs (λt=>F (qa l (i+t),qa l (i+(t+1)))) m+F (qa l (i+m),qa l i):=by
 rw[Tb,Cr,JY];have e1:∀t,t<=m->qa (CQ l i m) t=qa l (i+t):=by grind[Il,Cr,Ff]
 have e2:qa (CQ l i m) (m+1)=qa l i:=by have:=H0 (CQ l i m) 0;rw[Cr,A08]at this;rw[this,e1 0 (by omega),A43]
 grind[ND]
theorem UE{F:Pt×Pt->Int}(anti:∀a b,F (a,b)= -F (b,a))(l:List Pt){i k:Nat}(hi:i<l.length)(hk:k<l.length)(h:i≠k):cs F (CQ l i (CA l.length i k))+cs F (CQ l k (CA l.length k i))=cs F l:=by
 have hs:=RM hi hk h;have h1:=Oy hi hk;have h2:=Oy hk hi;have q1:qa l (i+CA l.length i k)=qa l k:=by rw[<-ML,h1]
 have q2:qa l (k+CA l.length k i)=qa l i:=by rw[<-ML,h2]
 rw[ZG,ZG,q1,q2,anti (qa l i) (qa l k),Tb];have r:=wO (f:=λt=>F (qa l t,qa l (t+1))) (λt=>by rw[H0,show t+l.length+1=t+1+l.length by omega,H0]) i;have a:=Re (λt=>F (qa l (i+t),qa l (i+t+1))) (CA l.length i k) (CA l.length k i);have c:rs (λt=>F (qa l (i+(CA l.length i k+t)),qa l (i+(CA l.length i k+t)+1))) (CA l.length k i)=rs (λt=>F (qa l (k+t),qa l (k+(t+1)))) (CA l.length k i):=ND λt _=>by
  have e:∀t,qa l (i+(CA l.length i k+t))=qa l (k+t):=λt=>by rw[<-A15,<-ML,Nat.add_mod,h1,<-A13 hk,<-Nat.add_mod,ML];rw[A13 hk]
  rw[e,show i+(CA l.length i k+t)+1=i+(CA l.length i k+(t+1)) by omega,e]
 grind
theorem UF(l:List Pt){i k:Nat}(hi:i<l.length)(hk:k<l.length)(h:i≠k):E8 (CQ l i (CA l.length i k))+E8 (CQ l k (CA l.length k i))=E8 l/\IR (CQ l i (CA l.length i k))+IR (CQ l k (CA l.length k i))=IR l/\Oz (CQ l i (CA l.length i k))+Oz (CQ l k (CA l.length k i))=Oz l:=by simp only[oD,oE,oF];refine⟨UE (λa b=>?_) l hi hk h,UE (λa b=>?_) l hi hk h,UE (λa b=>?_) l hi hk h⟩<;>(unfold PL;grind)
theorem ZH{l:List Pt}{i m t:Nat}(ht:t<=m):qa (CQ l i m) t=qa l (i+t):=by rw[Il (by rw[Cr];omega),Ff ht]
theorem XL(l:List Pt)(i m:Nat):qa (CQ l i m) (m+1)=qa l i:=by have:=H0 (CQ l i m) 0;rw[Cr,A08]at this;rw[this,ZH (A16 _),A43]
theorem ZI{l:List Pt}{i m:Nat}(p:Pt):α (CQ l i m) m p=Aw (qa l (i+m)) (qa l i) p:=by rw[AcM (by rw[Cr];omega) (by rw[Cr];omega),ZH (w6 _),XL]
theorem nW{l:List Pt}{i m:Nat}{p:Pt}:p∈CQ l i m↔∃t,t<=m/\p=qa l (i+t):=by unfold CQ;grind
structure CutAt(l:List Pt)(i k m m':Nat):Prop where
 h:VP l
 hm:2<=m
 hm':2<=m'
 hs:m+m'=l.length
 hk:qa l (i+m)=qa l k
 hi:qa l (k+m')=qa l i
 hkt:∀t,qa l (i+(m+t))=qa l (k+t)
theorem nX{l:List Pt}{i k m m':Nat}(C:CutAt l i k m m'):qa l k≠qa l i:=by obtain⟨h,hm,hm',hs,hk,hi,hkt⟩:=id C;intro e;have:=Iw h.cv (s:=i) hm (by omega);rw[hk,e,Kx]at this;omega
theorem Lh{l:List Pt}{i k m m':Nat}(C:CutAt l i k m m'){t s:Nat}(ht:t<m)(hs':s<=m')(hz:Aw (qa l (i+t)) (qa l (i+t+1)) (qa l (k+s))=0):(s=0/\t+1=m)\/(s=m'/\t=0):=by
 obtain⟨h,hm,hm',hs,hk,hi,hkt⟩:=id C;have e:qa l (k+s)=qa l (i+t+(m+s-t)):=by rw[<-hkt];congr 1;omega
 rw[e]at hz;by_cases a1:m+s-t=1
 ·omega
 by_cases a2:m+s-t=l.length
 ·omega
 have:=Iw h.cv (s:=i+t) (a:=m+s-t) (by omega) (by omega);omega
theorem PI{l:List Pt}{i k m m':Nat}(C:CutAt l i k m m'){s:Nat}(hs':s<=m')(hz:Aw (qa l k) (qa l i) (qa l (k+s))=0):s=0\/s=m':=by
 obtain⟨h,hm,hm',hs,hk,hi,hkt⟩:=id C;by_cases h0:s=0
 ·exact .inl h0
 by_cases h1:s=m'
 ·exact .inr h1
 have:=LM h.cv k s (by omega) (m'-s-1) (by omega);grind[Aw]
theorem UG{l a:List Pt}{j n:Nat}{e:Pt×Pt}(ea:a=CQ l j n)(he:e∈BA a):(∃t,t<n/\e=(qa l (j+t),qa l (j+t+1)))\/e=(qa l (j+n),qa l j):=by
 subst ea;obtain⟨t,ht,rfl⟩:=Mf.1 he;rw[Cr]at ht⊢;by_cases e:t=n
 ·subst e;rw[Nat.mod_self,Ff (w6 _),Ff (A16 _),A43];exact .inr rfl
 ·rw[A13 (by omega),Ff (by omega),Ff (by omega)];grind
theorem SD{l:List Pt}{i k m m':Nat}(C:CutAt l i k m m'):H1 (qa l k,qa l i) (qa l i,qa l k)=some (qa l k,qa l i):=by
 have hne:=nX C;generalize qa l k=P at*;generalize qa l i=Q at*;unfold H1;rw[t7 (by simp only[Kx,HY];simp)];have ll:∀u v,lo u v=lo v u:=λu v=>by
  unfold lo;split<;>split<;>rename_i h1 h2
  ·rw[Kz]at h1 h2;omega
  ·rfl
  ·rfl
  ·have:EE u v=0:=by
    have h3:¬0<EE u v:=by simp_all[Kz,MN]
    omega
   exact jN.1 this
 have hh:∀u v,Am.hi u v=Am.hi v u:=λu v=>by
  unfold Am.hi;split<;>split<;>rename_i h1 h2
  ·rw[Kz]at h1 h2;omega
  ·rfl
  ·rfl
  ·have:EE u v=0:=by
    have h3:¬0<EE u v:=by simp_all[Kz,MN]
    omega
   exact(jN.1 this).symm
 have mx:∀u,OB u u=u:=λu=>by unfold OB;split<;>rfl
 have mn:∀u,OC u u=u:=λu=>by unfold OC;split<;>rfl
 have ec:F9 P Q Q P=(lo P Q,Am.hi P Q):=by unfold F9;rw[ll Q P,hh Q P,mx,mn]
 rw[ec];by_cases hg:0<EE P Q
 ·have h1:EE Q P<0:=by rw[Kz];rw[MN]at hg;exact hg
  have e1:lo P Q=Q:=t8 h1;have e2:Am.hi P Q=P:=t8 h1;simp only[e1,e2];rw[t7 (by grind),t8 hg]
 ·have h1:¬EE Q P<0:=by simp_all[MN,Kz]
  have e1:lo P Q=P:=t7 h1;have e2:Am.hi P Q=Q:=t7 h1;simp only[e1,e2];rw[t7 (by grind),t7 hg]
theorem OE{l:List Pt}{i k m m':Nat}(C:CutAt l i k m m'):apart (CQ l i m) (CQ l k m'):=by
 obtain⟨h,hm,hm',hs,hk,hi,hkt⟩:=id C;refine .inl ⟨m,by rw[Cr];omega,λp hp=>?_⟩;obtain⟨s,hs',rfl⟩:=nW.1 hp;rw[ZI,hk,<-hi];by_cases h0:s=0
 ·subst h0;rw[A43,Kx];omega
 by_cases h1:s=m'
 ·subst h1;rw[HY];omega
 have:=LM h.cv k s (by omega) (m'-s-1) (by omega);rw[show k+(s+(m'-s-1)+1)=k+m' by omega]at this;have e:Aw (qa l k) (qa l (k+m')) (qa l (k+s))= -Aw (qa l k) (qa l (k+s)) (qa l (k+m')):=by unfold Aw;grind
 omega
theorem eK{l:List Pt}{i k m m':Nat}(C:CutAt l i k m m'):Q7 (CQ l i m) (CQ l k m')=some (qa l k,qa l i):=by
 obtain⟨h,hm,hm',hs,hk,hi,hkt⟩:=id C;have all:∀e∈BA (CQ l i m),∀f∈BA (CQ l k m'),∀s,H1 e f=some s->s=(qa l k,qa l i):=by
  intro e he f hf s hs';have hz:Aw e.1 e.2 f.1=0/\Aw e.1 e.2 f.2=0:=by
   unfold H1 at hs';split at hs'
   ·cases hs'
   ·rename_i q;constructor
    ·by_cases z:Aw e.1 e.2 f.1=0
     ·exact z
     ·exact absurd (.inl z) q
    ·by_cases z:Aw e.1 e.2 f.2=0
     ·exact z
     ·exact absurd (.inr z) q
  rcases UG rfl he with⟨t,ht,rfl⟩|rfl<;>rcases UG rfl hf with⟨s',hs2,rfl⟩|rfl
  ·have h1:=Lh C ht (by omega:s'<=m') hz.1;have h2:=Lh C ht (by omega:s'+1<=m') hz.2;omega
  ·have h1:=Lh C ht (w6 m') hz.1;have h2:=Lh C ht (A16 m') (by rw[A43];exact hz.2);omega
  ·simp only[hk]at hz;have h1:=PI C (by omega:s'<=m') hz.1;have h2:=PI C (by omega:s'+1<=m') hz.2;omega
  ·rw[hk,hi,SD C]at hs';exact(yJ hs').symm
 have e0:(qa l k,qa l i)∈BA (CQ l i m):=Mf.2 ⟨m,by rw[Cr];omega,by rw[Cr,Nat.mod_self,Ff (w6 _),Ff (A16 _),hk,A43]⟩;have f0:(qa l i,qa l k)∈BA (CQ l k m'):=Mf.2 ⟨m',by rw[Cr];omega,by rw[Cr,Nat.mod_self,Ff (w6 _),Ff (A16 _),hi,A43]⟩;unfold Q7;cases hc:(BA (CQ l i m)).findSome? λe=>(BA (CQ l k m')).findSome? (H1 e)with
 |none=>rw[List.findSome?_eq_none_iff]at hc;have:=hc _ e0;rw[List.findSome?_eq_none_iff]at this;have:=this _ f0;rw[SD C]at this;cases this
 |some s=>obtain⟨e,he,hc⟩:=List.exists_of_findSome?_eq_some hc;obtain⟨f,hf,hc⟩:=List.exists_of_findSome?_eq_some hc;rw[all e he f hf s hc]
theorem ZJ{l:List Pt}(h:VP l){i k:Nat}(hi:i<l.length)(hk:k<l.length)(h1:2<=CA l.length i k)(h2:2<=CA l.length k i):CutAt l i k (CA l.length i k) (CA l.length k i):=by
 have hne:i≠k:=by rintro rfl;rw[KA (w6 _) hi]at h1;omega
 have s1:=Oy hi hk;have s2:=Oy hk hi;refine⟨h,h1,h2,RM hi hk hne,?_,?_,λt=>?_⟩
 ·rw[<-ML,s1]
 ·rw[<-ML,s2]
 ·rw[<-A15];unfold qa;congr 1;rw[Nat.add_mod,s1,<-A13 hk,<-Nat.add_mod,A13 hk]
theorem eL{n i k:Nat}(hi:i<n)(hk:k<n)(hn:3<=n):(i=k\/(i+1)%n=k\/(k+1)%n=i)↔(CA n i k<2\/CA n k i<2):=by
 have a1:(i+1)%n=if i+1=n then 0 else i+1:=by
  split
  ·rename_i h;rw[h,Nat.mod_self]
  ·exact A13 (by omega)
 have a2:(k+1)%n=if k+1=n then 0 else k+1:=by
  split
  ·rename_i h;rw[h,Nat.mod_self]
  ·exact A13 (by omega)
 rw[a1,a2];rcases Nat.lt_trichotomy i k with q|q|q
 ·rw[KA (by omega) hk,OD q hk];split<;>split<;>omega
 ·subst q;rw[KA (by omega) hk];simp
 ·rw[OD q hi,KA (by omega) hi];split<;>split<;>omega
