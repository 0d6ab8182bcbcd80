import Derived.Test.YtjdchfljifacoaaGreatDoorS5
set_option linter.all false
set_option maxRecDepth 100000
set_option maxHeartbeats 8000000
namespace Go.Proofs.YtjdchfljifacoaaGreatDoor.Am
open Go
section
attribute [local irreducible] Aq BD Bv A8 Bq Ba AQ Bw By Ck
attribute [local irreducible] Ej
attribute [local go_sem] kF LA Ij Ik qU yU oI List.map_replicate List.map_set
def Hy(N:Nat)(aa:List (Int×Int×Int×(List (Int×Int))×Int×Int))(from247:List (Int×Int×Int×Int×Bool))(bp:Int)(bo:Int)(bn:Int)(bm:List (Int×Int))(bl:Int)(bj:Int)(aj:Int)(bi:Int)(bh:Int)(bg:Int)(bf:Int)(be:Int)(bb:Int)(ba:Bool):Option (((List (Int×Int×Int×(List (Int×Int))×Int×Int))×(List (Int×Int×Int×Int×Bool)))×Int):=(EA N bp bo bn bm bl bj aj bi bh bg bf be bb ba).bind λan=>bif !an then(some (([],[]),170))else((Fk N aa).bind λai=>gd (from247.length*40<=140737488355328)<|(Bf N from247 aj).bind λr267=>gd ((decide (0<=r267))=true->(0<=r267/\r267<(from247.length:Int)))<|gd ((decide (0<=r267))=true->(0<=r267/\r267<(from247.length:Int)))<|bif !((decide (0<=r267))&&(((from247.getD r267.toNat (0,0,0,0,false)).2.2.2.2) !=false))then(some (([],[]),170))else((Bz from247 r267).bind λ(ah,af,ae,ab,bq)=>(Cz N ai (from247.set r267.toNat (ah,af,ae,ab,false))).bind λam=>bif !am then(some (([],[]),170))else((Fk N ai).bind λak=>gd ((from247.set r267.toNat (ah,af,ae,ab,false)).length*40<=140737488355328)<|some ((ak,from247.set r267.toNat (ah,af,ae,ab,false)),0))))
@[go_sem] def xK(N:Nat):Spec:=p0<|(qG<|qD Ak<|qD Az<|qE<|qG<|qC 6<|qI<|qI<|qI<|qD Aj<|qI<|qI<|qI<|qI<|qI<|qI<|qI<|qI<|qI<|qB<|qE<|qE<|qF (([],[]),0) λr=>.tup [.agg [Ao r.1.1,Bj r.1.2],.i r.2]) (Hy N)
theorem fS(N:Nat):Au Tryz.prog 36 (xK N):=by
 refine fk (wD x36 (Bl (Aa (LG N)<|Aa (PH N)<|Aa (Me N)<|Ae) (Kk N) (Cq N) Gz (Gy N))) ?_;intro aa from247 bp bo bn bm bl bj aj bi bh bg bf be bb ba r h hb hS F;dsimp only[x36,Ad,Aj,Az,Ak];have hOK:=Ctx.fd_ok (nt:=38) (hb:=hb) hS;unfold Hy at h;obtain⟨an,ay,h⟩:=un h;replace F:=fc ay F;refine An hS F h (λ_ h=>?_) (λ_ h=>?_)
 ·exact Sy hS F h
 ·refine go hS F ?_;refine H8 hS 1 rfl rfl (ev F) yT (ev F) (ev F) ?_;obtain⟨ai,aw,bz,h⟩:=un h;replace F:=fc aw F;refine go hS F ?_;refine Bu hS 4 x135.hf x135.hc x135.hn x135.ok rfl (ev F) (ev F) ?_ rfl (ev F) (A01 rfl) λhb=>?_
  ·exact AS hS F
  dsimp only[x135,Ad];refine go hS F ?_;refine AM hS 3 x136.hf x136.hc x136.hn x136.ok rfl (ev F) (ev F) ?_ rfl (ev F) (A01 rfl) λhb=>?_
  ·exact AS hS F
  dsimp only[x136,Ad];obtain⟨r267,av,bw,bv,h⟩:=un h;replace F:=fc av F;refine go hS F ?_;refine AM hS 15 x50.hf x50.hc x50.hn x50.ok rfl (ev F) (ev F) ?_ rfl (ev F) (A01 rfl) λhb=>?_
  ·exact AS hS F
  dsimp only[x50,Ad];refine An hS F h (λ_ h=>?_) (λ_ h=>?_)
  ·refine go hS F ?_;refine A1 (Ctx.fn_ok hS) 2 rfl rfl (ev F) (ev F) (ev F) ?_
   repeat' (first|with_reducible (first|apply AT|apply AU|apply A2|apply AD|apply Bi)|((with_reducible apply AO);(·simp)))
   exact Ho hS F h
  ·obtain⟨⟨ah,af,ae,ab,bq⟩,az,h⟩:=un h;obtain⟨br,F⟩:=CH BW az F;obtain⟨am,au,h⟩:=un h;replace F:=fc au F;refine go hS F ?_;refine Bu hS 5 x50.hf x50.hc x50.hn x50.ok rfl (ev F) (ev F) ?_ rfl (ev F) (A01 rfl) λhb=>?_
   ·exact AS hS F
   dsimp only[x50,Ad];refine An hS F h (λ_ h=>?_) (λ_ h=>?_)
   ·refine go hS F ?_;refine A1 (Ctx.fn_ok hS) 2 rfl rfl (ev F) (ev F) (ev F) ?_
    repeat' (first|with_reducible (first|apply AT|apply AU|apply A2|apply AD|apply Bi)|((with_reducible apply AO);(·simp)))
    exact Ho hS F h
   ·obtain⟨ak,aq,bu,h⟩:=un h;exact QY hS (fc aq F) h
end
section
attribute [local irreducible] Aq BD Bv A8 Bq Ba AQ Bw By Ck
attribute [local irreducible] Ej
attribute [local go_sem] kF LA Ij Ik qU yU oI List.map_replicate List.map_set
def Hz(N:Nat)(aa:List (Int×Int×Int×(List (Int×Int))×Int×Int))(from280:List (Int×Int×Int×Int×Bool))(bp:Int)(bo:Int)(bn:Int)(bm:List (Int×Int))(bl:Int)(bj:Int)(aj:Int)(bi:Int)(bh:Int)(bg:Int)(bf:Int)(be:Int)(bb:Int)(ba:Bool):Option (((List (Int×Int×Int×(List (Int×Int))×Int×Int))×(List (Int×Int×Int×Int×Bool)))×Int):=(EB N bp bo bn bm bl bj aj bi bh bg bf be bb ba).bind λan=>bif !an then(some (([],[]),170))else((Fk N aa).bind λai=>gd (from280.length*40<=140737488355328)<|(Bf N from280 aj).bind λr300=>gd ((decide (0<=r300))=true->(0<=r300/\r300<(from280.length:Int)))<|gd ((decide (0<=r300))=true->(0<=r300/\r300<(from280.length:Int)))<|bif !((decide (0<=r300))&&(((from280.getD r300.toNat (0,0,0,0,false)).2.2.2.2) !=true))then(some (([],[]),170))else((Bz from280 r300).bind λ(ah,af,ae,ab,bq)=>(Cz N ai (from280.set r300.toNat (ah,af,ae,ab,true))).bind λam=>bif !am then(some (([],[]),170))else((Fk N ai).bind λak=>gd ((from280.set r300.toNat (ah,af,ae,ab,true)).length*40<=140737488355328)<|some ((ak,from280.set r300.toNat (ah,af,ae,ab,true)),0))))
@[go_sem] def xL(N:Nat):Spec:=p0<|(qG<|qD Ak<|qD Az<|qE<|qG<|qC 7<|qI<|qI<|qI<|qD Aj<|qI<|qI<|qI<|qI<|qI<|qI<|qI<|qI<|qI<|qB<|qE<|qE<|qF (([],[]),0) λr=>.tup [.agg [Ao r.1.1,Bj r.1.2],.i r.2]) (Hz N)
theorem fT(N:Nat):Au Tryz.prog 36 (xL N):=by
 refine fk (wD x36 (Bl (Aa (LH N)<|Aa (PH N)<|Aa (Me N)<|Ae) (Kk N) (Cq N) Gz (Gy N))) ?_;intro aa from280 bp bo bn bm bl bj aj bi bh bg bf be bb ba r h hb hS F;dsimp only[x36,Ad,Aj,Az,Ak];have hOK:=Ctx.fd_ok (nt:=38) (hb:=hb) hS;unfold Hz at h;obtain⟨an,ay,h⟩:=un h;replace F:=fc ay F;refine An hS F h (λ_ h=>?_) (λ_ h=>?_)
 ·exact Sy hS F h
 ·refine go hS F ?_;refine H8 hS 1 rfl rfl (ev F) yT (ev F) (ev F) ?_;obtain⟨ai,aw,bz,h⟩:=un h;replace F:=fc aw F;refine go hS F ?_;refine Bu hS 4 x138.hf x138.hc x138.hn x138.ok rfl (ev F) (ev F) ?_ rfl (ev F) (A01 rfl) λhb=>?_
  ·exact AS hS F
  dsimp only[x138,Ad];refine go hS F ?_;refine AM hS 3 x136.hf x136.hc x136.hn x136.ok rfl (ev F) (ev F) ?_ rfl (ev F) (A01 rfl) λhb=>?_
  ·exact AS hS F
  dsimp only[x136,Ad];obtain⟨r300,av,bw,bv,h⟩:=un h;replace F:=fc av F;refine go hS F ?_;refine AM hS 15 x50.hf x50.hc x50.hn x50.ok rfl (ev F) (ev F) ?_ rfl (ev F) (A01 rfl) λhb=>?_
  ·exact AS hS F
  dsimp only[x50,Ad];refine An hS F h (λ_ h=>?_) (λ_ h=>?_)
  ·refine go hS F ?_;refine A1 (Ctx.fn_ok hS) 2 rfl rfl (ev F) (ev F) (ev F) ?_
   repeat' (first|with_reducible (first|apply AT|apply AU|apply A2|apply AD|apply Bi)|((with_reducible apply AO);(·simp)))
   exact Ho hS F h
  ·obtain⟨⟨ah,af,ae,ab,bq⟩,az,h⟩:=un h;obtain⟨br,F⟩:=CH BW az F;obtain⟨am,au,h⟩:=un h;replace F:=fc au F;refine go hS F ?_;refine Bu hS 5 x50.hf x50.hc x50.hn x50.ok rfl (ev F) (ev F) ?_ rfl (ev F) (A01 rfl) λhb=>?_
   ·exact AS hS F
   dsimp only[x50,Ad];refine An hS F h (λ_ h=>?_) (λ_ h=>?_)
   ·refine go hS F ?_;refine A1 (Ctx.fn_ok hS) 2 rfl rfl (ev F) (ev F) (ev F) ?_
    repeat' (first|with_reducible (first|apply AT|apply AU|apply A2|apply AD|apply Bi)|((with_reducible apply AO);(·simp)))
    exact Ho hS F h
   ·obtain⟨ak,aq,bu,h⟩:=un h;exact QY hS (fc aq F) h
end
section
attribute [local irreducible] Aq BD Bv A8 Bq Ba AQ Bw By Ck
attribute [local irreducible] Ej
attribute [local go_sem] kF LA Ij Ik qU yU oI qv I3 List.map_replicate List.map_set
def IH(N:Nat)(aa:List (Int×Int×Int×(List (Int×Int))×Int×Int))(from2:List (Int×Int×Int×Int×Bool))(a3:Int)(a4:Int)(a5:Int)(a6:Int)(a7:List (Int×Int))(a8:Int)(a9:Int)(aq:Int)(an:Int)(am:Int)(ak:Int)(aj:Int)(ai:Int)(ah:Int)(af:Bool):Option (((List (Int×Int×Int×(List (Int×Int))×Int×Int))×(List (Int×Int×Int×Int×Bool)))×Int):=(EC N a3 a4 a5 a6 a7 a8 a9 aq an am ak aj ai ah af).bind λae=>gd (ae=false)<|some (([],[]),170)
@[go_sem] def xM(N:Nat):Spec:=p0<|(qG<|qD Ak<|qD Az<|qE<|qG<|qI<|qI<|qI<|qI<|qD Aj<|qI<|qI<|qI<|qI<|qI<|qI<|qI<|qI<|qI<|qB<|qE<|qE<|qF (([],[]),0) λr=>.tup [.agg [Ao r.1.1,Bj r.1.2],.i r.2]) (IH N)
theorem fU(N:Nat):Au Tryz.prog 36 (xM N):=by refine fk (wD x36 (Bl (Aa (LI N)<|Ae) (Kk N) (Cq N) Gz (Gy N))) ?_;intro aa from2 a3 a4 a5 a6 a7 a8 a9 aq an am ak aj ai ah af r h hb hS F;dsimp only[x36,Ad,Aj,Az,Ak];have hOK:=Ctx.fd_ok (nt:=38) (hb:=hb) hS;unfold IH at h;obtain⟨ae,ab,au,h⟩:=un h;replace F:=fc au (fc ab F);refine Jg hS F ?_;exact Sy hS F h
end
section
attribute [local irreducible] Aq BD Bv A8 Bq Ba AQ Bw By Ck
def In(N:Nat)(aa:List Un)(from2:List Mk)(a3:Int)(a4:Int)(a5:Int)(a6:Int)(a7:List (Int×Int))(a8:Int)(a9:Int)(am:Int)(ak:Int)(aj:Int)(ai:Int)(ah:Int)(af:Int)(ae:Int)(ab:Bool):Option ((List Un×List Mk)×Int):=if a3=1 then Ht N aa from2 a4 a5 a6 a7 a8 a9 am ak aj ai ah af ae ab else if a3=2 then Hu N aa from2 a4 a5 a6 a7 a8 a9 am ak aj ai ah af ae ab else if a3=3 then Hv N aa from2 a4 a5 a6 a7 a8 a9 am ak aj ai ah af ae ab else if a3=4 then Hw N aa from2 a4 a5 a6 a7 a8 a9 am ak aj ai ah af ae ab else if a3=5 then Hx N aa from2 a4 a5 a6 a7 a8 a9 am ak aj ai ah af ae ab else if a3=6 then Hy N aa from2 a4 a5 a6 a7 a8 a9 am ak aj ai ah af ae ab else if a3=7 then Hz N aa from2 a4 a5 a6 a7 a8 a9 am ak aj ai ah af ae ab else IH N aa from2 a3 a4 a5 a6 a7 a8 a9 am ak aj ai ah af ae ab
@[go_sem] def s57(N:Nat):Spec:=p0<|(qG<|qD Ak<|qD Az<|qE<|qG<|qI<|qI<|qI<|qI<|qD Aj<|qI<|qI<|qI<|qI<|qI<|qI<|qI<|qI<|qI<|qB<|qE<|qE<|qF (([],[]),0) λr=>.tup [.agg [Ao r.1.1,Bj r.1.2],.i r.2]) (In N)
theorem Bg{P:Program}{f:Nat}{s:Spec}{args:List AV}{vc:Prop}{r:AV}(φ:Au P f s)(hs:s args=some (vc,r))(hv:vc):PCall P f args r:=φ.2 _ _ _ hs hv
theorem kJ(N:Nat):Au Tryz.prog 36 (s57 N):=by
 refine L6 x36.ok<|L7<|Nc λaa=>Nc λfrom2=>He<|L7<|Bd λa3=>Bd λa4=>Bd λa5=>Bd λa6=>Nc λa7=>Bd λa8=>Bd λa9=>Bd λam=>Bd λak=>Bd λaj=>Bd λai=>Bd λah=>Bd λaf=>Bd λae=>O8 λab=>He<|He<|L8 λr h=>?_
 dsimp only[Aj,Az,Ak];unfold In at h;split at h
 ·rename_i e;subst e;exact Bg (fN N) (by simp only[go_sem,seval,h]<;>eq_refl) (by simp only[go_sem,seval,h])
 split at h
 ·rename_i e;subst e;exact Bg (fO N) (by simp only[go_sem,seval,h]<;>eq_refl) (by simp only[go_sem,seval,h])
 split at h
 ·rename_i e;subst e;exact Bg (fP N) (by simp only[go_sem,seval,h]<;>eq_refl) (by simp only[go_sem,seval,h])
 split at h
 ·rename_i e;subst e;exact Bg (fQ N) (by simp only[go_sem,seval,h]<;>eq_refl) (by simp only[go_sem,seval,h])
 split at h
 ·rename_i e;subst e;exact Bg (fR N) (by simp only[go_sem,seval,h]<;>eq_refl) (by simp only[go_sem,seval,h])
 split at h
 ·rename_i e;subst e;exact Bg (fS N) (by simp only[go_sem,seval,h]<;>eq_refl) (by simp only[go_sem,seval,h])
 split at h
 ·rename_i e;subst e;exact Bg (fT N) (by simp only[go_sem,seval,h]<;>eq_refl) (by simp only[go_sem,seval,h])
 exact Bg (fU N) (by simp only[go_sem,seval,h]<;>eq_refl) (by simp only[go_sem,seval,h])
end
section
attribute [local irreducible] Aq BD Bv A8 Bq Ba AQ Bw By Ck
attribute [local go_sem] LA
def Fq(N:Nat)(s1:List (Int×Int×Int×(List (Int×Int))×Int×Int))(s2:List (Int×Int×Int×Int×Bool)):Option ((List (Int×Int×Int×(List (Int×Int))×Int×Int))×(List (Int×Int×Int×Int×Bool))):=gd (s2.length*40<=140737488355328)<|(D4 N s1 N 0 []).bind λl41=>some (l41,s2)
@[go_sem] def kK(N:Nat):Spec:=p0<|(qG<|qD Ak<|qD Az<|qE<|qE<|qF ([],[]) λr=>.agg [Ao r.1,Bj r.2]) (Fq N)
theorem Pm(N:Nat):Au Tryz.prog 45 (kK N):=by
 refine fk (wX x45 (Bl (Aa (S5 N)<|Ae) Dt (Ur) Du Dv)) ?_;intro s1 s2 r h _ hS F;dsimp only[x45,Ad,Az,Ak];unfold Fq at h;obtain⟨bf,h⟩:=un h;refine go hS F ?_;refine Iv 1000001 (104,2) 0 6 [.i 0,.i 0,.i 0,.sl 0 true [] [],.i 0,.i 0] (by omega) (ev F) ?_;obtain⟨ay,ba,h⟩:=un h;refine go hS F ?_;refine BU ay (λz:(List (Int×Int×Int×(List (Int×Int))×Int×Int))×Nat=>⟨[(2,.box (1,1) 0),(3,.box (104,2) 0)],[(.c (104,2) 0,.own (1000001,4) z.1.length),(.c (104,2) 1,.own (102,2) s2.length),(.a (102,2),EK s2),(.a (1000001,4),Dm z.1),(.c (1,1) 0,.sl 0 true [] []),(.c (1,1) 1,.sl 0 true [] [])],z.2⟩) (λz=>(z.1:(List (Int×Int×Int×(List (Int×Int))×Int×Int)))) (.x 0) ?_ ?_
 ·refine BO (λn (y:Int×(List (Int×Int×Int×(List (Int×Int))×Int×Int))×Nat)=>D4 N s1 n y.1 y.2.1) (λy=>⟨[(2,.box (1,1) 0),(3,.box (104,2) 0),(12,Ao s1),(13,.i (s1.length:Int)),(14,.i y.1)],[(.c (104,2) 0,.own (1000001,4) y.2.1.length),(.c (104,2) 1,.own (102,2) s2.length),(.a (102,2),EK s2),(.a (1000001,4),Dm y.2.1),(.c (1,1) 0,.sl 0 true [] []),(.c (1,1) 1,.sl 0 true [] [])],y.2.2⟩) (0,[],4) ba (CB F) ?_;rintro n ⟨So,au,av⟩ aa;simp only[D4]at aa;refine An hS F aa (λ_ aa=>?_) (λ_ aa=>?_)
  ·obtain⟨⟨Sp,Sq,Sr,K2,Ss,Wn⟩,aq,aa⟩:=un aa;obtain⟨az,F⟩:=CH Ap aq F;obtain⟨aw,an,be,bb,aa⟩:=un aa;exact CS hS (fc an F) (n,So+1,au++[(Sp,Sq,Sr,aw,Ss,Wn)],av+1+1+1+1+1) aa
  ·exact Cu hS F (au,av+1) aa
 ·rintro⟨l41,bg⟩ rfl;exact Ah hS F h
theorem PCall.wk'{P:Program}{f:Nat}{args:List AV}{r r':AV}(h:PCall P f args r)(hw:Wk r r')(hp:BN r'=true):PCall P f args r':=λU vs a b c d=>(h U vs a b c d).mono λ_ _ ⟨v,e1,e2,e3,_,e5⟩=>⟨v,e1,e2,e3,hp,hw _ _ e5⟩
theorem SL{a b c d e x:AV}:Wk (.tup [.agg [a,b,c,d,e],x]) (.tup [.agg [.un,.un,.un,.un,.un],x]):=by intro U v h;simp only[Rep,RepL]at h⊢;obtain⟨xs,e1,y,ys,e2,⟨zs,f1,f2,_,_,rfl,_,_,_,rfl,_,_,_,rfl,_,_,_,rfl,_,_,_,rfl,_,rfl⟩,e4⟩:=h;exact⟨xs,e1,y,ys,e2,⟨_,f1,f2,_,_,rfl,trivial,_,_,rfl,trivial,_,_,rfl,trivial,_,_,rfl,trivial,_,_,rfl,trivial,rfl⟩,e4⟩
def NG(N:Nat)(a3:Int)(a4:Int)(a5:Int)(a6:Int)(a7:List (Int×Int))(a8:Int)(a9:Int)(am:Int)(ak:Int)(aj:Int)(ai:Int)(ah:Int)(af:Int)(ae:Int)(ab:Bool):Option Bool:=if a3=1 then Eu N a4 a5 a6 a7 a8 a9 am ak aj ai ah af ae ab else if a3=2 then Ew N a4 a5 a6 a7 a8 a9 am ak aj ai ah af ae ab else if a3=3 then Ex N a4 a5 a6 a7 a8 a9 am ak aj ai ah af ae ab else if a3=4 then Ey N a4 a5 a6 a7 a8 a9 am ak aj ai ah af ae ab else if a3=5 then Ez N a4 a5 a6 a7 a8 a9 am ak aj ai ah af ae ab else if a3=6 then EA N a4 a5 a6 a7 a8 a9 am ak aj ai ah af ae ab else if a3=7 then EB N a4 a5 a6 a7 a8 a9 am ak aj ai ah af ae ab else EC N a3 a4 a5 a6 a7 a8 a9 am ak aj ai ah af ae ab
@[go_sem] def s64(N:Nat):Spec:=p0<|(qG<|qI<|qI<|qI<|qI<|qS Aj<|qI<|qI<|qI<|qI<|qI<|qI<|qI<|qI<|qI<|qB<|qE<|qE<|qF false λr=>.tup [.agg [.un,.un,.un,.un,.un],.b r]) (NG N)
theorem Aa4(N:Nat):Au Tryz.prog 44 (s64 N):=by
 refine L6 x44.ok<|L7<|Bd λa3=>Bd λa4=>Bd λa5=>Bd λa6=>QF λa7=>Bd λa8=>Bd λa9=>Bd λam=>Bd λak=>Bd λaj=>Bd λai=>Bd λah=>Bd λaf=>Bd λae=>O8 λab=>He<|He<|L8 λr h=>?_
 dsimp only[Aj];unfold NG at h;split at h
 ·rename_i e;subst e;exact(Bg (LB N) (by simp only[go_sem,seval,h]<;>eq_refl) (by simp only[go_sem,seval,h])).wk' SL rfl
 split at h
 ·rename_i e;subst e;exact(Bg (LC N) (by simp only[go_sem,seval,h]<;>eq_refl) (by simp only[go_sem,seval,h])).wk' SL rfl
 split at h
 ·rename_i e;subst e;exact(Bg (LD N) (by simp only[go_sem,seval,h]<;>eq_refl) (by simp only[go_sem,seval,h])).wk' SL rfl
 split at h
 ·rename_i e;subst e;exact(Bg (LE N) (by simp only[go_sem,seval,h]<;>eq_refl) (by simp only[go_sem,seval,h])).wk' SL rfl
 split at h
 ·rename_i e;subst e;exact(Bg (LF N) (by simp only[go_sem,seval,h]<;>eq_refl) (by simp only[go_sem,seval,h])).wk' SL rfl
 split at h
 ·rename_i e;subst e;exact(Bg (LG N) (by simp only[go_sem,seval,h]<;>eq_refl) (by simp only[go_sem,seval,h])).wk' SL rfl
 split at h
 ·rename_i e;subst e;exact(Bg (LH N) (by simp only[go_sem,seval,h]<;>eq_refl) (by simp only[go_sem,seval,h])).wk' SL rfl
 exact(Bg (LI N) (by simp only[go_sem,seval,h]<;>eq_refl) (by simp only[go_sem,seval,h])).wk' SL rfl
end
section
attribute [local irreducible] Aq BD Bv A8 Bq Ba AQ Bw By Ck
def J1(N:Nat)(a2:Int)(a3:Int)(a4:Int)(a5:List (Int×Int))(a6:Int)(a7:Int)(a8:Int)(a9:Int)(jh:Int)(jg:Int)(jf:Int)(je:Int)(jd:Int)(jc:Bool):Option ((List Int)×(List Int)):=(Eu N a2 a3 a4 a5 a6 a7 a8 a9 jh jg jf je jd jc).bind λjv=>bif !jv then(some ([],[]))else((KK N 1 a2 a3 a4 a5 a6 a7 a8 a9 jh jg jf je jd jc).bind λ(jq,jp)=>some (jq,jp))
@[go_sem] def xV(N:Nat):Spec:=p0<|(qG<|qC 1<|qI<|qI<|qI<|qS Aj<|qI<|qI<|qI<|qI<|qI<|qI<|qI<|qI<|qI<|qB<|qE<|qE<|qF ([],[]) λr=>.tup [Fm r.1,Fm r.2]) (J1 N)
theorem gH(N:Nat):Au Tryz.prog 20 (xV N):=by
 refine fk (wX x20 (Bl (Aa (LB N)<|Aa (vF N)<|Ae) Dt (Cq N) Du Dv)) ?_;intro a2 a3 a4 a5 a6 a7 a8 a9 jh jg jf je jd jc r h _ hS F;dsimp only[x20,Ad,Aj];unfold J1 at h;obtain⟨jv,d8,h⟩:=un h;replace F:=fc d8 F;refine An hS F h (λ_ h=>?_) (λ_ h=>?_)
 ·exact Ah hS F h
 ·obtain⟨⟨jq,jp⟩,d7,h⟩:=un h;exact Ah hS (fc d7 F) h
def J2(N:Nat)(jb:Int)(ja:Int)(i9:Int)(i8:List (Int×Int))(i7:Int)(i6:Int)(i5:Int)(i4:Int)(iz:Int)(iy:Int)(iw:Int)(iv:Int)(iq:Int)(ip:Bool):Option ((List Int)×(List Int)):=(Ew N jb ja i9 i8 i7 i6 i5 i4 iz iy iw iv iq ip).bind λju=>bif !ju then(some ([],[]))else((KL N 2 jb ja i9 i8 i7 i6 i5 i4 iz iy iw iv iq ip).bind λ(jo,jn)=>some (jo,jn))
@[go_sem] def xW(N:Nat):Spec:=p0<|(qG<|qC 2<|qI<|qI<|qI<|qS Aj<|qI<|qI<|qI<|qI<|qI<|qI<|qI<|qI<|qI<|qB<|qE<|qE<|qF ([],[]) λr=>.tup [Fm r.1,Fm r.2]) (J2 N)
theorem gJ(N:Nat):Au Tryz.prog 20 (xW N):=by
 refine fk (wX x20 (Bl (Aa (LC N)<|Aa (vH N)<|Ae) Dt (Cq N) Du Dv)) ?_;intro jb ja i9 i8 i7 i6 i5 i4 iz iy iw iv iq ip r h _ hS F;dsimp only[x20,Ad,Aj];unfold J2 at h;obtain⟨ju,d6,h⟩:=un h;replace F:=fc d6 F;refine An hS F h (λ_ h=>?_) (λ_ h=>?_)
 ·exact Ah hS F h
 ·obtain⟨⟨jo,jn⟩,d5,h⟩:=un h;exact Ah hS (fc d5 F) h
def J3(N:Nat)(im:Int)(ij:Int)(ii:Int)(ig:List (Int×Int))(ic:Int)(ib:Int)(g9:Int)(g8:Int)(gz:Int)(gy:Int)(gx:Int)(gw:Int)(gu:Int)(gt:Bool):Option ((List Int)×(List Int)):=(Ex N im ij ii ig ic ib g9 g8 gz gy gx gw gu gt).bind λjt=>bif !jt then(some ([],[]))else((JV N 3 im ij ii ig ic ib g9 g8 gz gy gx gw gu gt).bind λ(jm,r59)=>some (jm,r59))
@[go_sem] def xX(N:Nat):Spec:=p0<|(qG<|qC 3<|qI<|qI<|qI<|qS Aj<|qI<|qI<|qI<|qI<|qI<|qI<|qI<|qI<|qI<|qB<|qE<|qE<|qF ([],[]) λr=>.tup [Fm r.1,Fm r.2]) (J3 N)
theorem gN(N:Nat):Au Tryz.prog 20 (xX N):=by
 refine fk (wX x20 (Bl (Aa (LD N)<|Aa (vJ N)<|Ae) Dt (Cq N) Du Dv)) ?_;intro im ij ii ig ic ib g9 g8 gz gy gx gw gu gt r h _ hS F;dsimp only[x20,Ad,Aj];unfold J3 at h;obtain⟨jt,dz,h⟩:=un h;replace F:=fc dz F;refine An hS F h (λ_ h=>?_) (λ_ h=>?_)
 ·exact Ah hS F h
 ·obtain⟨⟨jm,r59⟩,dy,h⟩:=un h;exact Ah hS (fc dy F) h
def J4(N:Nat)(gr:Int)(gm:Int)(gj:Int)(gi:List (Int×Int))(gh:Int)(gg:Int)(ge:Int)(gc:Int)(fy:Int)(fx:Int)(fr:Int)(fq:Int)(fp:Int)(fo:Bool):Option ((List Int)×(List Int)):=(Ey N gr gm gj gi gh gg ge gc fy fx fr fq fp fo).bind λjs=>bif !js then(some ([],[]))else((JW N 4 gr gm gj gi gh gg ge gc fy fx fr fq fp fo).bind λ(jl,jk)=>some (jl,jk))
@[go_sem] def xY(N:Nat):Spec:=p0<|(qG<|qC 4<|qI<|qI<|qI<|qS Aj<|qI<|qI<|qI<|qI<|qI<|qI<|qI<|qI<|qI<|qB<|qE<|qE<|qF ([],[]) λr=>.tup [Fm r.1,Fm r.2]) (J4 N)
theorem gO(N:Nat):Au Tryz.prog 20 (xY N):=by
 refine fk (wX x20 (Bl (Aa (LE N)<|Aa (vL N)<|Ae) Dt (Cq N) Du Dv)) ?_;intro gr gm gj gi gh gg ge gc fy fx fr fq fp fo r h _ hS F;dsimp only[x20,Ad,Aj];unfold J4 at h;obtain⟨js,dx,h⟩:=un h;replace F:=fc dx F;refine An hS F h (λ_ h=>?_) (λ_ h=>?_)
 ·exact Ah hS F h
 ·obtain⟨⟨jl,jk⟩,dw,h⟩:=un h;exact Ah hS (fc dw F) h
def J5(N:Nat)(fm:Int)(fj:Int)(fh:Int)(fg:List (Int×Int))(e9:Int)(e8:Int)(ez:Int)(eu:Int)(ep:Int)(el:Int)(ej:Int)(eh:Int)(ee:Int)(d9:Bool):Option ((List Int)×(List Int)):=(Ez N fm fj fh fg e9 e8 ez eu ep el ej eh ee d9).bind λjr=>bif !jr then(some ([],[]))else((KM N 5 fm fj fh fg e9 e8 ez eu ep el ej eh ee d9).bind λ(jj,ji)=>some (jj,ji))
@[go_sem] def xZ(N:Nat):Spec:=p0<|(qG<|qC 5<|qI<|qI<|qI<|qS Aj<|qI<|qI<|qI<|qI<|qI<|qI<|qI<|qI<|qI<|qB<|qE<|qE<|qF ([],[]) λr=>.tup [Fm r.1,Fm r.2]) (J5 N)
theorem gP(N:Nat):Au Tryz.prog 20 (xZ N):=by
 refine fk (wX x20 (Bl (Aa (LF N)<|Aa (vN N)<|Ae) Dt (Cq N) Du Dv)) ?_;intro fm fj fh fg e9 e8 ez eu ep el ej eh ee d9 r h _ hS F;dsimp only[x20,Ad,Aj];unfold J5 at h;obtain⟨jr,du,h⟩:=un h;replace F:=fc du F;refine An hS F h (λ_ h=>?_) (λ_ h=>?_)
 ·exact Ah hS F h
 ·obtain⟨⟨jj,ji⟩,dt,h⟩:=un h;exact Ah hS (fc dt F) h
def J6(N:Nat)(bo:Int)(bn:Int)(bm:Int)(bl:List (Int×Int))(bj:Int)(bi:Int)(bh:Int)(bg:Int)(bf:Int)(be:Int)(bb:Int)(ba:Int)(az:Int)(ay:Bool):Option ((List Int)×(List Int)):=(EA N bo bn bm bl bj bi bh bg bf be bb ba az ay).bind λbz=>bif !bz then(some ([],[]))else((IF N 6 bo bn bm bl bj bi bh bg bf be bb ba az ay).bind λ(bu,br)=>some (bu,br))
@[go_sem] def yA(N:Nat):Spec:=p0<|(qG<|qC 6<|qI<|qI<|qI<|qS Aj<|qI<|qI<|qI<|qI<|qI<|qI<|qI<|qI<|qI<|qB<|qE<|qE<|qF ([],[]) λr=>.tup [Fm r.1,Fm r.2]) (J6 N)
theorem gQ(N:Nat):Au Tryz.prog 20 (yA N):=by
 refine fk (wX x20 (Bl (Aa (LG N)<|Aa (Zo N)<|Ae) Dt (Cq N) Du Dv)) ?_;intro bo bn bm bl bj bi bh bg bf be bb ba az ay r h _ hS F;dsimp only[x20,Ad,Aj];unfold J6 at h;obtain⟨bz,cj,h⟩:=un h;replace F:=fc cj F;refine An hS F h (λ_ h=>?_) (λ_ h=>?_)
 ·exact Ah hS F h
 ·obtain⟨⟨bu,br⟩,ci,h⟩:=un h;exact Ah hS (fc ci F) h
def J7(N:Nat)(aw:Int)(av:Int)(au:Int)(aq:List (Int×Int))(an:Int)(am:Int)(ak:Int)(aj:Int)(ai:Int)(ah:Int)(af:Int)(ae:Int)(ab:Int)(aa:Bool):Option ((List Int)×(List Int)):=(EB N aw av au aq an am ak aj ai ah af ae ab aa).bind λbw=>bif !bw then(some ([],[]))else((IF N 7 aw av au aq an am ak aj ai ah af ae ab aa).bind λ(bq,bp)=>some (bq,bp))
@[go_sem] def yC(N:Nat):Spec:=p0<|(qG<|qC 7<|qI<|qI<|qI<|qS Aj<|qI<|qI<|qI<|qI<|qI<|qI<|qI<|qI<|qI<|qB<|qE<|qE<|qF ([],[]) λr=>.tup [Fm r.1,Fm r.2]) (J7 N)
theorem gR(N:Nat):Au Tryz.prog 20 (yC N):=by
 refine fk (wX x20 (Bl (Aa (LH N)<|Aa (Zo N)<|Ae) Dt (Cq N) Du Dv)) ?_;intro aw av au aq an am ak aj ai ah af ae ab aa r h _ hS F;dsimp only[x20,Ad,Aj];unfold J7 at h;obtain⟨bw,ce,h⟩:=un h;replace F:=fc ce F;refine An hS F h (λ_ h=>?_) (λ_ h=>?_)
 ·exact Ah hS F h
 ·obtain⟨⟨bq,bp⟩,b9,h⟩:=un h;exact Ah hS (fc b9 F) h
def J8(N:Nat)(dq:Int)(dm:Int)(dl:Int)(dh:Int)(dg:List (Int×Int))(de:Int)(db:Int)(da:Int)(cy:Int)(cu:Int)(cr:Int)(cq:Int)(co:Int)(cn:Int)(ck:Bool):Option ((List Int)×(List Int)):=(EC N dq dm dl dh dg de db da cy cu cr cq co cn ck).bind λbv=>gd (bv=false)<|some ([],[])
@[go_sem] def yD(N:Nat):Spec:=p0<|(qG<|qI<|qI<|qI<|qI<|qS Aj<|qI<|qI<|qI<|qI<|qI<|qI<|qI<|qI<|qI<|qB<|qE<|qE<|qF ([],[]) λr=>.tup [Fm r.1,Fm r.2]) (J8 N)
theorem gS(N:Nat):Au Tryz.prog 20 (yD N):=by refine fk (wX x20 (Bl (Aa (LI N)<|Ae) Dt (Cq N) Du Dv)) ?_;intro dq dm dl dh dg de db da cy cu cr cq co cn ck r h _ hS F;dsimp only[x20,Ad,Aj];unfold J8 at h;obtain⟨bv,b7,jw,h⟩:=un h;replace F:=fc jw (fc b7 F);refine Jg hS F ?_;exact Ah hS F h
end
section
attribute [local irreducible] Aq BD Bv A8 Bq Ba AQ Bw By Ck
def BB(N:Nat)(a1:Int)(a2:Int)(a3:Int)(a4:Int)(a5:List (Int×Int))(a6:Int)(a7:Int)(a8:Int)(a9:Int)(bq:Int)(bp:Int)(bo:Int)(bn:Int)(bm:Int)(bl:Bool):Option Bool:=(NG N a1 a2 a3 a4 a5 a6 a7 a8 a9 bq bp bo bn bm bl).bind λam=>some am
@[go_sem] def s31(N:Nat):Spec:=p0<|(qG<|qI<|qI<|qI<|qI<|qS Aj<|qI<|qI<|qI<|qI<|qI<|qI<|qI<|qI<|qI<|qB<|qE<|qE<|qF false .b) (BB N)
theorem kL(N:Nat):Au Tryz.prog 27 (s31 N):=by refine fk (wX iX (Aa (Aa4 N)<|Ae)) ?_;intro a1 a2 a3 a4 a5 a6 a7 a8 a9 bq bp bo bn bm bl r h _ hS F;dsimp only[iX,Ad,Aj];unfold BB at h;obtain⟨am,af,h⟩:=un h;exact Ah hS (fc af F) h
def Ct(N:Nat)(aa:List (Int×Int×Int×(List (Int×Int))×Int×Int))(Zm:List (Int×Int×Int×Int×Bool))(bj:Int)(bi:Int)(bh:Int)(bg:Int)(bf:List (Int×Int))(be:Int)(bb:Int)(ba:Int)(az:Int)(ay:Int)(aw:Int)(av:Int)(au:Int)(aq:Int)(an:Bool):Option (((List (Int×Int×Int×(List (Int×Int))×Int×Int))×(List (Int×Int×Int×Int×Bool)))×Int):=(CP N aa Zm).bind λak=>bif !ak then(some (([],[]),170))else((In N aa Zm bj bi bh bg bf be bb ba az ay aw av au aq an).bind λ((aj,ai),ah)=>some ((aj,ai),ah))
@[go_sem] def s22(N:Nat):Spec:=p0<|(qG<|qD Ak<|qD Az<|qE<|qG<|qI<|qI<|qI<|qI<|qD Aj<|qI<|qI<|qI<|qI<|qI<|qI<|qI<|qI<|qI<|qB<|qE<|qE<|qF (([],[]),0) λr=>.tup [.agg [Ao r.1.1,Bj r.1.2],.i r.2]) (Ct N)
theorem Kl(N:Nat):Au Tryz.prog 9 (s22 N):=by
 refine fk (wX x9 (Aa (S6 N)<|Aa (kJ N)<|Ae)) ?_;intro aa Zm bj bi bh bg bf be bb ba az ay aw av au aq an r h _ hS F;dsimp only[x9,Ad,Aj,Az,Ak];unfold Ct at h;obtain⟨ak,ae,h⟩:=un h;replace F:=fc ae F;refine An hS F h (λ_ h=>?_) (λ_ h=>?_)
 ·exact Ah hS F h
 ·obtain⟨⟨⟨aj,ai⟩,ah⟩,ab,h⟩:=un h;exact Ah hS (fc ab F) h
end
structure LkF(hp hp':Hp):Prop where
 c:∀n j x,hl hp (.c n j)=some x->hl hp' (.c n j)=some x
 a:∀n sz live rows d,hl hp (.a n)=some (.sl sz live rows d)->hl hp' (.a n)=some (.sl sz live rows d)
structure LkG(hp:Hp)(cnt:Nat)(args:List AV):Prop where
 a:∀n o,AV.box n o∈args->n.2<=cnt
 h:∀n j x,hl hp (.c n j)=some x->n.2<=cnt
 r:∀n sz live rows d,hl hp (.a n)=some (.sl sz live rows d)->n.2<=cnt
theorem LkF.refl{hp:Hp}:LkF hp hp:=⟨λ_ _ _ h=>h,λ_ _ _ _ _ h=>h⟩
theorem LkF.pc{hp hp':Hp}{cnt:Nat}{args:List AV}(hL:LkG hp cnt args){n:Nm}{j:Nat}{x:AV}(hn:cnt<n.2)(h:LkF hp hp'):LkF hp ((.c n j,x)::hp'):=by
 refine⟨λm i y hy=>?_,λm sz live rows d hy=>?_⟩
 ·rw[hl,t7 λe=>?_]
  ·exact h.c m i y hy
  ·cases e
   have:=hL.h n j y hy;omega
 ·rw[hl,t7 λe=>by cases e];exact h.a m sz live rows d hy
theorem LkF.pa{hp hp':Hp}{cnt:Nat}{args:List AV}(hL:LkG hp cnt args){n:Nm}{x:AV}(hn:cnt<n.2)(h:LkF hp hp'):LkF hp ((.a n,x)::hp'):=by
 refine⟨λm i y hy=>?_,λm sz live rows d hy=>?_⟩
 ·rw[hl,t7 λe=>by cases e];exact h.c m i y hy
 ·rw[hl,t7 λe=>?_]
  ·exact h.a m sz live rows d hy
  ·cases e
   have:=hL.r n sz live rows d hy;omega
theorem HInv.subF{U:Cf}{hp hp':Hp}(h1:HInv U hp)(hs:LkF hp' hp):Evo U {U with ln:=lenOf hp'}/\HInv {U with ln:=lenOf hp'} hp':=by
 let Z:Cf:={U with ln:=lenOf hp'}
 have e:Evo U Z:=by
  refine⟨λ_ h=>⟨h,rfl⟩,λn _ l' hl'=>?_,λ_ _ h h'=>⟨h,h'⟩,rfl,w6 _,SameO.refl _⟩;have hl2:lenOf hp' n=some l':=hl';refine⟨l',?_,w6 _,λ_=>rfl⟩;rw[h1.ln n];unfold lenOf at hl2⊢;split at hl2
  ·rename_i sz live rows d hn;rw[hs.a _ _ _ _ _ hn];exact hl2
  ·simp at hl2
 have hown:∀p b,Owns Z hp' p b->Owns U hp p b:=by
  rintro p b (⟨g1,g2,j,c,g3⟩|⟨g1,⟨sz,rows,d,g2⟩,o,cap,g3,g4⟩)
  ·exact .inl ⟨g1,g2,j,c,hs.c _ _ _ g3⟩
  ·exact .inr ⟨g1,⟨sz,rows,d,hs.a _ _ _ _ _ g2⟩,o,cap,g3,g4⟩
 refine⟨e,λ_=>rfl,λn j c hc=>?_,λn sz live rows d hc=>?_,λp q b hp hq=>h1.inj p q b (hown p b hp) (hown q b hq),h1.lt,h1.ou,h1.dis⟩
 ·have kk:=h1.cel n j c (hs.c _ _ _ hc);exact kk.keep e kk.2.1 rfl
 ·exact(h1.arr n sz live rows d (hs.a _ _ _ _ _ hc)).keep e rfl λ_ _ _ _ _ _ hM=>⟨hM,rfl⟩
theorem lkg{U:Cf}{hp:Hp}{cnt:Nat}{args:List AV}{xs:List Value}(hI:HInv U hp)(hal:∀m,U.al m->m.2<=cnt)(hx:RepL U args xs):LkG hp cnt args:=by refine⟨λn o hm=>?_,λn j x h=>hal _ (hI.cel n j x h).1,λn sz live rows d h=>hal _ (hI.arr n sz live rows d h).1⟩;obtain⟨i,hi⟩:=List.getElem?_of_mem hm;obtain⟨y,_,hy⟩:=C1 hx i _ hi;exact hal _ hy.1
theorem KD{P:Program}{S:Tab}(hS:TabOK P S){f:Nat}(x:FnX P f){args vs:List AV}{r:AV}(hfl:BN r=true)(hn:args.length<=x.nt)(h:∀hb hp cnt,LkG hp cnt args->args.map (qv hp)=vs->Aq (Ctx.fn P S x.nt hb) x.c (Ba x.rv λr' s=>FI s.hp r'/\Km r'=true/\Gd (res s.hp r') r/\LkF hp (frz s.hp (Fl r')++s.hp)) ⟨BC 0 args,hp,cnt⟩):H7 P f args vs r:=by intro U hp xs gl hI hal hx hv;obtain⟨cnt,hal⟩:=hal;refine callsIn_wide.1 ((IO hS x.hf x.hc x.hn hn gl hI hal hx (h _ hp cnt (lkg hI hal hx) hv)).mono ?_);rintro en w' ⟨v,Z,s,r',rfl,rfl,e,g1,g2,g3,k1,k2,k3,k4⟩;obtain⟨σ1,f1,f2,f3,f4,f5,f6,f7,f8⟩:=g1.frz (Fl r');have hr:=O4 g1 f1 f3 (Fl r') f7 r' v k1 k2 (λ_ h=>h) g3;obtain⟨e2,g4⟩:=f2.subF k4;have e:=(e.trans f1).trans e2;exact⟨v,{σ1 with ln:=lenOf hp,al:=U.al},rfl,f3,⟨λn hn=>⟨hn,(e.box n hn).2⟩,e.arr,e.fro,e.out,e.sz,e.io⟩,hI.fgt g4,λm hm=>hm,Rep.ofPure (U:=σ1) (σ':={σ1 with ln:=lenOf hp,al:=U.al}) (λ_ h=>h) (λ_ _=>rfl) r v hfl ((L3 _ _ _ k3).2 hr)⟩
theorem oQ{V:Ctx}(hΓ:V.OK){rid t:Nat}{Q:AE->St->Prop}{e:Ar}{h:Hp}{c:Nat}(hQ:Q .n ⟨(t,.v (.slice none 0 0))::e,h,c+1⟩):Aq V (.reg rid [⟨some t,none,.mv (.k (.sl 0 true [] []))⟩]) Q ⟨e,h,c⟩:=by
 intro code hc U a hA;cases code with
 |region id ops' d'=>
  simp only[cCode]at hc;obtain⟨l0,hx0,⟨rfl,e0⟩|⟨_,_,_,_,e0⟩⟩:=BM hc
  ·cases e0
   have ht:t<V.nt:=by
    obtain⟨c1,c2⟩:=CM hx0;have hsz:ops'.size=1:=by simpa using c1.symm
    obtain⟨yo',g1,g2⟩:=c2 0 ops'[0] (by simp);simp at g1;subst g1;exact C9 g2 t rfl
   refine wpIn_region (M3 hΓ (i:=0) (rid:=0) hx0 rfl rfl rfl rfl trivial hA λo a1 σ1 ho hk hd hw ev hI hal hfar=>?_);obtain⟨y,hop,hy⟩:=iM hk;have hv:=V0 (a:=a1) hy.symm;unfold wpOpIn;simp only[ho,hw,if_true];refine⟨λf _=>hΓ.F.fn f,?_⟩;rw[Oper.semAt_eq _ a1.eval _ (λc e=>by rcases hop with hop|hop<;>rw[hop]at e<;>cases e)];have hr:(execOp a1.eval o).run V.P σ1.w=.ok (.value (.slice none 0 0)) σ1.w:=by rcases hop with hop|hop<;>simp[execOp,hop,hv]
   rw[hr,Oper.uponIn_value];show wpOpsIn _ _ _ _ _ [] _ _;simp only[wpOpsIn];have hdst:o.dst=some t:=hd;rw[hdst];refine⟨σ1,⟨(t,.v (.slice none 0 0))::e,h,c+1⟩,_,Eq.refl _,V.ofE ev,⟨⟨hI.h,TInv.put (d:=some t) (r:=.v (.slice none 0 0)) hI.t (λk hk=>by cases hk;rw[hI.sz];exact ht) (by simp[Rep]),by rw[Act.size_put];exact hI.sz,?_⟩,hal,V.g hA.2.2 ev λt' ht'=>.inr ?_⟩,rfl,hQ⟩
   ·rw[Act.defers_put,O9 ht];exact hI.df
   ·show lk ((t,_)::e) t'=lk e t';rw[lk,t7 (by omega)]
  ·cases e0
 |seq x y=>simp only[cCode]at hc;split at hc<;>simp at hc
 |cond c x y=>simp only[cCode]at hc;split at hc<;>simp at hc
 |rangeFunc f ps x y=>simp only[cCode]at hc;split at hc<;>simp at hc
 |_=>simp[cCode]at hc
theorem oR{rvs:List RV}{e:Ar}{h:Hp}{c:Nat}{vc:Prop}{xs:List AV}{x y:AV}{sz:Nat}{d:List AV}(h1:DK e h rvs=some (vc,xs))(h2:vc)(h3:FI h (one xs))(h4:res h (one xs)=.tup [.v (.slice none 0 0),y])(h5:x=.sl sz false [] d)(h6:BN y=true):Bq rvs (.tup [x,y]) .r ⟨e,h,c⟩:=by
 show Gb _ _ _;refine⟨vc,xs,h1,h2,h3,?_,?_⟩
 ·rw[h4,h5];intro U v hv;simp only[Rep,RepL]at hv⊢;obtain⟨zs,e1,z,zs',e2,e3,e4⟩:=hv;subst e3;exact⟨zs,e1,_,zs',e2,⟨none,0,rfl,w6 _,λh=>(by cases h),by simp,.inl trivial⟩,e4⟩
 ·rw[h5];simp[BN,AA,h6]
attribute [local irreducible] Aq BD Bv A8 Bq Ba AQ Bw By Ck
def BP(x:Int×(Int×Int×Int×(List (Int×Int))×Int×Int)×Int×Int×Int×(Int×Int×Int×Int×Bool)):List AV:=[.i x.1,.i x.2.1.1,.i x.2.1.2.1,.i x.2.1.2.2.1,BK x.2.1.2.2.2.1,.i x.2.1.2.2.2.2.1,.i x.2.1.2.2.2.2.2,.i x.2.2.1,.i x.2.2.2.1,.i x.2.2.2.2.1,.i x.2.2.2.2.2.1,.i x.2.2.2.2.2.2.1,.i x.2.2.2.2.2.2.2.1,.i x.2.2.2.2.2.2.2.2.1,.b x.2.2.2.2.2.2.2.2.2]
def Eh:List AV->Int×(Int×Int×Int×(List (Int×Int))×Int×Int)×Int×Int×Int×(Int×Int×Int×Int×Bool)|[.v (.int _ a1),.v (.int _ a2),.v (.int _ a3),.v (.int _ a4),.sl _ _ a5 _,.v (.int _ a6),.v (.int _ a7),.v (.int _ a8),.v (.int _ a9),.v (.int _ fm),.v (.int _ fj),.v (.int _ fh),.v (.int _ fg),.v (.int _ e9),.v (.bool e8)]=>(a1,(a2,a3,a4,(a5.map HS),a6,a7),a8,a9,fm,(fj,fh,fg,e9,e8))|_=>(0,(0,0,0,[],0,0),0,0,0,(0,0,0,0,false))
theorem LJ(x:Int×(Int×Int×Int×(List (Int×Int))×Int×Int)×Int×Int×Int×(Int×Int×Int×Int×Bool)):Eh (BP x)=x:=by simp only[BP,Eh,BK,Mc]
theorem LK(R:List (Int×(Int×Int×Int×(List (Int×Int))×Int×Int)×Int×Int×Int×(Int×Int×Int×Int×Bool))):(R.map BP).map Eh=R:=by
 induction R with
 |nil=>rfl
 |cons r R ih=>rw[w5,w5,ih,LJ]
def Dx:Rw (Int×(Int×Int×Int×(List (Int×Int))×Int×Int)×Int×Int×Int×(Int×Int×Int×Int×Bool)):=⟨15,BP,Eh,[.i 0,.i 0,.i 0,.i 0,.sl 0 true [] [],.i 0,.i 0,.i 0,.i 0,.i 0,.i 0,.i 0,.i 0,.i 0,.b false]⟩
def As(l:List (Int×(Int×Int×Int×(List (Int×Int))×Int×Int)×Int×Int×Int×(Int×Int×Int×Int×Bool))):AV:=.sl 15 false (l.map BP) [.i 0,.i 0,.i 0,.i 0,.sl 0 true [] [],.i 0,.i 0,.i 0,.i 0,.i 0,.i 0,.i 0,.i 0,.i 0,.b false]
def LW(l:List (Int×(Int×Int×Int×(List (Int×Int))×Int×Int)×Int×Int×Int×(Int×Int×Int×Int×Bool))):AV:=.sl 15 true (l.map BP) [.i 0,.i 0,.i 0,.i 0,.sl 0 true [] [],.i 0,.i 0,.i 0,.i 0,.i 0,.i 0,.i 0,.i 0,.i 0,.b false]
attribute [go_sem] Dx As LW BP Eh LK
def EL(N:Nat)(ba:Int)(az:Int)(ay:Int)(aw:Int)(av:List (Int×Int))(au:Int)(aq:Int)(d8:Int)(d7:Int)(d6:Int)(d5:Int)(dz:Int)(dy:Int)(dx:Int)(dw:Bool)(an:Int)(am:Int)(ak:Int)(aj:Int)(ai:List (Int×Int))(ah:Int)(af:Int)(du:Int)(dt:Int)(dq:Int)(dm:Int)(dl:Int)(dh:Int)(dg:Int)(de:Bool):Option Bool:=gd ((decide (ba=an))=true->((Eb N az ay aw av au aq am ak aj ai ah af).isSome=true))<|some ((((((decide (ba=an))&&((Eb N az ay aw av au aq am ak aj ai ah af).getD false))&&(decide (d8=du)))&&(decide (d7=dt)))&&(decide (d6=dq)))&&(decide (d5=dm)&&(decide (dz=dl)&&(decide (dy=dh)&&(decide (dx=dg)&&(dw==de))))))
@[go_sem] def s37(N:Nat):Spec:=p0<|(qG<|qI<|qI<|qI<|qI<|qS Aj<|qI<|qI<|qI<|qI<|qI<|qI<|qI<|qI<|qI<|qB<|qE<|qG<|qI<|qI<|qI<|qI<|qS Aj<|qI<|qI<|qI<|qI<|qI<|qI<|qI<|qI<|qI<|qB<|qE<|qE<|qF false .b) (EL N)
theorem jJ(N:Nat):Au Tryz.prog 25 (s37 N):=by refine fk (wX YP (Aa (XD N)<|Ae)) ?_;intro ba az ay aw av au aq d8 d7 d6 d5 dz dy dx dw an am ak aj ai ah af du dt dq dm dl dh dg de r h _ hS F;dsimp only[YP,Ad,Aj];unfold EL at h;obtain⟨fp,h⟩:=un h;exact Ah hS F h
def EO(N:Nat)(a3589:List (Int×(Int×Int×Int×(List (Int×Int))×Int×Int)×Int×Int×Int×(Int×Int×Int×Int×Bool)))(b3590:List (Int×(Int×Int×Int×(List (Int×Int))×Int×Int)×Int×Int×Int×(Int×Int×Int×Int×Bool))):Nat->Int->Option (Sum Unit Bool)|0,_=>none|n+1,aa=>bif decide (aa<(a3589.length:Int))then((Bz a3589 aa).bind λ(cy,(cu,cr,cq,co,cn,ck),cj,ci,ce,(b9,b7,bz,bw,bv))=>(Bz b3590 aa).bind λ(bu,(br,bq,bp,bo,bn,bm),bl,bj,bi,(bh,bg,bf,be,bb))=>(EL N cy cu cr cq co cn ck cj ci ce b9 b7 bz bw bv bu br bq bp bo bn bm bl bj bi bh bg bf be bb).bind λda=>bif !da then(some (.inr false))else(gd (Ai (aa+1))<|EO N a3589 b3590 n (aa+1)))else(some (.inl ()))
def GK(N:Nat)(a3589:List (Int×(Int×Int×Int×(List (Int×Int))×Int×Int)×Int×Int×Int×(Int×Int×Int×Int×Bool)))(b3590:List (Int×(Int×Int×Int×(List (Int×Int))×Int×Int)×Int×Int×Int×(Int×Int×Int×Int×Bool))):Option Bool:=bif decide ((a3589.length:Int)≠(b3590.length:Int))then(some false)else((EO N a3589 b3590 N 0).bind λae=>match ae with|.inl ()=>(some true)|.inr ej=>(some ej))
@[go_sem] def s26(N:Nat):Spec:=p0<|(qD Dx<|qD Dx<|qE<|qF false .b) (GK N)
theorem AaV(N:Nat):Au Tryz.prog 24 (s26 N):=by
 refine fk (wX T7 (Aa (jJ N)<|Ae)) ?_;intro a3589 b3590 r h _ hS F;dsimp only[T7,Ad,Dx];unfold GK at h;refine An hS F h (λ_ h=>?_) (λ_ h=>?_)
 ·exact Ah hS F h
 ·obtain⟨ae,ez,h⟩:=un h;refine go hS F ?_;refine BU ae (λz:Nat=>⟨[],[],z⟩) (λz=>(.inl ():Sum Unit Bool)) (.x 0) ?_ ?_
  ·refine BO (λn (y:Int×Nat)=>EO N a3589 b3590 n y.1) (λy=>⟨[(0,As a3589),(1,As b3590),(5,.i y.1)],[],y.2⟩) (0,3) ez (CB F) ?_;rintro n ⟨aa,db⟩ ab;simp only[EO]at ab;refine An hS F ab (λ_ ab=>?_) (λ_ ab=>?_)
   ·obtain⟨⟨cy,⟨cu,cr,cq,co,cn,ck⟩,cj,ci,ce,⟨b9,b7,bz,bw,bv⟩⟩,eh,ab⟩:=un ab;obtain⟨ep,F⟩:=CH BP eh F;obtain⟨⟨bu,⟨br,bq,bp,bo,bn,bm⟩,bl,bj,bi,⟨bh,bg,bf,be,bb⟩⟩,ee,ab⟩:=un ab;obtain⟨el,F⟩:=CH BP ee F;obtain⟨da,d9,ab⟩:=un ab;replace F:=fc d9 F;refine An hS F ab (λ_ ab=>?_) (λ_ ab=>?_)
    ·obtain rfl:=yJ ab;exact Ah hS F h
    ·obtain⟨fo,ab⟩:=un ab;exact CS hS F (n,aa+1,db+1+1+1) ab
   ·exact Cu hS F (db+1) ab
  ·rintro eu rfl;exact Ah hS F h
