import Derived.Test.YtjdchfljifacoaaGreatS7
set_option linter.all false
set_option maxRecDepth 100000
set_option maxHeartbeats 8000000
namespace Go.Proofs.YtjdchfljifacoaaGreat.Am
open Go
section
attribute [local irreducible] Ax BO BB Bj BC Bk AY BD BK Cq
attribute [local irreducible] E3
attribute [local go_sem] kF Nj JT JU qU yU oI qv K2 List.map_replicate List.map_set
def Kz(N:Nat)(aa:List (Int×Int×Int×(List (Int×Int))×Int×Int))(from2:List (Int×Int×Int×Int×Bool))(a3:Int)(a4:Int)(a5:Int)(a6:Int)(a7:List (Int×Int))(a8:Int)(a9:Int)(am:Int)(ak:Int)(aj:Int)(ai:Int)(ah:Int)(af:Int)(ae:Int)(ab:Bool):Option (((List (Int×Int×Int×(List (Int×Int))×Int×Int))×(List (Int×Int×Int×Int×Bool)))×Int):=(Fr N a3 a4 a5 a6 a7 a8 a9 am ak aj ai ah af ae ab).bind λaq=>gd (aq=false)<|some (([],[]),170)
@[go_sem] def AaS(N:Nat):Spec:=p0<|pG<|pD Ak λaa=>pD AA λfrom2=>pE<|pG<|pI λa3=>pI λa4=>pI λa5=>pI λa6=>pD Aq λa7=>pI λa8=>pI λa9=>pI λam=>pI λak=>pI λaj=>pI λai=>pI λah=>pI λaf=>pI λae=>pB λab=>pE<|pE<|pF (Kz N aa from2 a3 a4 a5 a6 a7 a8 a9 am ak aj ai ah af ae ab) (([],[]),0) λr=>.tup [.agg [Ap r.1.1,AS r.1.2],.i r.2]
theorem lO(N:Nat):AG Tryz.prog 57 (AaS N):=by
 refine Ar x57.ok<|Aw<|AM λaa=>AM λfrom2=>Ad<|Aw<|Aa λa3=>Aa λa4=>Aa λa5=>Aa λa6=>AM λa7=>Aa λa8=>Aa λa9=>Aa λam=>Aa λak=>Aa λaj=>Aa λai=>Aa λah=>Aa λaf=>Aa λae=>AX λab=>Ad<|Ad<|As λr h=>SI x57 (BG (Ab (Ns N)<|Aj) (L3 N) (CP N) H3 (H2 N)) λhb hS F=>?_
 dsimp only[x57,Ah,Aq,AA,Ak];have hOK:=Ctx.fd_ok (nt:=38) (hb:=hb) hS;unfold Kz at h;obtain⟨aq,an,au,h⟩:=un h;replace F:=fc au (fc an F);refine Om hS F ?_;exact Ug hS F h
end
section
attribute [local irreducible] Ax BO BB Bj BC Bk AY BD BK Cq
def JW(N:Nat)(aa:List Un)(from2:List Mk)(a3:Int)(a4:Int)(a5:Int)(a6:Int)(a7:List (Int×Int))(a8:Int)(a9:Int)(am:Int)(ak:Int)(aj:Int)(ai:Int)(ah:Int)(af:Int)(ae:Int)(ab:Bool):Option ((List Un×List Mk)×Int):=if a3=1 then IU N aa from2 a4 a5 a6 a7 a8 a9 am ak aj ai ah af ae ab else if a3=2 then IV N aa from2 a4 a5 a6 a7 a8 a9 am ak aj ai ah af ae ab else if a3=3 then IW N aa from2 a4 a5 a6 a7 a8 a9 am ak aj ai ah af ae ab else if a3=4 then IX N aa from2 a4 a5 a6 a7 a8 a9 am ak aj ai ah af ae ab else if a3=5 then IY N aa from2 a4 a5 a6 a7 a8 a9 am ak aj ai ah af ae ab else if a3=6 then IZ N aa from2 a4 a5 a6 a7 a8 a9 am ak aj ai ah af ae ab else if a3=7 then I0 N aa from2 a4 a5 a6 a7 a8 a9 am ak aj ai ah af ae ab else Kz N aa from2 a3 a4 a5 a6 a7 a8 a9 am ak aj ai ah af ae ab
@[go_sem] def s57(N:Nat):Spec:=p0<|pG<|pD Ak λaa=>pD AA λfrom2=>pE<|pG<|pI λa3=>pI λa4=>pI λa5=>pI λa6=>pD Aq λa7=>pI λa8=>pI λa9=>pI λam=>pI λak=>pI λaj=>pI λai=>pI λah=>pI λaf=>pI λae=>pB λab=>pE<|pE<|pF (JW N aa from2 a3 a4 a5 a6 a7 a8 a9 am ak aj ai ah af ae ab) (([],[]),0) λr=>.tup [.agg [Ap r.1.1,AS r.1.2],.i r.2]
theorem Bv{P:Program}{f:Nat}{s:Spec}{args:List AV}{vc:Prop}{r:AV}(φ:AG P f s)(hs:s args=some (vc,r))(hv:vc):PCall P f args r:=φ.2 _ _ _ hs hv
theorem pW(N:Nat):AG Tryz.prog 57 (s57 N):=by
 refine Ar x57.ok<|Aw<|AM λaa=>AM λfrom2=>Ad<|Aw<|Aa λa3=>Aa λa4=>Aa λa5=>Aa λa6=>AM λa7=>Aa λa8=>Aa λa9=>Aa λam=>Aa λak=>Aa λaj=>Aa λai=>Aa λah=>Aa λaf=>Aa λae=>AX λab=>Ad<|Ad<|As λr h=>?_
 dsimp only[Aq,AA,Ak];unfold JW at h;split at h
 ·rename_i e;subst e;exact Bv (lF N) (by simp only[go_sem,seval,h]<;>eq_refl) (by simp only[go_sem,seval,h])
 split at h
 ·rename_i e;subst e;exact Bv (lG N) (by simp only[go_sem,seval,h]<;>eq_refl) (by simp only[go_sem,seval,h])
 split at h
 ·rename_i e;subst e;exact Bv (lH N) (by simp only[go_sem,seval,h]<;>eq_refl) (by simp only[go_sem,seval,h])
 split at h
 ·rename_i e;subst e;exact Bv (lI N) (by simp only[go_sem,seval,h]<;>eq_refl) (by simp only[go_sem,seval,h])
 split at h
 ·rename_i e;subst e;exact Bv (lJ N) (by simp only[go_sem,seval,h]<;>eq_refl) (by simp only[go_sem,seval,h])
 split at h
 ·rename_i e;subst e;exact Bv (lK N) (by simp only[go_sem,seval,h]<;>eq_refl) (by simp only[go_sem,seval,h])
 split at h
 ·rename_i e;subst e;exact Bv (lN N) (by simp only[go_sem,seval,h]<;>eq_refl) (by simp only[go_sem,seval,h])
 exact Bv (lO N) (by simp only[go_sem,seval,h]<;>eq_refl) (by simp only[go_sem,seval,h])
end
section
attribute [local irreducible] Ax BO BB Bj BC Bk AY BD BK Cq
attribute [local go_sem] Nj
def Fh(N:Nat)(s1:List (Int×Int×Int×(List (Int×Int))×Int×Int))(s2:List (Int×Int×Int×Int×Bool)):Option ((List (Int×Int×Int×(List (Int×Int))×Int×Int))×(List (Int×Int×Int×Int×Bool))):=gd (s2.length*40<=140737488355328)<|(EC N s1 N 0 []).bind λl41=>some (l41,s2)
@[go_sem] def YV(N:Nat):Spec:=p0<|pG<|pD Ak λs1=>pD AA λs2=>pE<|pE<|pF (Fh N s1 s2) ([],[]) λr=>.agg [Ap r.1,AS r.2]
theorem QZ(N:Nat):AG Tryz.prog 56 (YV N):=by
 refine Ar x56.ok<|Aw<|AM λs1=>AM λs2=>Ad<|Ad<|As λr h=>wx x56 (BG (Ab (UZ N)<|Aj) DX (Wt) DY DZ) λ_ hS F=>?_
 dsimp only[x56,Ah,AA,Ak];unfold Fh at h;obtain⟨bf,h⟩:=un h;refine go hS F ?_;refine Fc 1000001 (104,2) 0 6 [.i 0,.i 0,.i 0,.sl 0 true [] [],.i 0,.i 0] (by omega) (ev F) ?_;obtain⟨ay,ba,h⟩:=un h;refine go hS F ?_;refine Bz ay (λz:(List (Int×Int×Int×(List (Int×Int))×Int×Int))×Nat=>⟨[(2,.box (1,1) 0),(3,.box (104,2) 0)],[(.c (104,2) 0,.own (1000001,4) z.1.length),(.c (104,2) 1,.own (102,2) s2.length),(.a (102,2),EH s2),(.a (1000001,4),B7 z.1),(.c (1,1) 0,.sl 0 true [] []),(.c (1,1) 1,.sl 0 true [] [])],z.2⟩) (λz=>(z.1:(List (Int×Int×Int×(List (Int×Int))×Int×Int)))) (.x 0) ?_ ?_
 ·refine Bp (λn (y:Int×(List (Int×Int×Int×(List (Int×Int))×Int×Int))×Nat)=>EC N s1 n y.1 y.2.1) (λy=>⟨[(2,.box (1,1) 0),(3,.box (104,2) 0),(12,Ap s1),(13,.i (s1.length:Int)),(14,.i y.1)],[(.c (104,2) 0,.own (1000001,4) y.2.1.length),(.c (104,2) 1,.own (102,2) s2.length),(.a (102,2),EH s2),(.a (1000001,4),B7 y.2.1),(.c (1,1) 0,.sl 0 true [] []),(.c (1,1) 1,.sl 0 true [] [])],y.2.2⟩) (0,[],4) ba (Ch F) ?_;rintro n ⟨x26,au,av⟩ am;simp only[EC]at am;refine An hS F am (λ_ am=>?_) (λ_ am=>?_)
  ·obtain⟨⟨gD,x29,T1,x31,x32,x33⟩,aq,am⟩:=un am;obtain⟨az,F⟩:=Cb Au aq F;obtain⟨aw,an,be,bb,am⟩:=un am;exact Cd hS (fc an F) (n,x26+1,au++[(gD,x29,T1,aw,x32,x33)],av+1+1+1+1+1) am
  ·exact B4 hS F (au,av+1) am
 ·rintro⟨l41,bg⟩ rfl;exact Ai hS F h
theorem PCall.wk'{P:Program}{f:Nat}{args:List AV}{r r':AV}(h:PCall P f args r)(hw:Wk r r')(hp:B2 r'=true):PCall P f args r':=λU vs a b c d=>(h U vs a b c d).mono λ_ _ ⟨v,e1,e2,e3,_,e5⟩=>⟨v,e1,e2,e3,hp,hw _ _ e5⟩
theorem Uw{a b c d e x:AV}:Wk (.tup [.agg [a,b,c,d,e],x]) (.tup [.agg [.un,.un,.un,.un,.un],x]):=by intro U v h;simp only[Rep,RepL]at h⊢;obtain⟨xs,e1,y,ys,e2,⟨zs,f1,f2,_,_,rfl,_,_,_,rfl,_,_,_,rfl,_,_,_,rfl,_,_,_,rfl,_,rfl⟩,e4⟩:=h;exact⟨xs,e1,y,ys,e2,⟨_,f1,f2,_,_,rfl,trivial,_,_,rfl,trivial,_,_,rfl,trivial,_,_,rfl,trivial,_,_,rfl,trivial,rfl⟩,e4⟩
def Lq(N:Nat)(a3:Int)(a4:Int)(a5:Int)(a6:Int)(a7:List (Int×Int))(a8:Int)(a9:Int)(ak:Int)(aj:Int)(ai:Int)(ah:Int)(af:Int)(ae:Int)(ab:Int)(aa:Bool):Option Bool:=if a3=1 then Fj N a4 a5 a6 a7 a8 a9 ak aj ai ah af ae ab aa else if a3=2 then Fk N a4 a5 a6 a7 a8 a9 ak aj ai ah af ae ab aa else if a3=3 then Fl N a4 a5 a6 a7 a8 a9 ak aj ai ah af ae ab aa else if a3=4 then Fm N a4 a5 a6 a7 a8 a9 ak aj ai ah af ae ab aa else if a3=5 then Fo N a4 a5 a6 a7 a8 a9 ak aj ai ah af ae ab aa else if a3=6 then Fp N a4 a5 a6 a7 a8 a9 ak aj ai ah af ae ab aa else if a3=7 then Fq N a4 a5 a6 a7 a8 a9 ak aj ai ah af ae ab aa else Fr N a3 a4 a5 a6 a7 a8 a9 ak aj ai ah af ae ab aa
@[go_sem] def s64(N:Nat):Spec:=p0<|pG<|pI λa3=>pI λa4=>pI λa5=>pI λa6=>pS Aq λa7=>pI λa8=>pI λa9=>pI λak=>pI λaj=>pI λai=>pI λah=>pI λaf=>pI λae=>pI λab=>pB λaa=>pE<|pE<|pF (Lq N a3 a4 a5 a6 a7 a8 a9 ak aj ai ah af ae ab aa) false λr=>.tup [.agg [.un,.un,.un,.un,.un],.b r]
theorem AcM(N:Nat):AG Tryz.prog 64 (s64 N):=by
 refine Ar x64.ok<|Aw<|Aa λa3=>Aa λa4=>Aa λa5=>Aa λa6=>AF λa7=>Aa λa8=>Aa λa9=>Aa λak=>Aa λaj=>Aa λai=>Aa λah=>Aa λaf=>Aa λae=>Aa λab=>AX λaa=>Ad<|Ad<|As λr h=>?_
 dsimp only[Aq];unfold Lq at h;split at h
 ·rename_i e;subst e;exact(Bv (Nk N) (by simp only[go_sem,seval,h]<;>eq_refl) (by simp only[go_sem,seval,h])).wk' Uw rfl
 split at h
 ·rename_i e;subst e;exact(Bv (Nl N) (by simp only[go_sem,seval,h]<;>eq_refl) (by simp only[go_sem,seval,h])).wk' Uw rfl
 split at h
 ·rename_i e;subst e;exact(Bv (Nn N) (by simp only[go_sem,seval,h]<;>eq_refl) (by simp only[go_sem,seval,h])).wk' Uw rfl
 split at h
 ·rename_i e;subst e;exact(Bv (No N) (by simp only[go_sem,seval,h]<;>eq_refl) (by simp only[go_sem,seval,h])).wk' Uw rfl
 split at h
 ·rename_i e;subst e;exact(Bv (Np N) (by simp only[go_sem,seval,h]<;>eq_refl) (by simp only[go_sem,seval,h])).wk' Uw rfl
 split at h
 ·rename_i e;subst e;exact(Bv (Nq N) (by simp only[go_sem,seval,h]<;>eq_refl) (by simp only[go_sem,seval,h])).wk' Uw rfl
 split at h
 ·rename_i e;subst e;exact(Bv (Nr N) (by simp only[go_sem,seval,h]<;>eq_refl) (by simp only[go_sem,seval,h])).wk' Uw rfl
 exact(Bv (Ns N) (by simp only[go_sem,seval,h]<;>eq_refl) (by simp only[go_sem,seval,h])).wk' Uw rfl
end
section
attribute [local irreducible] Ax BO BB Bj BC Bk AY BD BK Cq
def JX(N:Nat)(a2:Int)(a3:Int)(a4:Int)(a5:List (Int×Int))(a6:Int)(a7:Int)(a8:Int)(a9:Int)(jc:Int)(jb:Int)(ja:Int)(i9:Int)(i8:Int)(i7:Bool):Option ((List Int)×(List Int)):=(Fj N a2 a3 a4 a5 a6 a7 a8 a9 jc jb ja i9 i8 i7).bind λj4=>bif !j4 then(some ([],[]))else((Kt N 1 a2 a3 a4 a5 a6 a7 a8 a9 jc jb ja i9 i8 i7).bind λ(jv,ju)=>some (jv,ju))
@[go_sem] def Aa1(N:Nat):Spec:=p0<|pG<|pC 1<|pI λa2=>pI λa3=>pI λa4=>pS Aq λa5=>pI λa6=>pI λa7=>pI λa8=>pI λa9=>pI λjc=>pI λjb=>pI λja=>pI λi9=>pI λi8=>pB λi7=>pE<|pE<|pF (JX N a2 a3 a4 a5 a6 a7 a8 a9 jc jb ja i9 i8 i7) ([],[]) λr=>.tup [FW r.1,FW r.2]
theorem lX(N:Nat):AG Tryz.prog 27 (Aa1 N):=by
 refine Ar x27.ok<|Aw<|Dn<|Aa λa2=>Aa λa3=>Aa λa4=>AF λa5=>Aa λa6=>Aa λa7=>Aa λa8=>Aa λa9=>Aa λjc=>Aa λjb=>Aa λja=>Aa λi9=>Aa λi8=>AX λi7=>Ad<|Ad<|As λr h=>wx x27 (BG (Ab (Nk N)<|Ab (zC N)<|Aj) DX (CP N) DY DZ) λ_ hS F=>?_
 dsimp only[x27,Ah,Aq];unfold JX at h;obtain⟨j4,jm,h⟩:=un h;replace F:=fc jm F;refine An hS F h (λ_ h=>?_) (λ_ h=>?_)
 ·exact Ai hS F h
 ·obtain⟨⟨jv,ju⟩,jl,h⟩:=un h;exact Ai hS (fc jl F) h
def JY(N:Nat)(i6:Int)(i5:Int)(i4:Int)(iz:List (Int×Int))(iy:Int)(iw:Int)(iv:Int)(ir:Int)(iq:Int)(ip:Int)(im:Int)(ij:Int)(ii:Int)(ig:Bool):Option ((List Int)×(List Int)):=(Fk N i6 i5 i4 iz iy iw iv ir iq ip im ij ii ig).bind λjz=>bif !jz then(some ([],[]))else((Kv N 2 i6 i5 i4 iz iy iw iv ir iq ip im ij ii ig).bind λ(jt,js)=>some (jt,js))
@[go_sem] def Aa2(N:Nat):Spec:=p0<|pG<|pC 2<|pI λi6=>pI λi5=>pI λi4=>pS Aq λiz=>pI λiy=>pI λiw=>pI λiv=>pI λir=>pI λiq=>pI λip=>pI λim=>pI λij=>pI λii=>pB λig=>pE<|pE<|pF (JY N i6 i5 i4 iz iy iw iv ir iq ip im ij ii ig) ([],[]) λr=>.tup [FW r.1,FW r.2]
theorem lY(N:Nat):AG Tryz.prog 27 (Aa2 N):=by
 refine Ar x27.ok<|Aw<|Dn<|Aa λi6=>Aa λi5=>Aa λi4=>AF λiz=>Aa λiy=>Aa λiw=>Aa λiv=>Aa λir=>Aa λiq=>Aa λip=>Aa λim=>Aa λij=>Aa λii=>AX λig=>Ad<|Ad<|As λr h=>wx x27 (BG (Ab (Nl N)<|Ab (zE N)<|Aj) DX (CP N) DY DZ) λ_ hS F=>?_
 dsimp only[x27,Ah,Aq];unfold JY at h;obtain⟨jz,jk,h⟩:=un h;replace F:=fc jk F;refine An hS F h (λ_ h=>?_) (λ_ h=>?_)
 ·exact Ai hS F h
 ·obtain⟨⟨jt,js⟩,jj,h⟩:=un h;exact Ai hS (fc jj F) h
def JZ(N:Nat)(ic:Int)(ib:Int)(g9:Int)(g8:List (Int×Int))(gz:Int)(gy:Int)(gx:Int)(gw:Int)(gv:Int)(gu:Int)(gt:Int)(gr:Int)(gm:Int)(gj:Bool):Option ((List Int)×(List Int)):=(Fl N ic ib g9 g8 gz gy gx gw gv gu gt gr gm gj).bind λjy=>bif !jy then(some ([],[]))else((JQ N 3 ic ib g9 g8 gz gy gx gw gv gu gt gr gm gj).bind λ(jr,r59)=>some (jr,r59))
@[go_sem] def Aa3(N:Nat):Spec:=p0<|pG<|pC 3<|pI λic=>pI λib=>pI λg9=>pS Aq λg8=>pI λgz=>pI λgy=>pI λgx=>pI λgw=>pI λgv=>pI λgu=>pI λgt=>pI λgr=>pI λgm=>pB λgj=>pE<|pE<|pF (JZ N ic ib g9 g8 gz gy gx gw gv gu gt gr gm gj) ([],[]) λr=>.tup [FW r.1,FW r.2]
theorem lZ(N:Nat):AG Tryz.prog 27 (Aa3 N):=by
 refine Ar x27.ok<|Aw<|Dn<|Aa λic=>Aa λib=>Aa λg9=>AF λg8=>Aa λgz=>Aa λgy=>Aa λgx=>Aa λgw=>Aa λgv=>Aa λgu=>Aa λgt=>Aa λgr=>Aa λgm=>AX λgj=>Ad<|Ad<|As λr h=>wx x27 (BG (Ab (Nn N)<|Ab (zG N)<|Aj) DX (CP N) DY DZ) λ_ hS F=>?_
 dsimp only[x27,Ah,Aq];unfold JZ at h;obtain⟨jy,ji,h⟩:=un h;replace F:=fc ji F;refine An hS F h (λ_ h=>?_) (λ_ h=>?_)
 ·exact Ai hS F h
 ·obtain⟨⟨jr,r59⟩,jh,h⟩:=un h;exact Ai hS (fc jh F) h
def J0(N:Nat)(gi:Int)(gh:Int)(gg:Int)(gc:List (Int×Int))(fr:Int)(fq:Int)(fp:Int)(fo:Int)(fj:Int)(fh:Int)(fg:Int)(e9:Int)(e8:Int)(ez:Bool):Option ((List Int)×(List Int)):=(Fm N gi gh gg gc fr fq fp fo fj fh fg e9 e8 ez).bind λjx=>bif !jx then(some ([],[]))else((JS N 4 gi gh gg gc fr fq fp fo fj fh fg e9 e8 ez).bind λ(jq,jp)=>some (jq,jp))
@[go_sem] def Aa4(N:Nat):Spec:=p0<|pG<|pC 4<|pI λgi=>pI λgh=>pI λgg=>pS Aq λgc=>pI λfr=>pI λfq=>pI λfp=>pI λfo=>pI λfj=>pI λfh=>pI λfg=>pI λe9=>pI λe8=>pB λez=>pE<|pE<|pF (J0 N gi gh gg gc fr fq fp fo fj fh fg e9 e8 ez) ([],[]) λr=>.tup [FW r.1,FW r.2]
theorem mA(N:Nat):AG Tryz.prog 27 (Aa4 N):=by
 refine Ar x27.ok<|Aw<|Dn<|Aa λgi=>Aa λgh=>Aa λgg=>AF λgc=>Aa λfr=>Aa λfq=>Aa λfp=>Aa λfo=>Aa λfj=>Aa λfh=>Aa λfg=>Aa λe9=>Aa λe8=>AX λez=>Ad<|Ad<|As λr h=>wx x27 (BG (Ab (No N)<|Ab (zI N)<|Aj) DX (CP N) DY DZ) λ_ hS F=>?_
 dsimp only[x27,Ah,Aq];unfold J0 at h;obtain⟨jx,jg,h⟩:=un h;replace F:=fc jg F;refine An hS F h (λ_ h=>?_) (λ_ h=>?_)
 ·exact Ai hS F h
 ·obtain⟨⟨jq,jp⟩,jf,h⟩:=un h;exact Ai hS (fc jf F) h
def J1(N:Nat)(eu:Int)(ej:Int)(ei:Int)(eh:List (Int×Int))(ee:Int)(d9:Int)(d8:Int)(d7:Int)(d6:Int)(d5:Int)(dz:Int)(dw:Int)(du:Int)(dt:Bool):Option ((List Int)×(List Int)):=(Fo N eu ej ei eh ee d9 d8 d7 d6 d5 dz dw du dt).bind λjw=>bif !jw then(some ([],[]))else((Kx N 5 eu ej ei eh ee d9 d8 d7 d6 d5 dz dw du dt).bind λ(jo,jn)=>some (jo,jn))
@[go_sem] def Aa5(N:Nat):Spec:=p0<|pG<|pC 5<|pI λeu=>pI λej=>pI λei=>pS Aq λeh=>pI λee=>pI λd9=>pI λd8=>pI λd7=>pI λd6=>pI λd5=>pI λdz=>pI λdw=>pI λdu=>pB λdt=>pE<|pE<|pF (J1 N eu ej ei eh ee d9 d8 d7 d6 d5 dz dw du dt) ([],[]) λr=>.tup [FW r.1,FW r.2]
theorem mB(N:Nat):AG Tryz.prog 27 (Aa5 N):=by
 refine Ar x27.ok<|Aw<|Dn<|Aa λeu=>Aa λej=>Aa λei=>AF λeh=>Aa λee=>Aa λd9=>Aa λd8=>Aa λd7=>Aa λd6=>Aa λd5=>Aa λdz=>Aa λdw=>Aa λdu=>AX λdt=>Ad<|Ad<|As λr h=>wx x27 (BG (Ab (Np N)<|Ab (zK N)<|Aj) DX (CP N) DY DZ) λ_ hS F=>?_
 dsimp only[x27,Ah,Aq];unfold J1 at h;obtain⟨jw,je,h⟩:=un h;replace F:=fc je F;refine An hS F h (λ_ h=>?_) (λ_ h=>?_)
 ·exact Ai hS F h
 ·obtain⟨⟨jo,jn⟩,jd,h⟩:=un h;exact Ai hS (fc jd F) h
def J2(N:Nat)(bo:Int)(bn:Int)(bm:Int)(bl:List (Int×Int))(bj:Int)(bi:Int)(bh:Int)(bg:Int)(bf:Int)(be:Int)(bb:Int)(ba:Int)(az:Int)(ay:Bool):Option ((List Int)×(List Int)):=(Fp N bo bn bm bl bj bi bh bg bf be bb ba az ay).bind λde=>bif !de then(some ([],[]))else((HJ N 6 bo bn bm bl bj bi bh bg bf be bb ba az ay).bind λ(cy,cu)=>some (cy,cu))
@[go_sem] def Aa6(N:Nat):Spec:=p0<|pG<|pC 6<|pI λbo=>pI λbn=>pI λbm=>pS Aq λbl=>pI λbj=>pI λbi=>pI λbh=>pI λbg=>pI λbf=>pI λbe=>pI λbb=>pI λba=>pI λaz=>pB λay=>pE<|pE<|pF (J2 N bo bn bm bl bj bi bh bg bf be bb ba az ay) ([],[]) λr=>.tup [FW r.1,FW r.2]
theorem mC(N:Nat):AG Tryz.prog 27 (Aa6 N):=by
 refine Ar x27.ok<|Aw<|Dn<|Aa λbo=>Aa λbn=>Aa λbm=>AF λbl=>Aa λbj=>Aa λbi=>Aa λbh=>Aa λbg=>Aa λbf=>Aa λbe=>Aa λbb=>Aa λba=>Aa λaz=>AX λay=>Ad<|Ad<|As λr h=>wx x27 (BG (Ab (Nq N)<|Ab (dD N)<|Aj) DX (CP N) DY DZ) λ_ hS F=>?_
 dsimp only[x27,Ah,Aq];unfold J2 at h;obtain⟨de,dq,h⟩:=un h;replace F:=fc dq F;refine An hS F h (λ_ h=>?_) (λ_ h=>?_)
 ·exact Ai hS F h
 ·obtain⟨⟨cy,cu⟩,dm,h⟩:=un h;exact Ai hS (fc dm F) h
def J3(N:Nat)(aw:Int)(av:Int)(au:Int)(aq:List (Int×Int))(an:Int)(am:Int)(ak:Int)(aj:Int)(ai:Int)(ah:Int)(af:Int)(ae:Int)(ab:Int)(aa:Bool):Option ((List Int)×(List Int)):=(Fq N aw av au aq an am ak aj ai ah af ae ab aa).bind λdb=>bif !db then(some ([],[]))else((HJ N 7 aw av au aq an am ak aj ai ah af ae ab aa).bind λ(cr,cq)=>some (cr,cq))
@[go_sem] def Aa7(N:Nat):Spec:=p0<|pG<|pC 7<|pI λaw=>pI λav=>pI λau=>pS Aq λaq=>pI λan=>pI λam=>pI λak=>pI λaj=>pI λai=>pI λah=>pI λaf=>pI λae=>pI λab=>pB λaa=>pE<|pE<|pF (J3 N aw av au aq an am ak aj ai ah af ae ab aa) ([],[]) λr=>.tup [FW r.1,FW r.2]
theorem mD(N:Nat):AG Tryz.prog 27 (Aa7 N):=by
 refine Ar x27.ok<|Aw<|Dn<|Aa λaw=>Aa λav=>Aa λau=>AF λaq=>Aa λan=>Aa λam=>Aa λak=>Aa λaj=>Aa λai=>Aa λah=>Aa λaf=>Aa λae=>Aa λab=>AX λaa=>Ad<|Ad<|As λr h=>wx x27 (BG (Ab (Nr N)<|Ab (dD N)<|Aj) DX (CP N) DY DZ) λ_ hS F=>?_
 dsimp only[x27,Ah,Aq];unfold J3 at h;obtain⟨db,dl,h⟩:=un h;replace F:=fc dl F;refine An hS F h (λ_ h=>?_) (λ_ h=>?_)
 ·exact Ai hS F h
 ·obtain⟨⟨cr,cq⟩,dh,h⟩:=un h;exact Ai hS (fc dh F) h
def J4(N:Nat)(co:Int)(cn:Int)(ck:Int)(cj:Int)(ci:List (Int×Int))(ce:Int)(b9:Int)(b7:Int)(bz:Int)(bw:Int)(bv:Int)(bu:Int)(br:Int)(bq:Int)(bp:Bool):Option ((List Int)×(List Int)):=(Fr N co cn ck cj ci ce b9 b7 bz bw bv bu br bq bp).bind λda=>gd (da=false)<|some ([],[])
@[go_sem] def Aa8(N:Nat):Spec:=p0<|pG<|pI λco=>pI λcn=>pI λck=>pI λcj=>pS Aq λci=>pI λce=>pI λb9=>pI λb7=>pI λbz=>pI λbw=>pI λbv=>pI λbu=>pI λbr=>pI λbq=>pB λbp=>pE<|pE<|pF (J4 N co cn ck cj ci ce b9 b7 bz bw bv bu br bq bp) ([],[]) λr=>.tup [FW r.1,FW r.2]
theorem mF(N:Nat):AG Tryz.prog 27 (Aa8 N):=by
 refine Ar x27.ok<|Aw<|Aa λco=>Aa λcn=>Aa λck=>Aa λcj=>AF λci=>Aa λce=>Aa λb9=>Aa λb7=>Aa λbz=>Aa λbw=>Aa λbv=>Aa λbu=>Aa λbr=>Aa λbq=>AX λbp=>Ad<|Ad<|As λr h=>wx x27 (BG (Ab (Ns N)<|Aj) DX (CP N) DY DZ) λ_ hS F=>?_
 dsimp only[x27,Ah,Aq];unfold J4 at h;obtain⟨da,dg,j5,h⟩:=un h;replace F:=fc j5 (fc dg F);refine Om hS F ?_;exact Ai hS F h
end
section
attribute [local irreducible] Ax BO BB Bj BC Bk AY BD BK Cq
def BF(N:Nat)(a1:Int)(a2:Int)(a3:Int)(a4:Int)(a5:List (Int×Int))(a6:Int)(a7:Int)(a8:Int)(a9:Int)(bg:Int)(bf:Int)(be:Int)(bb:Int)(ba:Int)(az:Bool):Option Bool:=(Lq N a1 a2 a3 a4 a5 a6 a7 a8 a9 bg bf be bb ba az).bind λbp=>some bp
@[go_sem] def s31(N:Nat):Spec:=p0<|pG<|pI λa1=>pI λa2=>pI λa3=>pI λa4=>pS Aq λa5=>pI λa6=>pI λa7=>pI λa8=>pI λa9=>pI λbg=>pI λbf=>pI λbe=>pI λbb=>pI λba=>pB λaz=>pE<|pE<|pF (BF N a1 a2 a3 a4 a5 a6 a7 a8 a9 bg bf be bb ba az) false λr=>.b r
theorem pX(N:Nat):AG Tryz.prog 31 (s31 N):=by
 refine Ar x31.ok<|Aw<|Aa λa1=>Aa λa2=>Aa λa3=>Aa λa4=>AF λa5=>Aa λa6=>Aa λa7=>Aa λa8=>Aa λa9=>Aa λbg=>Aa λbf=>Aa λbe=>Aa λbb=>Aa λba=>AX λaz=>Ad<|Ad<|As λr h=>wx x31 (Ab (AcM N)<|Aj) λ_ hS F=>?_
 dsimp only[x31,Ah,Aq];unfold BF at h;obtain⟨bp,bj,h⟩:=un h;exact Ai hS (fc bj F) h
def CZ(N:Nat)(Ww:List (Int×Int×Int×(List (Int×Int))×Int×Int))(Ws:List (Int×Int×Int×Int×Bool))(ay:Int)(aw:Int)(av:Int)(au:Int)(aq:List (Int×Int))(an:Int)(am:Int)(ak:Int)(aj:Int)(ai:Int)(ah:Int)(af:Int)(ae:Int)(ab:Int)(aa:Bool):Option (((List (Int×Int×Int×(List (Int×Int))×Int×Int))×(List (Int×Int×Int×Int×Bool)))×Int):=(Dw N Ww Ws).bind λbo=>bif !bo then(some (([],[]),170))else((JW N Ww Ws ay aw av au aq an am ak aj ai ah af ae ab aa).bind λ((bn,bm),bl)=>some ((bn,bm),bl))
@[go_sem] def s22(N:Nat):Spec:=p0<|pG<|pD Ak λWw=>pD AA λWs=>pE<|pG<|pI λay=>pI λaw=>pI λav=>pI λau=>pD Aq λaq=>pI λan=>pI λam=>pI λak=>pI λaj=>pI λai=>pI λah=>pI λaf=>pI λae=>pI λab=>pB λaa=>pE<|pE<|pF (CZ N Ww Ws ay aw av au aq an am ak aj ai ah af ae ab aa) (([],[]),0) λr=>.tup [.agg [Ap r.1.1,AS r.1.2],.i r.2]
theorem MW(N:Nat):AG Tryz.prog 22 (s22 N):=by
 refine Ar x22.ok<|Aw<|AM λWw=>AM λWs=>Ad<|Aw<|Aa λay=>Aa λaw=>Aa λav=>Aa λau=>AM λaq=>Aa λan=>Aa λam=>Aa λak=>Aa λaj=>Aa λai=>Aa λah=>Aa λaf=>Aa λae=>Aa λab=>AX λaa=>Ad<|Ad<|As λr h=>wx x22 (Ab (ZG N)<|Ab (pW N)<|Aj) λ_ hS F=>?_
 dsimp only[x22,Ah,Aq,AA,Ak];unfold CZ at h;obtain⟨bo,bi,h⟩:=un h;replace F:=fc bi F;refine An hS F h (λ_ h=>?_) (λ_ h=>?_)
 ·exact Ai hS F h
 ·obtain⟨⟨⟨bn,bm⟩,bl⟩,bh,h⟩:=un h;exact Ai hS (fc bh F) h
end
structure LkF(hp hp':Hp):Prop where
 c:∀n j x,hl hp (.c n j)=some x->hl hp' (.c n j)=some x
 a:∀n sz live rows d,hl hp (.a n)=some (.sl sz live rows d)->hl hp' (.a n)=some (.sl sz live rows d)
structure LkG(hp:Hp)(cnt:Nat)(args:List AV):Prop where
 a:∀n o,AV.box n o∈args->n.2<=cnt
 h:∀n j x,hl hp (.c n j)=some x->n.2<=cnt
 r:∀n sz live rows d,hl hp (.a n)=some (.sl sz live rows d)->n.2<=cnt
theorem LkF.refl{hp:Hp}:LkF hp hp:=⟨λ_ _ _ h=>h,λ_ _ _ _ _ h=>h⟩
theorem LkF.pc{hp hp':Hp}{cnt:Nat}{args:List AV}(hL:LkG hp cnt args){n:Nm}{j:Nat}{x:AV}(hn:cnt<n.2)(h:LkF hp hp'):LkF hp ((.c n j,x)::hp'):=by
 refine⟨λm i y hy=>?_,λm sz live rows d hy=>?_⟩
 ·rw[hl,eG λe=>?_]
  ·exact h.c m i y hy
  ·cases e
   have:=hL.h n j y hy;omega
 ·rw[hl,eG λe=>by cases e];exact h.a m sz live rows d hy
theorem LkF.pa{hp hp':Hp}{cnt:Nat}{args:List AV}(hL:LkG hp cnt args){n:Nm}{x:AV}(hn:cnt<n.2)(h:LkF hp hp'):LkF hp ((.a n,x)::hp'):=by
 refine⟨λm i y hy=>?_,λm sz live rows d hy=>?_⟩
 ·rw[hl,eG λe=>by cases e];exact h.c m i y hy
 ·rw[hl,eG λe=>?_]
  ·exact h.a m sz live rows d hy
  ·cases e
   have:=hL.r n sz live rows d hy;omega
theorem HInv.subF{U:Cf}{hp hp':Hp}(h1:HInv U hp)(hs:LkF hp' hp):Evo U {U with ln:=lenOf hp'}/\HInv {U with ln:=lenOf hp'} hp':=by
 let Z:Cf:={U with ln:=lenOf hp'}
 have e:Evo U Z:=by
  refine⟨λ_ h=>⟨h,rfl⟩,λn _ l' hl'=>?_,λ_ _ h h'=>⟨h,h'⟩,rfl,jW _,SameO.refl _⟩;have hl2:lenOf hp' n=some l':=hl';refine⟨l',?_,jW _,λ_=>rfl⟩;rw[h1.ln n];unfold lenOf at hl2⊢;split at hl2
  ·rename_i sz live rows d hn;rw[hs.a _ _ _ _ _ hn];exact hl2
  ·simp at hl2
 have hown:∀p b,Owns Z hp' p b->Owns U hp p b:=by
  rintro p b (⟨g1,g2,j,c,g3⟩|⟨g1,⟨sz,rows,d,g2⟩,o,cap,g3,g4⟩)
  ·exact .inl ⟨g1,g2,j,c,hs.c _ _ _ g3⟩
  ·exact .inr ⟨g1,⟨sz,rows,d,hs.a _ _ _ _ _ g2⟩,o,cap,g3,g4⟩
 refine⟨e,λ_=>rfl,λn j c hc=>?_,λn sz live rows d hc=>?_,λp q b hp hq=>h1.inj p q b (hown p b hp) (hown q b hq),h1.lt,h1.ou,h1.dis⟩
 ·have kk:=h1.cel n j c (hs.c _ _ _ hc);exact kk.keep e kk.2.1 rfl
 ·exact(h1.arr n sz live rows d (hs.a _ _ _ _ _ hc)).keep e rfl λ_ _ _ _ _ _ hM=>⟨hM,rfl⟩
theorem lkg{U:Cf}{hp:Hp}{cnt:Nat}{args:List AV}{xs:List Value}(hI:HInv U hp)(hal:∀m,U.al m->m.2<=cnt)(hx:RepL U args xs):LkG hp cnt args:=by refine⟨λn o hm=>?_,λn j x h=>hal _ (hI.cel n j x h).1,λn sz live rows d h=>hal _ (hI.arr n sz live rows d h).1⟩;obtain⟨i,hi⟩:=List.getElem?_of_mem hm;obtain⟨y,_,hy⟩:=Dr hx i _ hi;exact hal _ hy.1
theorem Mj{P:Program}{S:Tab}(hS:TabOK P S){f:Nat}(x:FnX P f){args vs:List AV}{r:AV}(hfl:B2 r=true)(hn:args.length<=x.nt)(h:∀hb hp cnt,LkG hp cnt args->args.map (qv hp)=vs->Ax (Ctx.fn P S x.nt hb) x.c (Bk x.rv λr' s=>Gn s.hp r'/\LD r'=true/\HD (res s.hp r') r/\LkF hp (frz s.hp (Fu r')++s.hp)) ⟨BQ 0 args,hp,cnt⟩):IA P f args vs r:=by intro U hp xs gl hI hal hx hv;obtain⟨cnt,hal⟩:=hal;refine callsIn_wide.1 ((Jw hS x.hf x.hc x.hn hn gl hI hal hx (h _ hp cnt (lkg hI hal hx) hv)).mono ?_);rintro en w' ⟨v,Z,s,r',rfl,rfl,e,g1,g2,g3,k1,k2,k3,k4⟩;obtain⟨σ1,f1,f2,f3,f4,f5,f6,f7,f8⟩:=g1.frz (Fu r');have hr:=M1 g1 f1 f3 (Fu r') f7 r' v k1 k2 (λ_ h=>h) g3;obtain⟨e2,g4⟩:=f2.subF k4;have e:=(e.trans f1).trans e2;exact⟨v,{σ1 with ln:=lenOf hp,al:=U.al},rfl,f3,⟨λn hn=>⟨hn,(e.box n hn).2⟩,e.arr,e.fro,e.out,e.sz,e.io⟩,hI.fgt g4,λm hm=>hm,Rep.ofPure (U:=σ1) (σ':={σ1 with ln:=lenOf hp,al:=U.al}) (λ_ h=>h) (λ_ _=>rfl) r v hfl ((NP _ _ _ k3).2 hr)⟩
theorem uG{V:Ctx}(hΓ:V.OK){rid t:Nat}{Q:AE->St->Prop}{e:Az}{h:Hp}{c:Nat}(hQ:Q .n ⟨(t,.v (.slice none 0 0))::e,h,c+1⟩):Ax V (.reg rid [⟨some t,none,.mv (.k (.sl 0 true [] []))⟩]) Q ⟨e,h,c⟩:=by
 intro code hc U a hA;cases code with
 |region id ops' d'=>
  simp only[cCode]at hc;obtain⟨l0,hx0,⟨rfl,e0⟩|⟨_,_,_,_,e0⟩⟩:=Cc hc
  ·cases e0
   have ht:t<V.nt:=by
    obtain⟨c1,c2⟩:=C9 hx0;have hsz:ops'.size=1:=by simpa using c1.symm
    obtain⟨yo',g1,g2⟩:=c2 0 ops'[0] (by simp);simp at g1;subst g1;exact DA g2 t rfl
   refine wpIn_region (OS hΓ (i:=0) (rid:=0) hx0 rfl rfl rfl rfl trivial hA λo a1 σ1 ho hk hd hw ev hI hal hfar=>?_);obtain⟨y,hop,hy⟩:=nF hk;have hv:=X6 (a:=a1) hy.symm;unfold wpOpIn;simp only[ho,hw,if_true];refine⟨λf _=>hΓ.F.fn f,?_⟩;rw[Oper.semAt_eq _ a1.eval _ (λc e=>by rcases hop with hop|hop<;>rw[hop]at e<;>cases e)];have hr:(execOp a1.eval o).run V.P σ1.w=.ok (.value (.slice none 0 0)) σ1.w:=by rcases hop with hop|hop<;>simp[execOp,hop,hv]
   rw[hr,Oper.uponIn_value];show wpOpsIn _ _ _ _ _ [] _ _;simp only[wpOpsIn];have hdst:o.dst=some t:=hd;rw[hdst];refine⟨σ1,⟨(t,.v (.slice none 0 0))::e,h,c+1⟩,_,Eq.refl _,V.ofE ev,⟨⟨hI.h,TInv.put (d:=some t) (r:=.v (.slice none 0 0)) hI.t (λk hk=>by cases hk;rw[hI.sz];exact ht) (by simp[Rep]),by rw[Act.size_put];exact hI.sz,?_⟩,hal,V.g hA.2.2 ev λt' ht'=>.inr ?_⟩,rfl,hQ⟩
   ·rw[Act.defers_put,MK ht];exact hI.df
   ·show lk ((t,_)::e) t'=lk e t';rw[lk,eG (by omega)]
  ·cases e0
 |seq x y=>simp only[cCode]at hc;split at hc<;>simp at hc
 |cond c x y=>simp only[cCode]at hc;split at hc<;>simp at hc
 |rangeFunc f ps x y=>simp only[cCode]at hc;split at hc<;>simp at hc
 |_=>simp[cCode]at hc
theorem uH{rvs:List RV}{e:Az}{h:Hp}{c:Nat}{vc:Prop}{xs:List AV}{x y:AV}{sz:Nat}{d:List AV}(h1:DS e h rvs=some (vc,xs))(h2:vc)(h3:Gn h (one xs))(h4:res h (one xs)=.tup [.v (.slice none 0 0),y])(h5:x=.sl sz false [] d)(h6:B2 y=true):BC rvs (.tup [x,y]) .r ⟨e,h,c⟩:=by
 show Hy _ _ _;refine⟨vc,xs,h1,h2,h3,?_,?_⟩
 ·rw[h4,h5];intro U v hv;simp only[Rep,RepL]at hv⊢;obtain⟨zs,e1,z,zs',e2,e3,e4⟩:=hv;subst e3;exact⟨zs,e1,_,zs',e2,⟨none,0,rfl,jW _,λh=>(by cases h),by simp,.inl trivial⟩,e4⟩
 ·rw[h5];simp[B2,AP,h6]
section
attribute [local irreducible] Ax BO BB Bj BC Bk AY BD BK Cq
def AB(x:Int×(Int×Int×Int×(List (Int×Int))×Int×Int)×Int×Int×Int×(Int×Int×Int×Int×Bool)):List AV:=[.i x.1,.i x.2.1.1,.i x.2.1.2.1,.i x.2.1.2.2.1,BP x.2.1.2.2.2.1,.i x.2.1.2.2.2.2.1,.i x.2.1.2.2.2.2.2,.i x.2.2.1,.i x.2.2.2.1,.i x.2.2.2.2.1,.i x.2.2.2.2.2.1,.i x.2.2.2.2.2.2.1,.i x.2.2.2.2.2.2.2.1,.i x.2.2.2.2.2.2.2.2.1,.b x.2.2.2.2.2.2.2.2.2]
def EV:List AV->Int×(Int×Int×Int×(List (Int×Int))×Int×Int)×Int×Int×Int×(Int×Int×Int×Int×Bool)|[.v (.int _ a1),.v (.int _ a2),.v (.int _ a3),.v (.int _ a4),.sl _ _ a5 _,.v (.int _ a6),.v (.int _ a7),.v (.int _ a8),.v (.int _ a9),.v (.int _ fr),.v (.int _ fq),.v (.int _ fp),.v (.int _ fo),.v (.int _ fj),.v (.bool fh)]=>(a1,(a2,a3,a4,(a5.map Jx),a6,a7),a8,a9,fr,(fq,fp,fo,fj,fh))|_=>(0,(0,0,0,[],0,0),0,0,0,(0,0,0,0,false))
theorem Nu(x:Int×(Int×Int×Int×(List (Int×Int))×Int×Int)×Int×Int×Int×(Int×Int×Int×Int×Bool)):EV (AB x)=x:=by simp only[AB,EV,BP,MR]
theorem Nv(R:List (Int×(Int×Int×Int×(List (Int×Int))×Int×Int)×Int×Int×Int×(Int×Int×Int×Int×Bool))):(R.map AB).map EV=R:=by
 induction R with
 |nil=>rfl
 |cons r R ih=>rw[iW,iW,ih,Nu]
def CR:Rw (Int×(Int×Int×Int×(List (Int×Int))×Int×Int)×Int×Int×Int×(Int×Int×Int×Int×Bool)):=⟨15,AB,EV,[.i 0,.i 0,.i 0,.i 0,.sl 0 true [] [],.i 0,.i 0,.i 0,.i 0,.i 0,.i 0,.i 0,.i 0,.i 0,.b false]⟩
def Ay(l:List (Int×(Int×Int×Int×(List (Int×Int))×Int×Int)×Int×Int×Int×(Int×Int×Int×Int×Bool))):AV:=.sl 15 false (l.map AB) [.i 0,.i 0,.i 0,.i 0,.sl 0 true [] [],.i 0,.i 0,.i 0,.i 0,.i 0,.i 0,.i 0,.i 0,.i 0,.b false]
def EW(l:List (Int×(Int×Int×Int×(List (Int×Int))×Int×Int)×Int×Int×Int×(Int×Int×Int×Int×Bool))):AV:=.sl 15 true (l.map AB) [.i 0,.i 0,.i 0,.i 0,.sl 0 true [] [],.i 0,.i 0,.i 0,.i 0,.i 0,.i 0,.i 0,.i 0,.i 0,.b false]
attribute [go_sem] CR Ay EW AB EV Nv
def FG(N:Nat)(az:Int)(ay:Int)(aw:Int)(av:Int)(au:List (Int×Int))(aq:Int)(an:Int)(bu:Int)(br:Int)(bq:Int)(bp:Int)(bo:Int)(bn:Int)(bm:Int)(bl:Bool)(am:Int)(ak:Int)(aj:Int)(ai:Int)(ah:List (Int×Int))(af:Int)(ae:Int)(bj:Int)(bi:Int)(bh:Int)(bg:Int)(bf:Int)(be:Int)(bb:Int)(ba:Bool):Option Bool:=gd ((decide (az=am))=true->((C2 N ay aw av au aq an ak aj ai ah af ae).isSome=true))<|some ((((((decide (az=am))&&((C2 N ay aw av au aq an ak aj ai ah af ae).getD false))&&(decide (bu=bj)))&&(decide (br=bi)))&&(decide (bq=bh)))&&(decide (bp=bg)&&(decide (bo=bf)&&(decide (bn=be)&&(decide (bm=bb)&&(bl==ba))))))
@[go_sem] def s37(N:Nat):Spec:=p0<|pG<|pI λaz=>pI λay=>pI λaw=>pI λav=>pS Aq λau=>pI λaq=>pI λan=>pI λbu=>pI λbr=>pI λbq=>pI λbp=>pI λbo=>pI λbn=>pI λbm=>pB λbl=>pE<|pG<|pI λam=>pI λak=>pI λaj=>pI λai=>pS Aq λah=>pI λaf=>pI λae=>pI λbj=>pI λbi=>pI λbh=>pI λbg=>pI λbf=>pI λbe=>pI λbb=>pB λba=>pE<|pE<|pF (FG N az ay aw av au aq an bu br bq bp bo bn bm bl am ak aj ai ah af ae bj bi bh bg bf be bb ba) false λr=>.b r
theorem oG(N:Nat):AG Tryz.prog 37 (s37 N):=by
 refine Ar x37.ok<|Aw<|Aa λaz=>Aa λay=>Aa λaw=>Aa λav=>AF λau=>Aa λaq=>Aa λan=>Aa λbu=>Aa λbr=>Aa λbq=>Aa λbp=>Aa λbo=>Aa λbn=>Aa λbm=>AX λbl=>Ad<|Aw<|Aa λam=>Aa λak=>Aa λaj=>Aa λai=>AF λah=>Aa λaf=>Aa λae=>Aa λbj=>Aa λbi=>Aa λbh=>Aa λbg=>Aa λbf=>Aa λbe=>Aa λbb=>AX λba=>Ad<|Ad<|As λr h=>wx x37 (Ab (Zw N)<|Aj) λ_ hS F=>?_
 dsimp only[x37,Ah,Aq];unfold FG at h;obtain⟨gg,h⟩:=un h;exact Ai hS F h
def FN(N:Nat)(a3589:List (Int×(Int×Int×Int×(List (Int×Int))×Int×Int)×Int×Int×Int×(Int×Int×Int×Int×Bool)))(b3590:List (Int×(Int×Int×Int×(List (Int×Int))×Int×Int)×Int×Int×Int×(Int×Int×Int×Int×Bool))):Nat->Int->Option (Sum Unit Bool)|0,_=>none|n+1,aa=>bif decide (aa<(a3589.length:Int))then((A7 a3589 aa).bind λ(d8,(d7,d6,d5,dz,dw,du),dt,dq,dm,(dl,dh,dg,de,db))=>(A7 b3590 aa).bind λ(da,(cy,cu,cr,cq,co,cn),ck,cj,ci,(ce,b9,b7,bz,bw))=>(FG N d8 d7 d6 d5 dz dw du dt dq dm dl dh dg de db da cy cu cr cq co cn ck cj ci ce b9 b7 bz bw).bind λd9=>bif !d9 then(some (.inr false))else(gd (Af (aa+1))<|FN N a3589 b3590 n (aa+1)))else(some (.inl ()))
def Ie(N:Nat)(a3589:List (Int×(Int×Int×Int×(List (Int×Int))×Int×Int)×Int×Int×Int×(Int×Int×Int×Int×Bool)))(b3590:List (Int×(Int×Int×Int×(List (Int×Int))×Int×Int)×Int×Int×Int×(Int×Int×Int×Int×Bool))):Option Bool:=bif decide ((a3589.length:Int)≠(b3590.length:Int))then(some false)else((FN N a3589 b3590 N 0).bind λbv=>match bv with|.inl ()=>(some true)|.inr eu=>(some eu))
@[go_sem] def s26(N:Nat):Spec:=p0<|pD CR λa3589=>pD CR λb3590=>pE<|pF (Ie N a3589 b3590) false λr=>.b r
theorem Acr(N:Nat):AG Tryz.prog 26 (s26 N):=by
 refine Ar x26.ok<|AM λa3589=>AM λb3590=>Ad<|As λr h=>wx x26 (Ab (oG N)<|Aj) λ_ hS F=>?_
 dsimp only[x26,Ah,CR];unfold Ie at h;refine An hS F h (λ_ h=>?_) (λ_ h=>?_)
 ·exact Ai hS F h
 ·obtain⟨bv,fg,h⟩:=un h;refine go hS F ?_;refine Bz bv (λz:Nat=>⟨[],[],z⟩) (λz=>(.inl ():Sum Unit Bool)) (.x 0) ?_ ?_
  ·refine Bp (λn (y:Int×Nat)=>FN N a3589 b3590 n y.1) (λy=>⟨[(0,Ay a3589),(1,Ay b3590),(5,.i y.1)],[],y.2⟩) (0,3) fg (Ch F) ?_;rintro n ⟨aa,ee⟩ ab;simp only[FN]at ab;refine An hS F ab (λ_ ab=>?_) (λ_ ab=>?_)
   ·obtain⟨⟨d8,⟨d7,d6,d5,dz,dw,du⟩,dt,dq,dm,⟨dl,dh,dg,de,db⟩⟩,ej,ab⟩:=un ab;obtain⟨e8,F⟩:=Cb AB ej F;obtain⟨⟨da,⟨cy,cu,cr,cq,co,cn⟩,ck,cj,ci,⟨ce,b9,b7,bz,bw⟩⟩,ei,ab⟩:=un ab;obtain⟨ez,F⟩:=Cb AB ei F;obtain⟨d9,eh,ab⟩:=un ab;replace F:=fc eh F;refine An hS F ab (λ_ ab=>?_) (λ_ ab=>?_)
    ·obtain rfl:=yJ ab;exact Ai hS F h
    ·obtain⟨gc,ab⟩:=un ab;exact Cd hS F (n,aa+1,ee+1+1+1) ab
   ·exact B4 hS F (ee+1) ab
  ·rintro e9 rfl;exact Ai hS F h
end
attribute [local irreducible] Ax BO BB Bj BC Bk AY BD BK Cq
section
variable{n:Nm}{vs:List AV}{a0 a1 a2 a3 a5 a6 a7 a8 a9 a10 a11 a12 a13:Int}{y4:Nat}{f4:Bool}{s4:List (List AV)}{d4:List AV}{a14:Bool}
theorem mQ:IA Tryz.prog 135 [.box n 0,.agg [.v (.int .i64 a0),.v (.int .i64 a1),.v (.int .i64 a2),.v (.int .i64 a3),.sl y4 f4 s4 d4,.v (.int .i64 a5),.v (.int .i64 a6),.v (.int .i64 a7),.v (.int .i64 a8),.v (.int .i64 a9),.v (.int .i64 a10),.v (.int .i64 a11),.v (.int .i64 a12),.v (.int .i64 a13),.v (.bool a14)]] vs (Ay [(2,(0,0,0,[],0,0),a1,0,0,(0,0,0,0,false))]):=by
 have hS:=Aj (P:=Tryz.prog);refine Mj hS x135 rfl (qZ rfl) λhb hp cnt hL hv=>?_
 have F:=f0;dsimp only[x135,Ah];refine go hS F ?_;refine HU (ev F) (ev F) ⟨by simp only[go_sem,seval],rfl,by simp only[go_sem,seval],?_⟩;simp only[go_sem,seval]
 repeat' first|exact LkF.refl|refine LkF.pc hL (by simp only;omega) ?_|refine LkF.pa hL (by simp only;omega) ?_
theorem fH(h1:Af (-a8))(h2:Af (-a9)):IA Tryz.prog 158 [.box n 0,.agg [.v (.int .i64 a0),.v (.int .i64 a1),.v (.int .i64 a2),.v (.int .i64 a3),.sl y4 f4 s4 d4,.v (.int .i64 a5),.v (.int .i64 a6),.v (.int .i64 a7),.v (.int .i64 a8),.v (.int .i64 a9),.v (.int .i64 a10),.v (.int .i64 a11),.v (.int .i64 a12),.v (.int .i64 a13),.v (.bool a14)]] vs (Ay [(4,(0,0,0,[],0,0),a7,-a8,-a9,(0,0,0,0,false))]):=by
 have hS:=Aj (P:=Tryz.prog);refine Mj hS x158 rfl (qZ rfl) λhb hp cnt hL hv=>?_
 have F:=fc h1 (fc h2 f0);dsimp only[x158,Ah];refine go hS F ?_;refine HU (ev F) (ev F) ⟨by simp only[go_sem,seval],rfl,by simp only[go_sem,seval],?_⟩;simp only[go_sem,seval]
 repeat' first|exact LkF.refl|refine LkF.pc hL (by simp only;omega) ?_|refine LkF.pa hL (by simp only;omega) ?_
theorem mR:IA Tryz.prog 172 [.box n 0,.agg [.v (.int .i64 a0),.v (.int .i64 a1),.v (.int .i64 a2),.v (.int .i64 a3),.sl y4 f4 s4 d4,.v (.int .i64 a5),.v (.int .i64 a6),.v (.int .i64 a7),.v (.int .i64 a8),.v (.int .i64 a9),.v (.int .i64 a10),.v (.int .i64 a11),.v (.int .i64 a12),.v (.int .i64 a13),.v (.bool a14)]] vs (Ay [(7,(0,0,0,[],0,0),a7,0,0,(0,0,0,0,false))]):=by
 have hS:=Aj (P:=Tryz.prog);refine Mj hS x172 rfl (qZ rfl) λhb hp cnt hL hv=>?_
 have F:=f0;dsimp only[x172,Ah];refine go hS F ?_;refine HU (ev F) (ev F) ⟨by simp only[go_sem,seval],rfl,by simp only[go_sem,seval],?_⟩;simp only[go_sem,seval]
 repeat' first|exact LkF.refl|refine LkF.pc hL (by simp only;omega) ?_|refine LkF.pa hL (by simp only;omega) ?_
theorem fI:IA Tryz.prog 174 [.box n 0,.agg [.v (.int .i64 a0),.v (.int .i64 a1),.v (.int .i64 a2),.v (.int .i64 a3),.sl y4 f4 s4 d4,.v (.int .i64 a5),.v (.int .i64 a6),.v (.int .i64 a7),.v (.int .i64 a8),.v (.int .i64 a9),.v (.int .i64 a10),.v (.int .i64 a11),.v (.int .i64 a12),.v (.int .i64 a13),.v (.bool a14)]] vs (Ay [(6,(0,0,0,[],0,0),a7,0,0,(0,0,0,0,false))]):=by
 have hS:=Aj (P:=Tryz.prog);refine Mj hS x174 rfl (qZ rfl) λhb hp cnt hL hv=>?_
 have F:=f0;dsimp only[x174,Ah];refine go hS F ?_;refine HU (ev F) (ev F) ⟨by simp only[go_sem,seval],rfl,by simp only[go_sem,seval],?_⟩;simp only[go_sem,seval]
 repeat' first|exact LkF.refl|refine LkF.pc hL (by simp only;omega) ?_|refine LkF.pa hL (by simp only;omega) ?_
end
theorem Abh{hp:Hp}{n:Nm}{c c2:AV}(hc:∃z f r d,c=.sl z f r d)(hc2:∃z f r d,c2=.sl z f r d)(h:qv hp (.box n 0)=.agg [c,c2]):hl hp (.c n 0)=some c/\hl hp (.c n 1)=some c2:=by
 obtain⟨z,f,r,d,rfl⟩:=hc;obtain⟨z2,f2,r2,d2,rfl⟩:=hc2;simp only[qv,AV.agg.injEq]at h;cases hb:C0 hp n 0 40 with
 |nil=>rw[hb]at h;cases h
 |cons x xs=>
  cases xs with
  |nil=>rw[hb]at h;simp at h
  |cons x2 xs=>
   rw[hb]at h;simp only[iW,List.cons.injEq]at h;have hx:=I5 40 0 0 x (by rw[hb];rfl);have hx2:=I5 40 0 1 x2 (by rw[hb];rfl);have aux:∀{x z f r d},K2 hp x=.sl z f r d->x=.sl z f r d:=by
    intro x z f r d h1;cases x with
    |mp m=>simp only[K2]at h1;split at h1<;>cases h1
    |_=>simp only[K2]at h1;first|exact h1|cases h1
   have e1:=aux h.1;have e2:=aux h.2.1;subst e1 e2;exact⟨by have:=hx.1;rw[F4]at this;exact this,by have:=hx2.1;exact this⟩
abbrev AcT:=Int×Un×Int×Int×Int×Mk
def N2(N:Nat)(us:List Un)(ms:List Mk)(a0 a1 a2 a3:Int)(a4:List (Int×Int))(a5 a6 a7 a8 a9 a10 a11 a12 a13:Int)(a14:Bool):Option (List AcT):=(CC N ms a0 a1 a2 a3 a4 a5 a6 a7 a8 a9 a10 a11 a12 a13 a14).bind λb=>bif b then some []else match Dk N us a7 with|some (u,true)=>some [(1,u,0,0,0,(0,0,0,0,false))]|_=>none
def pZ:List AcT->AV|[]=>.v (.slice none 0 0)|x::l=>Ay (x::l)
attribute [local go_sem] pZ
section
variable(N:Nat){n:Nm}{a0 a1 a2 a3 a5 a6 a7 a8 a9 a10 a11 a12 a13:Int}{y4:Nat}{s4:List (List AV)}{d4:List AV}{a14:Bool}{y y2:Nat}{fl fl2:Bool}{s s2:List (List AV)}{d d2:List AV}
attribute [local go_sem] qU qv K2
theorem mS{rr:List AcT}(hy:y=6\/s=[])(hw:Hk s ((s.map B1).map Au))(hy2:y2=5\/s2=[])(hw2:s2=(s2.map E8).map BZ)(h4:((y4=2/\False=False)/\d4=[.i 0,.i 0])/\s4=(s4.map Jx).map Cz)(hu:N2 N (s.map B1) (s2.map E8) a0 a1 a2 a3 (s4.map Jx) a5 a6 a7 a8 a9 a10 a11 a12 a13 a14=some rr):IA Tryz.prog 145 [.box n 0,.agg [.v (.int .i64 a0),.v (.int .i64 a1),.v (.int .i64 a2),.v (.int .i64 a3),.sl y4 false s4 d4,.v (.int .i64 a5),.v (.int .i64 a6),.v (.int .i64 a7),.v (.int .i64 a8),.v (.int .i64 a9),.v (.int .i64 a10),.v (.int .i64 a11),.v (.int .i64 a12),.v (.int .i64 a13),.v (.bool a14)]] [.agg [.sl y fl s d,.sl y2 fl2 s2 d2],.agg [.v (.int .i64 a0),.v (.int .i64 a1),.v (.int .i64 a2),.v (.int .i64 a3),.sl y4 false s4 d4,.v (.int .i64 a5),.v (.int .i64 a6),.v (.int .i64 a7),.v (.int .i64 a8),.v (.int .i64 a9),.v (.int .i64 a10),.v (.int .i64 a11),.v (.int .i64 a12),.v (.int .i64 a13),.v (.bool a14)]] (pZ rr):=by
 have hS:=BG (Ab (XI N)<|Aj) (L3 N) (CP N) H3 (H2 N);refine Mj hS x145 (by cases rr<;>rfl) (qZ rfl) λhb hp cnt hL hv=>?_
 obtain⟨n1,n2⟩:=n;simp only[iW,u7,List.cons.injEq,and_true]at hv;obtain⟨h0,h1⟩:=Abh ⟨_,_,_,_,rfl⟩ ⟨_,_,_,_,rfl⟩ hv.1;have hn:=hL.a (n1,n2) 0 (by simp);obtain⟨⟨⟨rfl,_⟩,rfl⟩,h4⟩:=h4;generalize hl4:s4.map Jx=l4 at h4 hu;generalize hl2:s2.map E8=l2 at hw2 hu;subst h4 hw2;have F:=fc (show(y=6\/s=[])=True from eq_true hy) (fc (show Hk s ((s.map B1).map Au)=True from eq_true hw) (fc (show(y2=5\/l2=[])=True from eq_true (by simpa using hy2)) (fc (show∀k j,hl hp (.c (k,cnt+1) j)=none from λk j=>by
  cases e:hl hp (.c (k,cnt+1) j)with
  |none=>rfl
  |some x=>exact absurd (hL.h _ _ _ e) (by simp))<|fc h0 (fc h1 (fc (show(cnt+1=n2)=False by simp at hn⊢;omega) (fc (show(cnt+1+1=n2)=False by simp at hn⊢;omega) (fc (show(cnt+1+1+1=n2)=False by simp at hn⊢;omega) (fc (show(cnt+1+1+1+1=n2)=False by simp at hn⊢;omega) f0))))))))
 unfold N2 at hu;dsimp only[x145,Ah];cases hc:CC N l2 a0 a1 a2 a3 l4 a5 a6 a7 a8 a9 a10 a11 a12 a13 a14 with
 |none=>rw[hc]at hu;cases hu
 |some b=>
  rw[hc]at hu;replace F:=fc hc F;cases b with
  |true=>
   cases hu
   refine go hS F ?_;refine ct F ?_;refine CK (uG (Ctx.fn_ok hS) (DW ?_));refine go hS F ?_;refine HU (ev F) (ev F) ⟨by simp only[go_sem,seval],rfl,by simp only[go_sem,seval],?_⟩;simp only[go_sem,seval]
   repeat' first|exact LkF.refl|refine LkF.pc hL (by simp only;omega) ?_|refine LkF.pa hL (by simp only;omega) ?_
  |false=>
   dsimp only[Option.bind,cond]at hu;split at hu
   ·rename_i u hu3;cases hu
    replace F:=fc hu3 F;refine go hS F ?_;refine cf F ?_;refine go hS F ?_;refine HU (ev F) (ev F) ⟨by simp only[go_sem,seval],rfl,by simp only[go_sem,seval],?_⟩;simp only[go_sem,seval]
    repeat' first|exact LkF.refl|refine LkF.pc hL (by simp only;omega) ?_|refine LkF.pa hL (by simp only;omega) ?_
   ·cases hu
end
