import Derived.Test.YtjdchfljifacoaaGreatSo
set_option linter.all false
set_option maxRecDepth 100000
set_option maxHeartbeats 8000000
namespace Go.Proofs.YtjdchfljifacoaaGreat.Am
open Go
section
attribute [local irreducible] Ax BO BB Bj BC Bk AY BD BK Cq
def JW(N:Nat)(aa:List Un)(from2:List Mk)(a3:Int)(a4:Int)(a5:Int)(a6:Int)(a7:List (Int×Int))(a8:Int)(a9:Int)(am:Int)(ak:Int)(aj:Int)(ai:Int)(ah:Int)(af:Int)(ae:Int)(ab:Bool):Option ((List Un×List Mk)×Int):=if a3=1 then IU N aa from2 a4 a5 a6 a7 a8 a9 am ak aj ai ah af ae ab else if a3=2 then IV N aa from2 a4 a5 a6 a7 a8 a9 am ak aj ai ah af ae ab else if a3=3 then IW N aa from2 a4 a5 a6 a7 a8 a9 am ak aj ai ah af ae ab else if a3=4 then IX N aa from2 a4 a5 a6 a7 a8 a9 am ak aj ai ah af ae ab else if a3=5 then IY N aa from2 a4 a5 a6 a7 a8 a9 am ak aj ai ah af ae ab else if a3=6 then IZ N aa from2 a4 a5 a6 a7 a8 a9 am ak aj ai ah af ae ab else if a3=7 then I0 N aa from2 a4 a5 a6 a7 a8 a9 am ak aj ai ah af ae ab else Kz N aa from2 a3 a4 a5 a6 a7 a8 a9 am ak aj ai ah af ae ab
@[go_sem] def s57(N:Nat):Spec:=p0<|(Aoh<|qD Ak<|qD AA<|Aof<|Aoh<|Aoi<|Aoi<|Aoi<|Aoi<|qD Aq<|Aoi<|Aoi<|Aoi<|Aoi<|Aoi<|Aoi<|Aoi<|Aoi<|Aoi<|Aod<|Aof<|Aof<|Aog (([],[]),0) λr=>.tup [.agg [Ap r.1.1,AS r.1.2],.i r.2]) (JW N)
theorem Bv{P:Program}{f:Nat}{s:Spec}{args:List AV}{vc:Prop}{r:AV}(φ:AG P f s)(hs:s args=some (vc,r))(hv:vc):PCall P f args r:=φ.2 _ _ _ hs hv
theorem pW(N:Nat):AG Tryz.prog 57 (s57 N):=by
 refine Ar x57.ok<|Aw<|AM λaa=>AM λfrom2=>Ad<|Aw<|Aa λa3=>Aa λa4=>Aa λa5=>Aa λa6=>AM λa7=>Aa λa8=>Aa λa9=>Aa λam=>Aa λak=>Aa λaj=>Aa λai=>Aa λah=>Aa λaf=>Aa λae=>AX λab=>Ad<|Ad<|As λr h=>?_
 dsimp only[Aq,AA,Ak];unfold JW at h;split at h
 ·rename_i e;subst e;exact Bv (lF N) (by simp only[go_sem,seval,h]<;>eq_refl) (by simp only[go_sem,seval,h])
 split at h
 ·rename_i e;subst e;exact Bv (lG N) (by simp only[go_sem,seval,h]<;>eq_refl) (by simp only[go_sem,seval,h])
 split at h
 ·rename_i e;subst e;exact Bv (lH N) (by simp only[go_sem,seval,h]<;>eq_refl) (by simp only[go_sem,seval,h])
 split at h
 ·rename_i e;subst e;exact Bv (lI N) (by simp only[go_sem,seval,h]<;>eq_refl) (by simp only[go_sem,seval,h])
 split at h
 ·rename_i e;subst e;exact Bv (lJ N) (by simp only[go_sem,seval,h]<;>eq_refl) (by simp only[go_sem,seval,h])
 split at h
 ·rename_i e;subst e;exact Bv (lK N) (by simp only[go_sem,seval,h]<;>eq_refl) (by simp only[go_sem,seval,h])
 split at h
 ·rename_i e;subst e;exact Bv (lN N) (by simp only[go_sem,seval,h]<;>eq_refl) (by simp only[go_sem,seval,h])
 exact Bv (lO N) (by simp only[go_sem,seval,h]<;>eq_refl) (by simp only[go_sem,seval,h])
end
section
attribute [local irreducible] Ax BO BB Bj BC Bk AY BD BK Cq
attribute [local go_sem] Nj
def Fh(N:Nat)(s1:List (Int×Int×Int×(List (Int×Int))×Int×Int))(s2:List (Int×Int×Int×Int×Bool)):Option ((List (Int×Int×Int×(List (Int×Int))×Int×Int))×(List (Int×Int×Int×Int×Bool))):=gd (s2.length*40<=140737488355328)<|(EC N s1 N 0 []).bind λl41=>some (l41,s2)
@[go_sem] def YV(N:Nat):Spec:=p0<|(Aoh<|qD Ak<|qD AA<|Aof<|Aof<|Aog ([],[]) λr=>.agg [Ap r.1,AS r.2]) (Fh N)
theorem QZ(N:Nat):AG Tryz.prog 56 (YV N):=by
 refine fk (Aoq x56 (BG (Ab (UZ N)<|Aj) DX (Wt) DY DZ)) ?_;intro s1 s2 r h _ hS F;dsimp only[x56,Ah,AA,Ak];unfold Fh at h;obtain⟨bf,h⟩:=un h;refine go hS F ?_;refine Fc 1000001 (104,2) 0 6 [.i 0,.i 0,.i 0,.sl 0 true [] [],.i 0,.i 0] (by omega) (ev F) ?_;obtain⟨ay,ba,h⟩:=un h;refine go hS F ?_;refine Bz ay (λz:(List (Int×Int×Int×(List (Int×Int))×Int×Int))×Nat=>⟨[(2,.box (1,1) 0),(3,.box (104,2) 0)],[(.c (104,2) 0,.own (1000001,4) z.1.length),(.c (104,2) 1,.own (102,2) s2.length),(.a (102,2),EH s2),(.a (1000001,4),B7 z.1),(.c (1,1) 0,.sl 0 true [] []),(.c (1,1) 1,.sl 0 true [] [])],z.2⟩) (λz=>(z.1:(List (Int×Int×Int×(List (Int×Int))×Int×Int)))) (.x 0) ?_ ?_
 ·refine Bp (λn (y:Int×(List (Int×Int×Int×(List (Int×Int))×Int×Int))×Nat)=>EC N s1 n y.1 y.2.1) (λy=>⟨[(2,.box (1,1) 0),(3,.box (104,2) 0),(12,Ap s1),(13,.i (s1.length:Int)),(14,.i y.1)],[(.c (104,2) 0,.own (1000001,4) y.2.1.length),(.c (104,2) 1,.own (102,2) s2.length),(.a (102,2),EH s2),(.a (1000001,4),B7 y.2.1),(.c (1,1) 0,.sl 0 true [] []),(.c (1,1) 1,.sl 0 true [] [])],y.2.2⟩) (0,[],4) ba (Ch F) ?_;rintro n ⟨x26,au,c25⟩ aa;simp only[EC]at aa;refine An hS F aa (λ_ aa=>?_) (λ_ aa=>?_)
  ·obtain⟨⟨x28,x29,x30,x31,x32,x33⟩,aq,aa⟩:=un aa;obtain⟨az,F⟩:=Cb Au aq F;obtain⟨av,an,be,bb,aa⟩:=un aa;exact Cd hS (fc an F) (n,x26+1,au++[(x28,x29,x30,av,x32,x33)],c25+1+1+1+1+1) aa
  ·exact B4 hS F (au,c25+1) aa
 ·rintro⟨l41,bg⟩ rfl;exact Ai hS F h
theorem PCall.wk'{P:Program}{f:Nat}{args:List AV}{r r':AV}(h:PCall P f args r)(hw:Wk r r')(hp:B2 r'=true):PCall P f args r':=λU vs a b c d=>(h U vs a b c d).mono λ_ _ ⟨v,e1,e2,e3,_,e5⟩=>⟨v,e1,e2,e3,hp,hw _ _ e5⟩
theorem Uw{a b c d e x:AV}:Wk (.tup [.agg [a,b,c,d,e],x]) (.tup [.agg [.un,.un,.un,.un,.un],x]):=by intro U v h;simp only[Rep,RepL]at h⊢;obtain⟨xs,e1,y,ys,e2,⟨zs,f1,f2,_,_,rfl,_,_,_,rfl,_,_,_,rfl,_,_,_,rfl,_,_,_,rfl,_,rfl⟩,e4⟩:=h;exact⟨xs,e1,y,ys,e2,⟨_,f1,f2,_,_,rfl,trivial,_,_,rfl,trivial,_,_,rfl,trivial,_,_,rfl,trivial,_,_,rfl,trivial,rfl⟩,e4⟩
def Lq(N:Nat)(a3:Int)(a4:Int)(a5:Int)(a6:Int)(a7:List (Int×Int))(a8:Int)(a9:Int)(am:Int)(ak:Int)(aj:Int)(ai:Int)(ah:Int)(af:Int)(ae:Int)(ab:Bool):Option Bool:=if a3=1 then Fj N a4 a5 a6 a7 a8 a9 am ak aj ai ah af ae ab else if a3=2 then Fk N a4 a5 a6 a7 a8 a9 am ak aj ai ah af ae ab else if a3=3 then Fl N a4 a5 a6 a7 a8 a9 am ak aj ai ah af ae ab else if a3=4 then Fm N a4 a5 a6 a7 a8 a9 am ak aj ai ah af ae ab else if a3=5 then Fo N a4 a5 a6 a7 a8 a9 am ak aj ai ah af ae ab else if a3=6 then Fp N a4 a5 a6 a7 a8 a9 am ak aj ai ah af ae ab else if a3=7 then Fq N a4 a5 a6 a7 a8 a9 am ak aj ai ah af ae ab else Fr N a3 a4 a5 a6 a7 a8 a9 am ak aj ai ah af ae ab
@[go_sem] def s64(N:Nat):Spec:=p0<|(Aoh<|Aoi<|Aoi<|Aoi<|Aoi<|Aon Aq<|Aoi<|Aoi<|Aoi<|Aoi<|Aoi<|Aoi<|Aoi<|Aoi<|Aoi<|Aod<|Aof<|Aof<|Aog false λr=>.tup [.agg [.un,.un,.un,.un,.un],.b r]) (Lq N)
theorem AcM(N:Nat):AG Tryz.prog 64 (s64 N):=by
 refine Ar x64.ok<|Aw<|Aa λa3=>Aa λa4=>Aa λa5=>Aa λa6=>AF λa7=>Aa λa8=>Aa λa9=>Aa λam=>Aa λak=>Aa λaj=>Aa λai=>Aa λah=>Aa λaf=>Aa λae=>AX λab=>Ad<|Ad<|As λr h=>?_
 dsimp only[Aq];unfold Lq at h;split at h
 ·rename_i e;subst e;exact(Bv (Nk N) (by simp only[go_sem,seval,h]<;>eq_refl) (by simp only[go_sem,seval,h])).wk' Uw rfl
 split at h
 ·rename_i e;subst e;exact(Bv (Nl N) (by simp only[go_sem,seval,h]<;>eq_refl) (by simp only[go_sem,seval,h])).wk' Uw rfl
 split at h
 ·rename_i e;subst e;exact(Bv (Nn N) (by simp only[go_sem,seval,h]<;>eq_refl) (by simp only[go_sem,seval,h])).wk' Uw rfl
 split at h
 ·rename_i e;subst e;exact(Bv (No N) (by simp only[go_sem,seval,h]<;>eq_refl) (by simp only[go_sem,seval,h])).wk' Uw rfl
 split at h
 ·rename_i e;subst e;exact(Bv (Np N) (by simp only[go_sem,seval,h]<;>eq_refl) (by simp only[go_sem,seval,h])).wk' Uw rfl
 split at h
 ·rename_i e;subst e;exact(Bv (Nq N) (by simp only[go_sem,seval,h]<;>eq_refl) (by simp only[go_sem,seval,h])).wk' Uw rfl
 split at h
 ·rename_i e;subst e;exact(Bv (Nr N) (by simp only[go_sem,seval,h]<;>eq_refl) (by simp only[go_sem,seval,h])).wk' Uw rfl
 exact(Bv (Ns N) (by simp only[go_sem,seval,h]<;>eq_refl) (by simp only[go_sem,seval,h])).wk' Uw rfl
end
section
attribute [local irreducible] Ax BO BB Bj BC Bk AY BD BK Cq
def JX(N:Nat)(a2:Int)(a3:Int)(a4:Int)(a5:List (Int×Int))(a6:Int)(a7:Int)(a8:Int)(a9:Int)(jn:Int)(jm:Int)(jl:Int)(jk:Int)(jj:Int)(ji:Bool):Option ((List Int)×(List Int)):=(Fj N a2 a3 a4 a5 a6 a7 a8 a9 jn jm jl jk jj ji).bind λj4=>bif !j4 then(some ([],[]))else((Kt N 1 a2 a3 a4 a5 a6 a7 a8 a9 jn jm jl jk jj ji).bind λ(jv,ju)=>some (jv,ju))
@[go_sem] def Aa1(N:Nat):Spec:=p0<|(Aoh<|Aoe 1<|Aoi<|Aoi<|Aoi<|Aon Aq<|Aoi<|Aoi<|Aoi<|Aoi<|Aoi<|Aoi<|Aoi<|Aoi<|Aoi<|Aod<|Aof<|Aof<|Aog ([],[]) λr=>.tup [FW r.1,FW r.2]) (JX N)
theorem lX(N:Nat):AG Tryz.prog 27 (Aa1 N):=by
 refine fk (Aoq x27 (BG (Ab (Nk N)<|Ab (zC N)<|Aj) DX (CP N) DY DZ)) ?_;intro a2 a3 a4 a5 a6 a7 a8 a9 jn jm jl jk jj ji r h _ hS F;dsimp only[x27,Ah,Aq];unfold JX at h;obtain⟨j4,ej,h⟩:=un h;replace F:=fc ej F;refine An hS F h (λ_ h=>?_) (λ_ h=>?_)
 ·exact Ai hS F h
 ·obtain⟨⟨jv,ju⟩,ei,h⟩:=un h;exact Ai hS (fc ei F) h
def JY(N:Nat)(jh:Int)(jg:Int)(jf:Int)(je:List (Int×Int))(jd:Int)(jc:Int)(jb:Int)(ja:Int)(i9:Int)(i8:Int)(i7:Int)(i6:Int)(i5:Int)(iz:Bool):Option ((List Int)×(List Int)):=(Fk N jh jg jf je jd jc jb ja i9 i8 i7 i6 i5 iz).bind λjz=>bif !jz then(some ([],[]))else((Kv N 2 jh jg jf je jd jc jb ja i9 i8 i7 i6 i5 iz).bind λ(r38,jt)=>some (r38,jt))
@[go_sem] def Aa2(N:Nat):Spec:=p0<|(Aoh<|Aoe 2<|Aoi<|Aoi<|Aoi<|Aon Aq<|Aoi<|Aoi<|Aoi<|Aoi<|Aoi<|Aoi<|Aoi<|Aoi<|Aoi<|Aod<|Aof<|Aof<|Aog ([],[]) λr=>.tup [FW r.1,FW r.2]) (JY N)
theorem lY(N:Nat):AG Tryz.prog 27 (Aa2 N):=by
 refine fk (Aoq x27 (BG (Ab (Nl N)<|Ab (zE N)<|Aj) DX (CP N) DY DZ)) ?_;intro jh jg jf je jd jc jb ja i9 i8 i7 i6 i5 iz r h _ hS F;dsimp only[x27,Ah,Aq];unfold JY at h;obtain⟨jz,eh,h⟩:=un h;replace F:=fc eh F;refine An hS F h (λ_ h=>?_) (λ_ h=>?_)
 ·exact Ai hS F h
 ·obtain⟨⟨r38,jt⟩,ee,h⟩:=un h;exact Ai hS (fc ee F) h
def JZ(N:Nat)(iy:Int)(iw:Int)(iv:Int)(ir:List (Int×Int))(iq:Int)(ip:Int)(im:Int)(ij:Int)(ii:Int)(ig:Int)(ic:Int)(ib:Int)(g9:Int)(g8:Bool):Option ((List Int)×(List Int)):=(Fl N iy iw iv ir iq ip im ij ii ig ic ib g9 g8).bind λjy=>bif !jy then(some ([],[]))else((JQ N 3 iy iw iv ir iq ip im ij ii ig ic ib g9 g8).bind λ(js,r59)=>some (js,r59))
@[go_sem] def Aa3(N:Nat):Spec:=p0<|(Aoh<|Aoe 3<|Aoi<|Aoi<|Aoi<|Aon Aq<|Aoi<|Aoi<|Aoi<|Aoi<|Aoi<|Aoi<|Aoi<|Aoi<|Aoi<|Aod<|Aof<|Aof<|Aog ([],[]) λr=>.tup [FW r.1,FW r.2]) (JZ N)
theorem lZ(N:Nat):AG Tryz.prog 27 (Aa3 N):=by
 refine fk (Aoq x27 (BG (Ab (Nn N)<|Ab (zG N)<|Aj) DX (CP N) DY DZ)) ?_;intro iy iw iv ir iq ip im ij ii ig ic ib g9 g8 r h _ hS F;dsimp only[x27,Ah,Aq];unfold JZ at h;obtain⟨jy,d9,h⟩:=un h;replace F:=fc d9 F;refine An hS F h (λ_ h=>?_) (λ_ h=>?_)
 ·exact Ai hS F h
 ·obtain⟨⟨js,r59⟩,d8,h⟩:=un h;exact Ai hS (fc d8 F) h
def J0(N:Nat)(gz:Int)(gy:Int)(gx:Int)(gw:List (Int×Int))(gv:Int)(gu:Int)(gt:Int)(gr:Int)(gm:Int)(gj:Int)(gi:Int)(gh:Int)(gg:Int)(ge:Bool):Option ((List Int)×(List Int)):=(Fm N gz gy gx gw gv gu gt gr gm gj gi gh gg ge).bind λjx=>bif !jx then(some ([],[]))else((JS N 4 gz gy gx gw gv gu gt gr gm gj gi gh gg ge).bind λ(jr,jq)=>some (jr,jq))
@[go_sem] def Aa4(N:Nat):Spec:=p0<|(Aoh<|Aoe 4<|Aoi<|Aoi<|Aoi<|Aon Aq<|Aoi<|Aoi<|Aoi<|Aoi<|Aoi<|Aoi<|Aoi<|Aoi<|Aoi<|Aod<|Aof<|Aof<|Aog ([],[]) λr=>.tup [FW r.1,FW r.2]) (J0 N)
theorem mA(N:Nat):AG Tryz.prog 27 (Aa4 N):=by
 refine fk (Aoq x27 (BG (Ab (No N)<|Ab (zI N)<|Aj) DX (CP N) DY DZ)) ?_;intro gz gy gx gw gv gu gt gr gm gj gi gh gg ge r h _ hS F;dsimp only[x27,Ah,Aq];unfold J0 at h;obtain⟨jx,d7,h⟩:=un h;replace F:=fc d7 F;refine An hS F h (λ_ h=>?_) (λ_ h=>?_)
 ·exact Ai hS F h
 ·obtain⟨⟨jr,jq⟩,dz,h⟩:=un h;exact Ai hS (fc dz F) h
def J1(N:Nat)(gc:Int)(fx:Int)(fr:Int)(fq:List (Int×Int))(fp:Int)(fo:Int)(fm:Int)(fj:Int)(fh:Int)(fg:Int)(e9:Int)(e8:Int)(ez:Int)(ep:Bool):Option ((List Int)×(List Int)):=(Fo N gc fx fr fq fp fo fm fj fh fg e9 e8 ez ep).bind λjw=>bif !jw then(some ([],[]))else((Kx N 5 gc fx fr fq fp fo fm fj fh fg e9 e8 ez ep).bind λ(jp,jo)=>some (jp,jo))
@[go_sem] def Aa5(N:Nat):Spec:=p0<|(Aoh<|Aoe 5<|Aoi<|Aoi<|Aoi<|Aon Aq<|Aoi<|Aoi<|Aoi<|Aoi<|Aoi<|Aoi<|Aoi<|Aoi<|Aoi<|Aod<|Aof<|Aof<|Aog ([],[]) λr=>.tup [FW r.1,FW r.2]) (J1 N)
theorem mB(N:Nat):AG Tryz.prog 27 (Aa5 N):=by
 refine fk (Aoq x27 (BG (Ab (Np N)<|Ab (zK N)<|Aj) DX (CP N) DY DZ)) ?_;intro gc fx fr fq fp fo fm fj fh fg e9 e8 ez ep r h _ hS F;dsimp only[x27,Ah,Aq];unfold J1 at h;obtain⟨jw,dw,h⟩:=un h;replace F:=fc dw F;refine An hS F h (λ_ h=>?_) (λ_ h=>?_)
 ·exact Ai hS F h
 ·obtain⟨⟨jp,jo⟩,du,h⟩:=un h;exact Ai hS (fc du F) h
def J2(N:Nat)(bp:Int)(bo:Int)(bn:Int)(bm:List (Int×Int))(bl:Int)(bj:Int)(bi:Int)(bh:Int)(bg:Int)(bf:Int)(be:Int)(bb:Int)(ba:Int)(az:Bool):Option ((List Int)×(List Int)):=(Fp N bp bo bn bm bl bj bi bh bg bf be bb ba az).bind λb7=>bif !b7 then(some ([],[]))else((HJ N 6 bp bo bn bm bl bj bi bh bg bf be bb ba az).bind λ(bv,bu)=>some (bv,bu))
@[go_sem] def Aa6(N:Nat):Spec:=p0<|(Aoh<|Aoe 6<|Aoi<|Aoi<|Aoi<|Aon Aq<|Aoi<|Aoi<|Aoi<|Aoi<|Aoi<|Aoi<|Aoi<|Aoi<|Aoi<|Aod<|Aof<|Aof<|Aog ([],[]) λr=>.tup [FW r.1,FW r.2]) (J2 N)
theorem mC(N:Nat):AG Tryz.prog 27 (Aa6 N):=by
 refine fk (Aoq x27 (BG (Ab (Nq N)<|Ab (dD N)<|Aj) DX (CP N) DY DZ)) ?_;intro bp bo bn bm bl bj bi bh bg bf be bb ba az r h _ hS F;dsimp only[x27,Ah,Aq];unfold J2 at h;obtain⟨b7,cn,h⟩:=un h;replace F:=fc cn F;refine An hS F h (λ_ h=>?_) (λ_ h=>?_)
 ·exact Ai hS F h
 ·obtain⟨⟨bv,bu⟩,cj,h⟩:=un h;exact Ai hS (fc cj F) h
def J3(N:Nat)(ay:Int)(av:Int)(au:Int)(aq:List (Int×Int))(an:Int)(am:Int)(ak:Int)(aj:Int)(ai:Int)(ah:Int)(af:Int)(ae:Int)(ab:Int)(aa:Bool):Option ((List Int)×(List Int)):=(Fq N ay av au aq an am ak aj ai ah af ae ab aa).bind λbz=>bif !bz then(some ([],[]))else((HJ N 7 ay av au aq an am ak aj ai ah af ae ab aa).bind λ(br,bq)=>some (br,bq))
@[go_sem] def Aa7(N:Nat):Spec:=p0<|(Aoh<|Aoe 7<|Aoi<|Aoi<|Aoi<|Aon Aq<|Aoi<|Aoi<|Aoi<|Aoi<|Aoi<|Aoi<|Aoi<|Aoi<|Aoi<|Aod<|Aof<|Aof<|Aog ([],[]) λr=>.tup [FW r.1,FW r.2]) (J3 N)
theorem mD(N:Nat):AG Tryz.prog 27 (Aa7 N):=by
 refine fk (Aoq x27 (BG (Ab (Nr N)<|Ab (dD N)<|Aj) DX (CP N) DY DZ)) ?_;intro ay av au aq an am ak aj ai ah af ae ab aa r h _ hS F;dsimp only[x27,Ah,Aq];unfold J3 at h;obtain⟨bz,ci,h⟩:=un h;replace F:=fc ci F;refine An hS F h (λ_ h=>?_) (λ_ h=>?_)
 ·exact Ai hS F h
 ·obtain⟨⟨br,bq⟩,ce,h⟩:=un h;exact Ai hS (fc ce F) h
def J4(N:Nat)(dt:Int)(dq:Int)(dm:Int)(dl:Int)(dh:List (Int×Int))(dg:Int)(de:Int)(db:Int)(da:Int)(cz:Int)(cy:Int)(cu:Int)(cr:Int)(cq:Int)(co:Bool):Option ((List Int)×(List Int)):=(Fr N dt dq dm dl dh dg de db da cz cy cu cr cq co).bind λbw=>gd (bw=false)<|some ([],[])
@[go_sem] def Aa8(N:Nat):Spec:=p0<|(Aoh<|Aoi<|Aoi<|Aoi<|Aoi<|Aon Aq<|Aoi<|Aoi<|Aoi<|Aoi<|Aoi<|Aoi<|Aoi<|Aoi<|Aoi<|Aod<|Aof<|Aof<|Aog ([],[]) λr=>.tup [FW r.1,FW r.2]) (J4 N)
theorem mF(N:Nat):AG Tryz.prog 27 (Aa8 N):=by refine fk (Aoq x27 (BG (Ab (Ns N)<|Aj) DX (CP N) DY DZ)) ?_;intro dt dq dm dl dh dg de db da cz cy cu cr cq co r h _ hS F;dsimp only[x27,Ah,Aq];unfold J4 at h;obtain⟨bw,b9,j5,h⟩:=un h;replace F:=fc j5 (fc b9 F);refine Om hS F ?_;exact Ai hS F h
end
section
attribute [local irreducible] Ax BO BB Bj BC Bk AY BD BK Cq
def BF(N:Nat)(a1:Int)(a2:Int)(a3:Int)(a4:Int)(a5:List (Int×Int))(a6:Int)(a7:Int)(a8:Int)(a9:Int)(bp:Int)(bo:Int)(bn:Int)(bm:Int)(bl:Int)(bj:Bool):Option Bool:=(Lq N a1 a2 a3 a4 a5 a6 a7 a8 a9 bp bo bn bm bl bj).bind λaj=>some aj
@[go_sem] def s31(N:Nat):Spec:=p0<|(Aoh<|Aoi<|Aoi<|Aoi<|Aoi<|Aon Aq<|Aoi<|Aoi<|Aoi<|Aoi<|Aoi<|Aoi<|Aoi<|Aoi<|Aoi<|Aod<|Aof<|Aof<|Aog false .b) (BF N)
theorem pX(N:Nat):AG Tryz.prog 31 (s31 N):=by refine fk (Aoq x31 (Ab (AcM N)<|Aj)) ?_;intro a1 a2 a3 a4 a5 a6 a7 a8 a9 bp bo bn bm bl bj r h _ hS F;dsimp only[x31,Ah,Aq];unfold BF at h;obtain⟨aj,ae,h⟩:=un h;exact Ai hS (fc ae F) h
def CZ(N:Nat)(Ww:List (Int×Int×Int×(List (Int×Int))×Int×Int))(Ws:List (Int×Int×Int×Int×Bool))(bi:Int)(bh:Int)(bg:Int)(bf:Int)(be:List (Int×Int))(bb:Int)(ba:Int)(az:Int)(ay:Int)(av:Int)(au:Int)(aq:Int)(an:Int)(am:Int)(ak:Bool):Option (((List (Int×Int×Int×(List (Int×Int))×Int×Int))×(List (Int×Int×Int×Int×Bool)))×Int):=(Dw N Ww Ws).bind λai=>bif !ai then(some (([],[]),170))else((JW N Ww Ws bi bh bg bf be bb ba az ay av au aq an am ak).bind λ((ah,r38),af)=>some ((ah,r38),af))
@[go_sem] def s22(N:Nat):Spec:=p0<|(Aoh<|qD Ak<|qD AA<|Aof<|Aoh<|Aoi<|Aoi<|Aoi<|Aoi<|qD Aq<|Aoi<|Aoi<|Aoi<|Aoi<|Aoi<|Aoi<|Aoi<|Aoi<|Aoi<|Aod<|Aof<|Aof<|Aog (([],[]),0) λr=>.tup [.agg [Ap r.1.1,AS r.1.2],.i r.2]) (CZ N)
theorem MW(N:Nat):AG Tryz.prog 22 (s22 N):=by
 refine fk (Aoq x22 (Ab (ZG N)<|Ab (pW N)<|Aj)) ?_;intro Ww Ws bi bh bg bf be bb ba az ay av au aq an am ak r h _ hS F;dsimp only[x22,Ah,Aq,AA,Ak];unfold CZ at h;obtain⟨ai,ab,h⟩:=un h;replace F:=fc ab F;refine An hS F h (λ_ h=>?_) (λ_ h=>?_)
 ·exact Ai hS F h
 ·obtain⟨⟨⟨ah,r38⟩,af⟩,aa,h⟩:=un h;exact Ai hS (fc aa F) h
end
structure LkF(hp hp':Hp):Prop where
 c:∀n j x,hl hp (.c n j)=some x->hl hp' (.c n j)=some x
 a:∀n sz live rows d,hl hp (.a n)=some (.sl sz live rows d)->hl hp' (.a n)=some (.sl sz live rows d)
structure LkG(hp:Hp)(cnt:Nat)(args:List AV):Prop where
 a:∀n o,AV.box n o∈args->n.2<=cnt
 h:∀n j x,hl hp (.c n j)=some x->n.2<=cnt
 r:∀n sz live rows d,hl hp (.a n)=some (.sl sz live rows d)->n.2<=cnt
theorem LkF.refl{hp:Hp}:LkF hp hp:=⟨λ_ _ _ h=>h,λ_ _ _ _ _ h=>h⟩
theorem LkF.pc{hp hp':Hp}{cnt:Nat}{args:List AV}(hL:LkG hp cnt args){n:Nm}{j:Nat}{x:AV}(hn:cnt<n.2)(h:LkF hp hp'):LkF hp ((.c n j,x)::hp'):=by
 refine⟨λm i y hy=>?_,λm sz live rows d hy=>?_⟩
 ·rw[hl,dQ λe=>?_]
  ·exact h.c m i y hy
  ·cases e
   have:=hL.h n j y hy;omega
 ·rw[hl,dQ λe=>by cases e];exact h.a m sz live rows d hy
theorem LkF.pa{hp hp':Hp}{cnt:Nat}{args:List AV}(hL:LkG hp cnt args){n:Nm}{x:AV}(hn:cnt<n.2)(h:LkF hp hp'):LkF hp ((.a n,x)::hp'):=by
 refine⟨λm i y hy=>?_,λm sz live rows d hy=>?_⟩
 ·rw[hl,dQ λe=>by cases e];exact h.c m i y hy
 ·rw[hl,dQ λe=>?_]
  ·exact h.a m sz live rows d hy
  ·cases e
   have:=hL.r n sz live rows d hy;omega
theorem HInv.subF{U:Cf}{hp hp':Hp}(h1:HInv U hp)(hs:LkF hp' hp):Evo U {U with ln:=lenOf hp'}/\HInv {U with ln:=lenOf hp'} hp':=by
 let Z:Cf:={U with ln:=lenOf hp'}
 have e:Evo U Z:=by
  refine⟨λ_ h=>⟨h,rfl⟩,λn _ l' hl'=>?_,λ_ _ h h'=>⟨h,h'⟩,rfl,fW _,SameO.refl _⟩;have hl2:lenOf hp' n=some l':=hl';refine⟨l',?_,fW _,λ_=>rfl⟩;rw[h1.ln n];unfold lenOf at hl2⊢;split at hl2
  ·rename_i sz live rows d hn;rw[hs.a _ _ _ _ _ hn];exact hl2
  ·simp at hl2
 have hown:∀p b,Owns Z hp' p b->Owns U hp p b:=by
  rintro p b (⟨g1,g2,j,c,g3⟩|⟨g1,⟨sz,rows,d,g2⟩,o,cap,g3,g4⟩)
  ·exact .inl ⟨g1,g2,j,c,hs.c _ _ _ g3⟩
  ·exact .inr ⟨g1,⟨sz,rows,d,hs.a _ _ _ _ _ g2⟩,o,cap,g3,g4⟩
 refine⟨e,λ_=>rfl,λn j c hc=>?_,λn sz live rows d hc=>?_,λp q b hp hq=>h1.inj p q b (hown p b hp) (hown q b hq),h1.lt,h1.ou,h1.dis⟩
 ·have kk:=h1.cel n j c (hs.c _ _ _ hc);exact kk.keep e kk.2.1 rfl
 ·exact(h1.arr n sz live rows d (hs.a _ _ _ _ _ hc)).keep e rfl λ_ _ _ _ _ _ hM=>⟨hM,rfl⟩
theorem lkg{U:Cf}{hp:Hp}{cnt:Nat}{args:List AV}{xs:List Value}(hI:HInv U hp)(hal:∀m,U.al m->m.2<=cnt)(hx:RepL U args xs):LkG hp cnt args:=by refine⟨λn o hm=>?_,λn j x h=>hal _ (hI.cel n j x h).1,λn sz live rows d h=>hal _ (hI.arr n sz live rows d h).1⟩;obtain⟨i,hi⟩:=List.getElem?_of_mem hm;obtain⟨y,_,hy⟩:=Dr hx i _ hi;exact hal _ hy.1
theorem Mj{P:Program}{S:Tab}(hS:TabOK P S){f:Nat}(x:FnX P f){args vs:List AV}{r:AV}(hfl:B2 r=true)(hn:args.length<=x.nt)(h:∀hb hp cnt,LkG hp cnt args->args.map (qv hp)=vs->Ax (Ctx.fn P S x.nt hb) x.c (Bk x.rv λr' s=>Gn s.hp r'/\LD r'=true/\HD (res s.hp r') r/\LkF hp (frz s.hp (Fu r')++s.hp)) ⟨BQ 0 args,hp,cnt⟩):IA P f args vs r:=by intro U hp xs gl hI hal hx hv;obtain⟨cnt,hal⟩:=hal;refine callsIn_wide.1 ((Jw hS x.hf x.hc x.hn hn gl hI hal hx (h _ hp cnt (lkg hI hal hx) hv)).mono ?_);rintro en w' ⟨v,Z,s,r',rfl,rfl,e,g1,g2,g3,k1,k2,k3,k4⟩;obtain⟨σ1,f1,f2,f3,f4,f5,f6,f7,f8⟩:=g1.frz (Fu r');have hr:=M1 g1 f1 f3 (Fu r') f7 r' v k1 k2 (λ_ h=>h) g3;obtain⟨e2,g4⟩:=f2.subF k4;have e:=(e.trans f1).trans e2;exact⟨v,{σ1 with ln:=lenOf hp,al:=U.al},rfl,f3,⟨λn hn=>⟨hn,(e.box n hn).2⟩,e.arr,e.fro,e.out,e.sz,e.io⟩,hI.fgt g4,λm hm=>hm,Rep.ofPure (U:=σ1) (σ':={σ1 with ln:=lenOf hp,al:=U.al}) (λ_ h=>h) (λ_ _=>rfl) r v hfl ((NP _ _ _ k3).2 hr)⟩
theorem uG{V:Ctx}(hΓ:V.OK){rid t:Nat}{Q:AE->St->Prop}{e:Az}{h:Hp}{c:Nat}(hQ:Q .n ⟨(t,.v (.slice none 0 0))::e,h,c+1⟩):Ax V (.reg rid [⟨some t,none,.mv (.k (.sl 0 true [] []))⟩]) Q ⟨e,h,c⟩:=by
 intro code hc U a hA;cases code with
 |region id ops' d'=>
  simp only[cCode]at hc;obtain⟨l0,hx0,⟨rfl,e0⟩|⟨_,_,_,_,e0⟩⟩:=Cc hc
  ·cases e0
   have ht:t<V.nt:=by
    obtain⟨c1,c2⟩:=C9 hx0;have hsz:ops'.size=1:=by simpa using c1.symm
    obtain⟨yo',g1,g2⟩:=c2 0 ops'[0] (by simp);simp at g1;subst g1;exact DA g2 t rfl
   refine wpIn_region (OS hΓ (i:=0) (rid:=0) hx0 rfl rfl rfl rfl trivial hA λo a1 σ1 ho hk hd hw ev hI hal hfar=>?_);obtain⟨y,hop,hy⟩:=nF hk;have hv:=X6 (a:=a1) hy.symm;unfold wpOpIn;simp only[ho,hw,if_true];refine⟨λf _=>hΓ.F.fn f,?_⟩;rw[Oper.semAt_eq _ a1.eval _ (λc e=>by rcases hop with hop|hop<;>rw[hop]at e<;>cases e)];have hr:(execOp a1.eval o).run V.P σ1.w=.ok (.value (.slice none 0 0)) σ1.w:=by rcases hop with hop|hop<;>simp[execOp,hop,hv]
   rw[hr,Oper.uponIn_value];show wpOpsIn _ _ _ _ _ [] _ _;simp only[wpOpsIn];have hdst:o.dst=some t:=hd;rw[hdst];refine⟨σ1,⟨(t,.v (.slice none 0 0))::e,h,c+1⟩,_,Eq.refl _,V.ofE ev,⟨⟨hI.h,TInv.put (d:=some t) (r:=.v (.slice none 0 0)) hI.t (λk hk=>by cases hk;rw[hI.sz];exact ht) (by simp[Rep]),by rw[Act.size_put];exact hI.sz,?_⟩,hal,V.g hA.2.2 ev λt' ht'=>.inr ?_⟩,rfl,hQ⟩
   ·rw[Act.defers_put,MK ht];exact hI.df
   ·show lk ((t,_)::e) t'=lk e t';rw[lk,dQ (by omega)]
  ·cases e0
 |seq x y=>simp only[cCode]at hc;split at hc<;>simp at hc
 |cond c x y=>simp only[cCode]at hc;split at hc<;>simp at hc
 |rangeFunc f ps x y=>simp only[cCode]at hc;split at hc<;>simp at hc
 |_=>simp[cCode]at hc
theorem uH{rvs:List RV}{e:Az}{h:Hp}{c:Nat}{vc:Prop}{xs:List AV}{x y:AV}{sz:Nat}{d:List AV}(h1:DS e h rvs=some (vc,xs))(h2:vc)(h3:Gn h (one xs))(h4:res h (one xs)=.tup [.v (.slice none 0 0),y])(h5:x=.sl sz false [] d)(h6:B2 y=true):BC rvs (.tup [x,y]) .r ⟨e,h,c⟩:=by
 show Hy _ _ _;refine⟨vc,xs,h1,h2,h3,?_,?_⟩
 ·rw[h4,h5];intro U v hv;simp only[Rep,RepL]at hv⊢;obtain⟨zs,e1,z,zs',e2,e3,e4⟩:=hv;subst e3;exact⟨zs,e1,_,zs',e2,⟨none,0,rfl,fW _,λh=>(by cases h),by simp,.inl trivial⟩,e4⟩
 ·rw[h5];simp[B2,AP,h6]
section
attribute [local irreducible] Ax BO BB Bj BC Bk AY BD BK Cq
def AB(x:Int×(Int×Int×Int×(List (Int×Int))×Int×Int)×Int×Int×Int×(Int×Int×Int×Int×Bool)):List AV:=[.i x.1,.i x.2.1.1,.i x.2.1.2.1,.i x.2.1.2.2.1,BP x.2.1.2.2.2.1,.i x.2.1.2.2.2.2.1,.i x.2.1.2.2.2.2.2,.i x.2.2.1,.i x.2.2.2.1,.i x.2.2.2.2.1,.i x.2.2.2.2.2.1,.i x.2.2.2.2.2.2.1,.i x.2.2.2.2.2.2.2.1,.i x.2.2.2.2.2.2.2.2.1,.b x.2.2.2.2.2.2.2.2.2]
def EV:List AV->Int×(Int×Int×Int×(List (Int×Int))×Int×Int)×Int×Int×Int×(Int×Int×Int×Int×Bool)|[.v (.int _ a1),.v (.int _ a2),.v (.int _ a3),.v (.int _ a4),.sl _ _ a5 _,.v (.int _ a6),.v (.int _ a7),.v (.int _ a8),.v (.int _ a9),.v (.int _ gc),.v (.int _ fx),.v (.int _ fr),.v (.int _ fq),.v (.int _ fp),.v (.bool fo)]=>(a1,(a2,a3,a4,(a5.map Jx),a6,a7),a8,a9,gc,(fx,fr,fq,fp,fo))|_=>(0,(0,0,0,[],0,0),0,0,0,(0,0,0,0,false))
theorem Nu(x:Int×(Int×Int×Int×(List (Int×Int))×Int×Int)×Int×Int×Int×(Int×Int×Int×Int×Bool)):EV (AB x)=x:=by simp only[AB,EV,BP,MR]
theorem Nv(R:List (Int×(Int×Int×Int×(List (Int×Int))×Int×Int)×Int×Int×Int×(Int×Int×Int×Int×Bool))):(R.map AB).map EV=R:=by
 induction R with
 |nil=>rfl
 |cons r R ih=>rw[eG,eG,ih,Nu]
def CR:Rw (Int×(Int×Int×Int×(List (Int×Int))×Int×Int)×Int×Int×Int×(Int×Int×Int×Int×Bool)):=⟨15,AB,EV,[.i 0,.i 0,.i 0,.i 0,.sl 0 true [] [],.i 0,.i 0,.i 0,.i 0,.i 0,.i 0,.i 0,.i 0,.i 0,.b false]⟩
def Ay(l:List (Int×(Int×Int×Int×(List (Int×Int))×Int×Int)×Int×Int×Int×(Int×Int×Int×Int×Bool))):AV:=.sl 15 false (l.map AB) [.i 0,.i 0,.i 0,.i 0,.sl 0 true [] [],.i 0,.i 0,.i 0,.i 0,.i 0,.i 0,.i 0,.i 0,.i 0,.b false]
def EW(l:List (Int×(Int×Int×Int×(List (Int×Int))×Int×Int)×Int×Int×Int×(Int×Int×Int×Int×Bool))):AV:=.sl 15 true (l.map AB) [.i 0,.i 0,.i 0,.i 0,.sl 0 true [] [],.i 0,.i 0,.i 0,.i 0,.i 0,.i 0,.i 0,.i 0,.i 0,.b false]
attribute [go_sem] CR Ay EW AB EV Nv
def FG(N:Nat)(bb:Int)(ba:Int)(az:Int)(ay:Int)(av:List (Int×Int))(au:Int)(aq:Int)(ej:Int)(ei:Int)(eh:Int)(ee:Int)(d9:Int)(d8:Int)(d7:Int)(dz:Bool)(an:Int)(am:Int)(ak:Int)(aj:Int)(ai:List (Int×Int))(ah:Int)(af:Int)(dw:Int)(du:Int)(dt:Int)(dq:Int)(dm:Int)(dl:Int)(dh:Int)(dg:Bool):Option Bool:=gd ((decide (bb=an))=true->((C2 N ba az ay av au aq am ak aj ai ah af).isSome=true))<|some ((((((decide (bb=an))&&((C2 N ba az ay av au aq am ak aj ai ah af).getD false))&&(decide (ej=dw)))&&(decide (ei=du)))&&(decide (eh=dt)))&&(decide (ee=dq)&&(decide (d9=dm)&&(decide (d8=dl)&&(decide (d7=dh)&&(dz==dg))))))
@[go_sem] def s37(N:Nat):Spec:=p0<|(Aoh<|Aoi<|Aoi<|Aoi<|Aoi<|Aon Aq<|Aoi<|Aoi<|Aoi<|Aoi<|Aoi<|Aoi<|Aoi<|Aoi<|Aoi<|Aod<|Aof<|Aoh<|Aoi<|Aoi<|Aoi<|Aoi<|Aon Aq<|Aoi<|Aoi<|Aoi<|Aoi<|Aoi<|Aoi<|Aoi<|Aoi<|Aoi<|Aod<|Aof<|Aof<|Aog false .b) (FG N)
theorem oG(N:Nat):AG Tryz.prog 37 (s37 N):=by refine fk (Aoq x37 (Ab (Zw N)<|Aj)) ?_;intro bb ba az ay av au aq ej ei eh ee d9 d8 d7 dz an am ak aj ai ah af dw du dt dq dm dl dh dg r h _ hS F;dsimp only[x37,Ah,Aq];unfold FG at h;obtain⟨gg,h⟩:=un h;exact Ai hS F h
def FN(N:Nat)(a3589:List (Int×(Int×Int×Int×(List (Int×Int))×Int×Int)×Int×Int×Int×(Int×Int×Int×Int×Bool)))(b3590:List (Int×(Int×Int×Int×(List (Int×Int))×Int×Int)×Int×Int×Int×(Int×Int×Int×Int×Bool))):Nat->Int->Option (Sum Unit Bool)|0,_=>none|n+1,aa=>bif decide (aa<(a3589.length:Int))then((A7 a3589 aa).bind λ(da,(cz,cy,cu,cr,cq,co),cn,cj,ci,(ce,b9,b7,bz,bw))=>(A7 b3590 aa).bind λ(bv,(bu,br,bq,bp,bo,bn),bm,bl,bj,(bi,bh,bg,bf,be))=>(FG N da cz cy cu cr cq co cn cj ci ce b9 b7 bz bw bv bu br bq bp bo bn bm bl bj bi bh bg bf be).bind λdb=>bif !db then(some (.inr false))else(gd (Af (aa+1))<|FN N a3589 b3590 n (aa+1)))else(some (.inl ()))
def Ie(N:Nat)(a3589:List (Int×(Int×Int×Int×(List (Int×Int))×Int×Int)×Int×Int×Int×(Int×Int×Int×Int×Bool)))(b3590:List (Int×(Int×Int×Int×(List (Int×Int))×Int×Int)×Int×Int×Int×(Int×Int×Int×Int×Bool))):Option Bool:=bif decide ((a3589.length:Int)≠(b3590.length:Int))then(some false)else((FN N a3589 b3590 N 0).bind λae=>match ae with|.inl ()=>(some true)|.inr e9=>(some e9))
@[go_sem] def s26(N:Nat):Spec:=p0<|(qD CR<|qD CR<|Aof<|Aog false .b) (Ie N)
theorem Acr(N:Nat):AG Tryz.prog 26 (s26 N):=by
 refine fk (Aoq x26 (Ab (oG N)<|Aj)) ?_;intro a3589 b3590 r h _ hS F;dsimp only[x26,Ah,CR];unfold Ie at h;refine An hS F h (λ_ h=>?_) (λ_ h=>?_)
 ·exact Ai hS F h
 ·obtain⟨ae,fm,h⟩:=un h;refine go hS F ?_;refine Bz ae (λz:Nat=>⟨[],[],z⟩) (λz=>(.inl ():Sum Unit Bool)) (.x 0) ?_ ?_
  ·refine Bp (λn (y:Int×Nat)=>FN N a3589 b3590 n y.1) (λy=>⟨[(0,Ay a3589),(1,Ay b3590),(5,.i y.1)],[],y.2⟩) (0,3) fm (Ch F) ?_;rintro n ⟨aa,de⟩ ab;simp only[FN]at ab;refine An hS F ab (λ_ ab=>?_) (λ_ ab=>?_)
   ·obtain⟨⟨da,⟨cz,cy,cu,cr,cq,co⟩,cn,cj,ci,⟨ce,b9,b7,bz,bw⟩⟩,e8,ab⟩:=un ab;obtain⟨fh,F⟩:=Cb AB e8 F;obtain⟨⟨bv,⟨bu,br,bq,bp,bo,bn⟩,bm,bl,bj,⟨bi,bh,bg,bf,be⟩⟩,ez,ab⟩:=un ab;obtain⟨fg,F⟩:=Cb AB ez F;obtain⟨db,ep,ab⟩:=un ab;replace F:=fc ep F;refine An hS F ab (λ_ ab=>?_) (λ_ ab=>?_)
    ·obtain rfl:=yJ ab;exact Ai hS F h
    ·obtain⟨ge,ab⟩:=un ab;exact Cd hS F (n,aa+1,de+1+1+1) ab
   ·exact B4 hS F (de+1) ab
  ·rintro fj rfl;exact Ai hS F h
end
section
attribute [local irreducible] Ax BO BB Bj BC Bk AY BD BK Cq
section
variable{n:Nm}{vs:List AV}{a0 a1 a2 a3 a5 a6 a7 a8 a9 a10 a11 a12 a13:Int}{y4:Nat}{f4:Bool}{s4:List (List AV)}{d4:List AV}{a14:Bool}
theorem mQ:IA Tryz.prog 135 [.box n 0,.agg [.v (.int .i64 a0),.v (.int .i64 a1),.v (.int .i64 a2),.v (.int .i64 a3),.sl y4 f4 s4 d4,.v (.int .i64 a5),.v (.int .i64 a6),.v (.int .i64 a7),.v (.int .i64 a8),.v (.int .i64 a9),.v (.int .i64 a10),.v (.int .i64 a11),.v (.int .i64 a12),.v (.int .i64 a13),.v (.bool a14)]] vs (Ay [(2,(0,0,0,[],0,0),a1,0,0,(0,0,0,0,false))]):=by
 have hS:=Aj (P:=Tryz.prog);refine Mj hS x135 rfl (oL rfl) λhb hp cnt hL hv=>?_
 have F:=f0;dsimp only[x135,Ah];refine go hS F ?_;refine HU (ev F) (ev F) ⟨by simp only[go_sem,seval],rfl,by simp only[go_sem,seval],?_⟩;simp only[go_sem,seval]
 repeat' first|exact LkF.refl|refine LkF.pc hL (by simp only;omega) ?_|refine LkF.pa hL (by simp only;omega) ?_
theorem fH(h1:Af (-a8))(h2:Af (-a9)):IA Tryz.prog 158 [.box n 0,.agg [.v (.int .i64 a0),.v (.int .i64 a1),.v (.int .i64 a2),.v (.int .i64 a3),.sl y4 f4 s4 d4,.v (.int .i64 a5),.v (.int .i64 a6),.v (.int .i64 a7),.v (.int .i64 a8),.v (.int .i64 a9),.v (.int .i64 a10),.v (.int .i64 a11),.v (.int .i64 a12),.v (.int .i64 a13),.v (.bool a14)]] vs (Ay [(4,(0,0,0,[],0,0),a7,-a8,-a9,(0,0,0,0,false))]):=by
 have hS:=Aj (P:=Tryz.prog);refine Mj hS x158 rfl (oL rfl) λhb hp cnt hL hv=>?_
 have F:=fc h1 (fc h2 f0);dsimp only[x158,Ah];refine go hS F ?_;refine HU (ev F) (ev F) ⟨by simp only[go_sem,seval],rfl,by simp only[go_sem,seval],?_⟩;simp only[go_sem,seval]
 repeat' first|exact LkF.refl|refine LkF.pc hL (by simp only;omega) ?_|refine LkF.pa hL (by simp only;omega) ?_
theorem mR:IA Tryz.prog 172 [.box n 0,.agg [.v (.int .i64 a0),.v (.int .i64 a1),.v (.int .i64 a2),.v (.int .i64 a3),.sl y4 f4 s4 d4,.v (.int .i64 a5),.v (.int .i64 a6),.v (.int .i64 a7),.v (.int .i64 a8),.v (.int .i64 a9),.v (.int .i64 a10),.v (.int .i64 a11),.v (.int .i64 a12),.v (.int .i64 a13),.v (.bool a14)]] vs (Ay [(7,(0,0,0,[],0,0),a7,0,0,(0,0,0,0,false))]):=by
 have hS:=Aj (P:=Tryz.prog);refine Mj hS x172 rfl (oL rfl) λhb hp cnt hL hv=>?_
 have F:=f0;dsimp only[x172,Ah];refine go hS F ?_;refine HU (ev F) (ev F) ⟨by simp only[go_sem,seval],rfl,by simp only[go_sem,seval],?_⟩;simp only[go_sem,seval]
 repeat' first|exact LkF.refl|refine LkF.pc hL (by simp only;omega) ?_|refine LkF.pa hL (by simp only;omega) ?_
theorem fI:IA Tryz.prog 174 [.box n 0,.agg [.v (.int .i64 a0),.v (.int .i64 a1),.v (.int .i64 a2),.v (.int .i64 a3),.sl y4 f4 s4 d4,.v (.int .i64 a5),.v (.int .i64 a6),.v (.int .i64 a7),.v (.int .i64 a8),.v (.int .i64 a9),.v (.int .i64 a10),.v (.int .i64 a11),.v (.int .i64 a12),.v (.int .i64 a13),.v (.bool a14)]] vs (Ay [(6,(0,0,0,[],0,0),a7,0,0,(0,0,0,0,false))]):=by
 have hS:=Aj (P:=Tryz.prog);refine Mj hS x174 rfl (oL rfl) λhb hp cnt hL hv=>?_
 have F:=f0;dsimp only[x174,Ah];refine go hS F ?_;refine HU (ev F) (ev F) ⟨by simp only[go_sem,seval],rfl,by simp only[go_sem,seval],?_⟩;simp only[go_sem,seval]
 repeat' first|exact LkF.refl|refine LkF.pc hL (by simp only;omega) ?_|refine LkF.pa hL (by simp only;omega) ?_
end
theorem Abh{hp:Hp}{n:Nm}{c c2:AV}(hc:∃z f r d,c=.sl z f r d)(hc2:∃z f r d,c2=.sl z f r d)(h:qv hp (.box n 0)=.agg [c,c2]):hl hp (.c n 0)=some c/\hl hp (.c n 1)=some c2:=by
 obtain⟨z,f,r,d,rfl⟩:=hc;obtain⟨z2,f2,r2,d2,rfl⟩:=hc2;simp only[qv,AV.agg.injEq]at h;cases hb:C0 hp n 0 40 with
 |nil=>rw[hb]at h;cases h
 |cons x xs=>
  cases xs with
  |nil=>rw[hb]at h;simp at h
  |cons x2 xs=>
   rw[hb]at h;simp only[eG,List.cons.injEq]at h;have hx:=I5 40 0 0 x (by rw[hb];rfl);have hx2:=I5 40 0 1 x2 (by rw[hb];rfl);have aux:∀{x z f r d},K2 hp x=.sl z f r d->x=.sl z f r d:=by
    intro x z f r d h1;cases x with
    |mp m=>simp only[K2]at h1;split at h1<;>cases h1
    |_=>simp only[K2]at h1;first|exact h1|cases h1
   have e1:=aux h.1;have e2:=aux h.2.1;subst e1 e2;exact⟨by have:=hx.1;rw[Gt]at this;exact this,by have:=hx2.1;exact this⟩
abbrev AcT:=Int×Un×Int×Int×Int×Mk
def N2(N:Nat)(us:List Un)(ms:List Mk)(a0 a1 a2 a3:Int)(a4:List (Int×Int))(a5 a6 a7 a8 a9 a10 a11 a12 a13:Int)(a14:Bool):Option (List AcT):=(CC N ms a0 a1 a2 a3 a4 a5 a6 a7 a8 a9 a10 a11 a12 a13 a14).bind λb=>bif b then some []else match Dk N us a7 with|some (u,true)=>some [(1,u,0,0,0,(0,0,0,0,false))]|_=>none
def pZ:List AcT->AV|[]=>.v (.slice none 0 0)|x::l=>Ay (x::l)
attribute [local go_sem] pZ
section
variable(N:Nat){n:Nm}{a0 a1 a2 a3 a5 a6 a7 a8 a9 a10 a11 a12 a13:Int}{y4:Nat}{s4:List (List AV)}{d4:List AV}{a14:Bool}{y y2:Nat}{fl fl2:Bool}{s s2:List (List AV)}{d d2:List AV}
attribute [local go_sem] qU qv K2
theorem mS{rr:List AcT}(hy:y=6\/s=[])(hw:Hk s ((s.map B1).map Au))(hy2:y2=5\/s2=[])(hw2:s2=(s2.map E8).map BZ)(h4:((y4=2/\False=False)/\d4=[.i 0,.i 0])/\s4=(s4.map Jx).map Cz)(hu:N2 N (s.map B1) (s2.map E8) a0 a1 a2 a3 (s4.map Jx) a5 a6 a7 a8 a9 a10 a11 a12 a13 a14=some rr):IA Tryz.prog 145 [.box n 0,.agg [.v (.int .i64 a0),.v (.int .i64 a1),.v (.int .i64 a2),.v (.int .i64 a3),.sl y4 false s4 d4,.v (.int .i64 a5),.v (.int .i64 a6),.v (.int .i64 a7),.v (.int .i64 a8),.v (.int .i64 a9),.v (.int .i64 a10),.v (.int .i64 a11),.v (.int .i64 a12),.v (.int .i64 a13),.v (.bool a14)]] [.agg [.sl y fl s d,.sl y2 fl2 s2 d2],.agg [.v (.int .i64 a0),.v (.int .i64 a1),.v (.int .i64 a2),.v (.int .i64 a3),.sl y4 false s4 d4,.v (.int .i64 a5),.v (.int .i64 a6),.v (.int .i64 a7),.v (.int .i64 a8),.v (.int .i64 a9),.v (.int .i64 a10),.v (.int .i64 a11),.v (.int .i64 a12),.v (.int .i64 a13),.v (.bool a14)]] (pZ rr):=by
 have hS:=BG (Ab (XI N)<|Aj) (L3 N) (CP N) H3 (H2 N);refine Mj hS x145 (by cases rr<;>rfl) (oL rfl) λhb hp cnt hL hv=>?_
 obtain⟨n1,n2⟩:=n;simp only[eG,tV,List.cons.injEq,and_true]at hv;obtain⟨h0,h1⟩:=Abh ⟨_,_,_,_,rfl⟩ ⟨_,_,_,_,rfl⟩ hv.1;have hn:=hL.a (n1,n2) 0 (by simp);obtain⟨⟨⟨rfl,_⟩,rfl⟩,h4⟩:=h4;generalize hl4:s4.map Jx=l4 at h4 hu;generalize hl2:s2.map E8=l2 at hw2 hu;subst h4 hw2;have F:=fc (show(y=6\/s=[])=True from eq_true hy) (fc (show Hk s ((s.map B1).map Au)=True from eq_true hw) (fc (show(y2=5\/l2=[])=True from eq_true (by simpa using hy2)) (fc (show∀k j,hl hp (.c (k,cnt+1) j)=none from λk j=>by
  cases e:hl hp (.c (k,cnt+1) j)with
  |none=>rfl
  |some x=>exact absurd (hL.h _ _ _ e) (by simp))<|fc h0 (fc h1 (fc (show(cnt+1=n2)=False by simp at hn⊢;omega) (fc (show(cnt+1+1=n2)=False by simp at hn⊢;omega) (fc (show(cnt+1+1+1=n2)=False by simp at hn⊢;omega) (fc (show(cnt+1+1+1+1=n2)=False by simp at hn⊢;omega) f0))))))))
 unfold N2 at hu;dsimp only[x145,Ah];cases hc:CC N l2 a0 a1 a2 a3 l4 a5 a6 a7 a8 a9 a10 a11 a12 a13 a14 with
 |none=>rw[hc]at hu;cases hu
 |some b=>
  rw[hc]at hu;replace F:=fc hc F;cases b with
  |true=>
   cases hu
   refine go hS F ?_;refine ct F ?_;refine CK (uG (Ctx.fn_ok hS) (DW ?_));refine go hS F ?_;refine HU (ev F) (ev F) ⟨by simp only[go_sem,seval],rfl,by simp only[go_sem,seval],?_⟩;simp only[go_sem,seval]
   repeat' first|exact LkF.refl|refine LkF.pc hL (by simp only;omega) ?_|refine LkF.pa hL (by simp only;omega) ?_
  |false=>
   dsimp only[Option.bind,cond]at hu;split at hu
   ·rename_i u hu3;cases hu
    replace F:=fc hu3 F;refine go hS F ?_;refine cf F ?_;refine go hS F ?_;refine HU (ev F) (ev F) ⟨by simp only[go_sem,seval],rfl,by simp only[go_sem,seval],?_⟩;simp only[go_sem,seval]
    repeat' first|exact LkF.refl|refine LkF.pc hL (by simp only;omega) ?_|refine LkF.pa hL (by simp only;omega) ?_
   ·cases hu
end
end
attribute [local irreducible] Ax BO BB Bj BC Bk AY BD BK Cq
theorem AcQ{S F G:Prop}{E:Type}{a r:E}(hS:S)(f:F)(h:some a=some r)(t:S->(r=a/\F)->G:=by
 intro hS f
 repeat' (first
  |(with_reducible (first|apply DD|apply EA|apply Eu|apply FL|apply DE|apply DF|apply GD|apply GE);(·(first|exact Ctx.fn_ok hS|exact Ctx.rd_ok hS|assumption|exact yT|exact Ctx.rdG_ok hS));iterate 2 (·(simp only[go_sem,seval,f]<;>eq_refl)))
  |with_reducible (first|apply Dz|apply En|apply Di|apply Dj|apply CX|apply Cw|apply CK|apply DW|apply Ec|apply Eo|apply Ep|apply Er|apply Es)
  |(with_reducible apply Et;(·first|rfl|decide))
  |(with_reducible apply A4;(·simp))
  |with_reducible (first|apply HV|apply HW|apply HX|apply DB|apply DC|apply Ex|apply Ey|apply Ez|apply yT|apply And.intro yT yT)
  |(fail_if_success with_reducible apply G1);(fail_if_success with_reducible apply Ew);first|with_reducible apply And.intro|omega|(simp only[go_sem,seval,f];done)|with_reducible assumption|(refine And.intro ?_ ?_)|(intro hg;simp_all;done)|decide|grind)
 refine uH (by simp only[go_sem,seval,f]<;>eq_refl) (by simp only[go_sem,seval,f]) (by simp only[go_sem,seval,f]) (by first|(simp only[go_sem,seval,f];done)|(simp only[go_sem,seval,f];rfl)) (by simp only[go_sem,seval,f]<;>rfl) rfl):G:=t hS ⟨(yJ h).symm,f⟩
def qUD(N:Nat):Nat->List AV->List AV->Option (Prop×AV):=λf args vs=>if f=135 then(match args with|[.box _ 0,.agg [.v (.int .i64 a0),.v (.int .i64 a1),.v (.int .i64 a2),.v (.int .i64 a3),.sl _ _ _ _,.v (.int .i64 a5),.v (.int .i64 a6),.v (.int .i64 a7),.v (.int .i64 a8),.v (.int .i64 a9),.v (.int .i64 a10),.v (.int .i64 a11),.v (.int .i64 a12),.v (.int .i64 a13),.v (.bool a14)]]=>some (True,Ay [(2,(0,0,0,[],0,0),a1,0,0,(0,0,0,0,false))])|_=>none)else if f=158 then(match args with|[.box _ 0,.agg [.v (.int .i64 a0),.v (.int .i64 a1),.v (.int .i64 a2),.v (.int .i64 a3),.sl _ _ _ _,.v (.int .i64 a5),.v (.int .i64 a6),.v (.int .i64 a7),.v (.int .i64 a8),.v (.int .i64 a9),.v (.int .i64 a10),.v (.int .i64 a11),.v (.int .i64 a12),.v (.int .i64 a13),.v (.bool a14)]]=>some (Af (-a8)/\Af (-a9),Ay [(4,(0,0,0,[],0,0),a7,-a8,-a9,(0,0,0,0,false))])|_=>none)else if f=172 then(match args with|[.box _ 0,.agg [.v (.int .i64 a0),.v (.int .i64 a1),.v (.int .i64 a2),.v (.int .i64 a3),.sl _ _ _ _,.v (.int .i64 a5),.v (.int .i64 a6),.v (.int .i64 a7),.v (.int .i64 a8),.v (.int .i64 a9),.v (.int .i64 a10),.v (.int .i64 a11),.v (.int .i64 a12),.v (.int .i64 a13),.v (.bool a14)]]=>some (True,Ay [(7,(0,0,0,[],0,0),a7,0,0,(0,0,0,0,false))])|_=>none)else if f=174 then(match args with|[.box _ 0,.agg [.v (.int .i64 a0),.v (.int .i64 a1),.v (.int .i64 a2),.v (.int .i64 a3),.sl _ _ _ _,.v (.int .i64 a5),.v (.int .i64 a6),.v (.int .i64 a7),.v (.int .i64 a8),.v (.int .i64 a9),.v (.int .i64 a10),.v (.int .i64 a11),.v (.int .i64 a12),.v (.int .i64 a13),.v (.bool a14)]]=>some (True,Ay [(6,(0,0,0,[],0,0),a7,0,0,(0,0,0,0,false))])|_=>none)else
 if f=145 then(match args,vs with
  |[.box _ 0,.agg [.v (.int .i64 a0),.v (.int .i64 a1),.v (.int .i64 a2),.v (.int .i64 a3),.sl y4 false s4 d4,.v (.int .i64 a5),.v (.int .i64 a6),.v (.int .i64 a7),.v (.int .i64 a8),.v (.int .i64 a9),.v (.int .i64 a10),.v (.int .i64 a11),.v (.int .i64 a12),.v (.int .i64 a13),.v (.bool a14)]],[.agg [.sl y _ s _,.sl y2 _ s2 _],_]=>match N2 N (s.map B1) (s2.map E8) a0 a1 a2 a3 (s4.map Jx) a5 a6 a7 a8 a9 a10 a11 a12 a13 a14 with|some rr=>some (((y=6\/s=[])/\Hk s ((s.map B1).map Au))/\((y2=5\/s2=[])/\s2=(s2.map E8).map BZ)/\((y4=2/\d4=[.i 0,.i 0])/\s4=(s4.map Jx).map Cz),pZ rr)|none=>none
  |_,_=>none)else qU N f args vs
theorem N3(N:Nat):∀f args vs vc r,qUD N f args vs=some (vc,r)->vc->Dh Tryz.prog f/\IA Tryz.prog f args vs r:=by
 intro f args vs vc r h hv;unfold qUD at h;split at h
 ·rename_i hf;subst hf;split at h
  ·cases h
   exact⟨x135.ok,mQ⟩
  ·cases h
 split at h
 ·rename_i hf;subst hf;split at h
  ·cases h
   exact⟨x158.ok,fH hv.1 hv.2⟩
  ·cases h
 split at h
 ·rename_i hf;subst hf;split at h
  ·cases h
   exact⟨x172.ok,mR⟩
  ·cases h
 split at h
 ·rename_i hf;subst hf;split at h
  ·cases h
   exact⟨x174.ok,fI⟩
  ·cases h
 split at h
 ·rename_i hf;subst hf;split at h
  ·rename_i v2;split at h
   ·rename_i rr hu;cases h
    obtain⟨⟨h1,h2⟩,⟨h3,h4⟩,⟨h5,h6⟩,h7⟩:=hv;refine⟨x145.ok,λU hp xs gl hI hal hx hvs=>?_⟩;have hii:=hvs;simp only[eG,tV,List.cons.injEq,and_true]at hii;have e:=hii.2;rw[show∀l,qv hp (.agg l)=.agg l from λ_=>rfl]at e;subst e;exact mS N h1 h2 h3 h4 ⟨⟨⟨h5,rfl⟩,h6⟩,h7⟩ hu U hp xs gl hI hal hx hvs
   ·cases h
  ·cases h
 ·exact L3 N f args vs vc r h hv
