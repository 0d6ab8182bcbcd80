import Derived.Test.YtjdchfljifacoaaGreatH4
set_option linter.all false
set_option maxRecDepth 100000
set_option maxHeartbeats 8000000
namespace Go.Proofs.YtjdchfljifacoaaGreat.Am
open Go
section
attribute [local irreducible] Ax BO BB Bj BC Bk AY BD BK Cq
attribute [local go_sem] kF Nj JT JU
def Fj(N:Nat)(a2:Int)(a3:Int)(a4:Int)(a5:List (Int×Int))(a6:Int)(a7:Int)(a8:Int)(a9:Int)(jf:Int)(eh:Int)(ee:Int)(dl:Int)(cz:Int)(cy:Bool):Option Bool:=(Ks N 1 a2 a3 a4 a5 a6 a7 a8 a9 jf eh ee dl cz cy).bind λe8=>some (e8&&(decide (eh=0)&&(decide (ee=0)&&(decide (dl=0)&&(decide (cz=0)&&(cy==false))))))
@[go_sem] def zO(N:Nat):Spec:=p0<|(Aoh<|Aoe 1<|Aoi<|Aoi<|Aoi<|Aon Aq<|Aoi<|Aoi<|Aoi<|Aoi<|Aoi<|Aoi<|Aoi<|Aoi<|Aoi<|Aod<|Aof<|Aof<|Aog false λr=>.tup [.agg [.clo (.func 130) [] [],.clo (.func 131) [] [],.clo (.func 133) [] [],.clo (.func 135) [] [],.clo (.func 136) [] []],.b r]) (Fj N)
theorem Nk(N:Nat):AG Tryz.prog 64 (zO N):=by refine fk (Aoq x64 (BG (Ab (yZ N)<|Aj) DX (CP N) DY DZ)) ?_;intro a2 a3 a4 a5 a6 a7 a8 a9 jf eh ee dl cz cy r h _ hS F;dsimp only[x64,Ah,Aq];unfold Fj at h;refine Om hS F ?_;obtain⟨e8,bm,h⟩:=un h;exact Ai hS (fc bm F) h
def Fk(N:Nat)(je:Int)(jd:Int)(jc:Int)(jb:List (Int×Int))(ja:Int)(i9:Int)(i8:Int)(i7:Int)(i6:Int)(cu:Int)(cr:Int)(cq:Int)(co:Int)(cn:Bool):Option Bool:=(Ku N 2 je jd jc jb ja i9 i8 i7 i6 cu cr cq co cn).bind λez=>some (ez&&(decide (cu=0)&&(decide (cr=0)&&(decide (cq=0)&&(decide (co=0)&&(cn==false))))))
@[go_sem] def zP(N:Nat):Spec:=p0<|(Aoh<|Aoe 2<|Aoi<|Aoi<|Aoi<|Aon Aq<|Aoi<|Aoi<|Aoi<|Aoi<|Aoi<|Aoi<|Aoi<|Aoi<|Aoi<|Aod<|Aof<|Aof<|Aog false λr=>.tup [.agg [.clo (.func 139) [] [],.clo (.func 141) [] [],.clo (.func 142) [] [],.clo (.func 145) [] [],.clo (.func 149) [] []],.b r]) (Fk N)
theorem Nl(N:Nat):AG Tryz.prog 64 (zP N):=by refine fk (Aoq x64 (BG (Ab (zD N)<|Aj) DX (CP N) DY DZ)) ?_;intro je jd jc jb ja i9 i8 i7 i6 cu cr cq co cn r h _ hS F;dsimp only[x64,Ah,Aq];unfold Fk at h;refine Om hS F ?_;obtain⟨ez,bl,h⟩:=un h;exact Ai hS (fc bl F) h
def Fl(N:Nat)(i5:Int)(iz:Int)(iy:Int)(iw:List (Int×Int))(iv:Int)(ir:Int)(iq:Int)(ip:Int)(im:Int)(cj:Int)(ci:Int)(ce:Int)(b9:Int)(b7:Bool):Option Bool:=(JP N 3 i5 iz iy iw iv ir iq ip im cj ci ce b9 b7).bind λep=>some (ep&&(decide (cj=0)&&(decide (ci=0)&&(decide (ce=0)&&(decide (b9=0)&&(b7==false))))))
@[go_sem] def zQ(N:Nat):Spec:=p0<|(Aoh<|Aoe 3<|Aoi<|Aoi<|Aoi<|Aon Aq<|Aoi<|Aoi<|Aoi<|Aoi<|Aoi<|Aoi<|Aoi<|Aoi<|Aoi<|Aod<|Aof<|Aof<|Aog false λr=>.tup [.agg [.clo (.func 150) [] [],.clo (.func 151) [] [],.clo (.func 152) [] [],.v .nilFunc,.clo (.func 154) [] []],.b r]) (Fl N)
theorem Nn(N:Nat):AG Tryz.prog 64 (zQ N):=by refine fk (Aoq x64 (BG (Ab (zF N)<|Aj) DX (CP N) DY DZ)) ?_;intro i5 iz iy iw iv ir iq ip im cj ci ce b9 b7 r h _ hS F;dsimp only[x64,Ah,Aq];unfold Fl at h;refine Om hS F ?_;obtain⟨ep,bj,h⟩:=un h;exact Ai hS (fc bj F) h
def Fm(N:Nat)(ij:Int)(ii:Int)(ig:Int)(ic:List (Int×Int))(ib:Int)(g9:Int)(g8:Int)(gz:Int)(gy:Int)(bz:Int)(bw:Int)(bv:Int)(bu:Int)(br:Bool):Option Bool:=(JR N 4 ij ii ig ic ib g9 g8 gz gy bz bw bv bu br).bind λej=>some (ej&&(decide (bz=0)&&(decide (bw=0)&&(decide (bv=0)&&(decide (bu=0)&&(br==false))))))
@[go_sem] def zT(N:Nat):Spec:=p0<|(Aoh<|Aoe 4<|Aoi<|Aoi<|Aoi<|Aon Aq<|Aoi<|Aoi<|Aoi<|Aoi<|Aoi<|Aoi<|Aoi<|Aoi<|Aoi<|Aod<|Aof<|Aof<|Aog false λr=>.tup [.agg [.clo (.func 155) [] [],.clo (.func 156) [] [],.clo (.func 157) [] [],.clo (.func 158) [] [],.clo (.func 159) [] []],.b r]) (Fm N)
theorem No(N:Nat):AG Tryz.prog 64 (zT N):=by refine fk (Aoq x64 (BG (Ab (zH N)<|Aj) DX (CP N) DY DZ)) ?_;intro ij ii ig ic ib g9 g8 gz gy bz bw bv bu br r h _ hS F;dsimp only[x64,Ah,Aq];unfold Fm at h;refine Om hS F ?_;obtain⟨ej,bi,h⟩:=un h;exact Ai hS (fc bi F) h
def Fo(N:Nat)(gx:Int)(gw:Int)(gv:Int)(gu:List (Int×Int))(gt:Int)(gr:Int)(gm:Int)(gj:Int)(gi:Int)(gh:Int)(gg:Int)(ge:Int)(gc:Int)(fx:Bool):Option Bool:=(Kw N 5 gx gw gv gu gt gr gm gj gi gh gg ge gc fx).bind λei=>some (ei||false)
@[go_sem] def zV(N:Nat):Spec:=p0<|(Aoh<|Aoe 5<|Aoi<|Aoi<|Aoi<|Aon Aq<|Aoi<|Aoi<|Aoi<|Aoi<|Aoi<|Aoi<|Aoi<|Aoi<|Aoi<|Aod<|Aof<|Aof<|Aog false λr=>.tup [.agg [.clo (.func 163) [] [],.clo (.func 164) [] [],.clo (.func 165) [] [],.v .nilFunc,.clo (.func 169) [] []],.b r]) (Fo N)
theorem Np(N:Nat):AG Tryz.prog 64 (zV N):=by refine fk (Aoq x64 (BG (Ab (zJ N)<|Aj) DX (CP N) DY DZ)) ?_;intro gx gw gv gu gt gr gm gj gi gh gg ge gc fx r h _ hS F;dsimp only[x64,Ah,Aq];unfold Fo at h;refine KR hS F ?_;obtain⟨ei,bh,h⟩:=un h;exact Ai hS (fc bh F) h
def Fp(N:Nat)(fr:Int)(fq:Int)(fp:Int)(fo:List (Int×Int))(fm:Int)(fj:Int)(fh:Int)(fg:Int)(e9:Int)(bq:Int)(bp:Int)(bo:Int)(bn:Int)(aj:Bool):Option Bool:=(HI N 6 fr fq fp fo fm fj fh fg e9 bq bp bo bn aj).bind λam=>some (am&&(decide (bq=0)&&(decide (bp=0)&&(decide (bo=0)&&(decide (bn=0)&&(aj==false))))))
@[go_sem] def zW(N:Nat):Spec:=p0<|(Aoh<|Aoe 6<|Aoi<|Aoi<|Aoi<|Aon Aq<|Aoi<|Aoi<|Aoi<|Aoi<|Aoi<|Aoi<|Aoi<|Aoi<|Aoi<|Aod<|Aof<|Aof<|Aog false λr=>.tup [.agg [.clo (.func 160) [] [],.clo (.func 161) [] [],.clo (.func 170) [] [],.clo (.func 172) [] [],.clo (.func 162) [] []],.b r]) (Fp N)
theorem Nq(N:Nat):AG Tryz.prog 64 (zW N):=by refine fk (Aoq x64 (BG (Ab (dC N)<|Aj) DX (CP N) DY DZ)) ?_;intro fr fq fp fo fm fj fh fg e9 bq bp bo bn aj r h _ hS F;dsimp only[x64,Ah,Aq];unfold Fp at h;refine KR hS F ?_;obtain⟨am,aq,h⟩:=un h;exact Ai hS (fc aq F) h
def Fq(N:Nat)(bg:Int)(bf:Int)(be:Int)(bb:List (Int×Int))(ba:Int)(az:Int)(ay:Int)(av:Int)(au:Int)(ai:Int)(ah:Int)(af:Int)(ae:Int)(ab:Bool):Option Bool:=(HI N 7 bg bf be bb ba az ay av au ai ah af ae ab).bind λak=>some (ak&&(decide (ai=0)&&(decide (ah=0)&&(decide (af=0)&&(decide (ae=0)&&(ab==false))))))
@[go_sem] def zX(N:Nat):Spec:=p0<|(Aoh<|Aoe 7<|Aoi<|Aoi<|Aoi<|Aon Aq<|Aoi<|Aoi<|Aoi<|Aoi<|Aoi<|Aoi<|Aoi<|Aoi<|Aoi<|Aod<|Aof<|Aof<|Aog false λr=>.tup [.agg [.clo (.func 160) [] [],.clo (.func 161) [] [],.clo (.func 173) [] [],.clo (.func 174) [] [],.clo (.func 162) [] []],.b r]) (Fq N)
theorem Nr(N:Nat):AG Tryz.prog 64 (zX N):=by refine fk (Aoq x64 (BG (Ab (dC N)<|Aj) DX (CP N) DY DZ)) ?_;intro bg bf be bb ba az ay av au ai ah af ae ab r h _ hS F;dsimp only[x64,Ah,Aq];unfold Fq at h;refine KR hS F ?_;obtain⟨ak,an,h⟩:=un h;exact Ai hS (fc an F) h
def Fr(N:Nat)(aa:Int)(d9:Int)(d8:Int)(d7:Int)(dz:List (Int×Int))(dw:Int)(du:Int)(dt:Int)(dq:Int)(dm:Int)(dh:Int)(dg:Int)(de:Int)(db:Int)(da:Bool):Option Bool:=gd (((1:Int)=aa)=False)<|gd (((2:Int)=aa)=False)<|gd (((3:Int)=aa)=False)<|gd (((4:Int)=aa)=False)<|gd (((5:Int)=aa)=False)<|gd (((6:Int)=aa)=False)<|gd (((7:Int)=aa)=False)<|some false
@[go_sem] def zY(N:Nat):Spec:=p0<|(Aoh<|Aoi<|Aoi<|Aoi<|Aoi<|Aon Aq<|Aoi<|Aoi<|Aoi<|Aoi<|Aoi<|Aoi<|Aoi<|Aoi<|Aoi<|Aod<|Aof<|Aof<|Aog false λr=>.tup [.agg [.v .nilFunc,.v .nilFunc,.v .nilFunc,.v .nilFunc,.v .nilFunc],.b r]) (Fr N)
theorem Ns(N:Nat):AG Tryz.prog 64 (zY N):=by refine fk (Aoq x64 (BG (Aj) DX (CP N) DY DZ)) ?_;intro aa d9 d8 d7 dz dw du dt dq dm dh dg de db da r h _ hS F;dsimp only[x64,Ah,Aq];unfold Fr at h;obtain⟨jm,jl,jk,jj,h⟩:=un h;replace F:=fc jj (fc jk (fc jl (fc jm F)));refine KR hS F ?_;obtain⟨ji,jh,jg,h⟩:=un h;exact Ai hS (fc jg (fc jh (fc ji F))) h
end
section
attribute [local irreducible] Ax BO BB Bj BC Bk AY BD BK Cq
def CF(N:Nat)(m1:Int)(m2:Int)(m3:Int)(m4:Int)(m5:Bool)(x6:Int):Option Bool:=some (decide (m2=x6))
@[go_sem] def Aer(N:Nat):Spec:=p0<|(Aoh<|Aoi<|Aoi<|Aoi<|Aoi<|Aod<|Aof<|Aol<|Aoi<|Aof<|Aof<|Aog false .b) (CF N)
theorem Wu(N:Nat):AG Tryz.prog 190 (Aer N):=by refine fk (Aoq AlX (Aj)) ?_;intro m1 m2 m3 m4 m5 x6 r h _ hS F;dsimp only[AlX,Ah];unfold CF at h;exact Ai hS F h
def GW(N:Nat)(m7:Int)(m8:Int)(m9:Int)(ge:Int)(gc:Bool)(x12:Int):Option Bool:=some (decide (m7=x12))
@[go_sem] def Aes(N:Nat):Spec:=p0<|(Aoh<|Aoi<|Aoi<|Aoi<|Aoi<|Aod<|Aof<|Aol<|Aoi<|Aof<|Aof<|Aog false .b) (GW N)
theorem zZ(N:Nat):AG Tryz.prog 196 (Aes N):=by refine fk (Aoq AlY (Aj)) ?_;intro m7 m8 m9 ge gc x12 r h _ hS F;dsimp only[AlY,Ah];unfold GW at h;exact Ai hS F h
def Lf(N:Nat)(fx:Int)(ei:Int)(fr:Int)(fq:Int)(fp:Bool)(x18:Int)(x19:Int)(x20:Int)(x21:Int)(x22:List (Int×Int))(x23:Int)(x24:Int)(x25:Int)(x26:Int)(x27:Int)(x28:Int)(x29:Int)(x30:Int)(x31:Int)(x32:Bool):Option Bool:=some (decide (ei=x25))
@[go_sem] def Aet(N:Nat):Spec:=p0<|(Aoh<|Aoi<|Aoi<|Aoi<|Aoi<|Aod<|Aof<|Aol<|Aoi<|Aoi<|Aoi<|Aoi<|Aom Aq<|Aoi<|Aoi<|Aoi<|Aoi<|Aoi<|Aoi<|Aoi<|Aoi<|Aoi<|Aod<|Aof<|Aof<|Aog false .b) (Lf N)
theorem Aaa(N:Nat):AG Tryz.prog 147 (Aet N):=by refine fk (Aoq AjL (Aj)) ?_;intro fx ei fr fq fp x18 x19 x20 x21 x22 x23 x24 x25 x26 x27 x28 x29 x30 x31 x32 r h _ hS F;dsimp only[AjL,Ah,Aq];unfold Lf at h;exact Ai hS F h
def F0(N:Nat)(eh:Int)(fo:Int)(fm:Int)(fj:Int)(fh:Bool)(br:Int):Option Int:=(F3 N eh br).bind λee=>some ee
@[go_sem] def Aeu(N:Nat):Spec:=p0<|(Aoh<|Aoi<|Aoi<|Aoi<|Aoi<|Aod<|Aof<|Aoi<|Aof<|Aog 0 .i) (F0 N)
theorem Aab(N:Nat):AG Tryz.prog 167 (Aeu N):=by refine fk (Aoq AkU (Ab (cI N)<|Aj)) ?_;intro eh fo fm fj fh br r h _ hS F;dsimp only[AkU,Ah];unfold F0 at h;obtain⟨ee,d7,h⟩:=un h;exact Ai hS (fc d7 F) h
def Bc(N:Nat)(s41:List (Int×Int×Int×Int×Bool))(bj:Int):Nat->Int->Option (Sum Unit Int)|0,_=>none|n+1,x53=>bif decide (x53<(s41.length:Int))then((A7 s41 x53).bind λ(x54,x55,x56,x57,x58)=>(CF N x54 x55 x56 x57 x58 bj).bind λr60=>bif r60 then(some (.inr x53))else(gd (Af (x53+1))<|Bc N s41 bj n (x53+1)))else(some (.inl ()))
def Bt(N:Nat)(s41:List (Int×Int×Int×Int×Bool))(bj:Int):Option Int:=(Bc N s41 bj N 0).bind λdq=>match dq with|.inl ()=>(some (-1))|.inr fg=>(some fg)
@[go_sem] def dE(N:Nat):Spec:=p0<|(Aon AA<|Aok 190<|Aol<|Aoi<|Aof<|Aof<|Aof<|Aog 0 .i) (Bt N)
theorem Rh(N:Nat):AG Tryz.prog 191 (dE N):=by
 refine fk (Aoq Ags (Ab (Wu N)<|Aj)) ?_;intro s41 bj r h _ hS F;dsimp only[Ags,Ah,AA];unfold Bt at h;obtain⟨dq,az,h⟩:=un h;refine go hS F ?_;refine Bz dq (λz:Nat=>⟨[],[],z⟩) (λz=>(.inl ():Sum Unit Int)) (.x 0) ?_ ?_
 ·refine Bp (λn (y:Int×Nat)=>Bc N s41 bj n y.1) (λy=>⟨[(0,AS s41),(1,.clo (.func 190) [] [.ro [.i bj] 0]),(7,.i (s41.length:Int)),(8,.i y.1)],[],y.2⟩) (0,2) az (Ch F) ?_;rintro n ⟨x53,e8⟩ ab;simp only[Bc]at ab;refine An hS F ab (λ_ ab=>?_) (λ_ ab=>?_)
  ·obtain⟨⟨x54,x55,x56,x57,x58⟩,d9,ab⟩:=un ab;obtain⟨gj,F⟩:=Cb BZ d9 F;obtain⟨r60,dz,ab⟩:=un ab;replace F:=fc dz F;refine An hS F ab (λ_ ab=>?_) (λ_ ab=>?_)
   ·obtain rfl:=yJ ab;exact Ai hS F h
   ·obtain⟨du,ab⟩:=un ab;exact Cd hS F (n,x53+1,e8+1+1+1+1) ab
  ·exact B4 hS F (e8+1) ab
 ·rintro gv rfl;exact Ai hS F h
def Bd(N:Nat)(s67:List (Int×Int×Int×Int×Bool))(bi:Int):Nat->Int->Option (Sum Unit Int)|0,_=>none|n+1,x79=>bif decide (x79<(s67.length:Int))then((A7 s67 x79).bind λ(x80,x81,x82,x83,x84)=>(GW N x80 x81 x82 x83 x84 bi).bind λr86=>bif r86 then(some (.inr x79))else(gd (Af (x79+1))<|Bd N s67 bi n (x79+1)))else(some (.inl ()))
def Bu(N:Nat)(s67:List (Int×Int×Int×Int×Bool))(bi:Int):Option Int:=(Bd N s67 bi N 0).bind λdm=>match dm with|.inl ()=>(some (-1))|.inr e9=>(some e9)
@[go_sem] def dF(N:Nat):Spec:=p0<|(Aon AA<|Aok 196<|Aol<|Aoi<|Aof<|Aof<|Aof<|Aog 0 .i) (Bu N)
theorem Ri(N:Nat):AG Tryz.prog 191 (dF N):=by
 refine fk (Aoq Ags (Ab (zZ N)<|Aj)) ?_;intro s67 bi r h _ hS F;dsimp only[Ags,Ah,AA];unfold Bu at h;obtain⟨dm,az,h⟩:=un h;refine go hS F ?_;refine Bz dm (λz:Nat=>⟨[],[],z⟩) (λz=>(.inl ():Sum Unit Int)) (.x 0) ?_ ?_
 ·refine Bp (λn (y:Int×Nat)=>Bd N s67 bi n y.1) (λy=>⟨[(0,AS s67),(1,.clo (.func 196) [] [.ro [.i bi] 0]),(7,.i (s67.length:Int)),(8,.i y.1)],[],y.2⟩) (0,2) az (Ch F) ?_;rintro n ⟨x79,ez⟩ ab;simp only[Bd]at ab;refine An hS F ab (λ_ ab=>?_) (λ_ ab=>?_)
  ·obtain⟨⟨x80,x81,x82,x83,x84⟩,d8,ab⟩:=un ab;obtain⟨gi,F⟩:=Cb BZ d8 F;obtain⟨r86,dw,ab⟩:=un ab;replace F:=fc dw F;refine An hS F ab (λ_ ab=>?_) (λ_ ab=>?_)
   ·obtain rfl:=yJ ab;exact Ai hS F h
   ·obtain⟨du,ab⟩:=un ab;exact Cd hS F (n,x79+1,ez+1+1+1+1) ab
  ·exact B4 hS F (ez+1) ab
 ·rintro gu rfl;exact Ai hS F h
def CB(N:Nat)(s93:List (Int×Int×Int×Int×Bool))(bh:Int)(bg:Int)(bf:Int)(be:Int)(bb:List (Int×Int))(ba:Int)(av:Int)(au:Int)(aq:Int)(an:Int)(am:Int)(ak:Int)(aj:Int)(ai:Int)(ah:Bool):Nat->Int->Option (Sum Unit Int)|0,_=>none|n+1,AjK=>bif decide (AjK<(s93.length:Int))then((A7 s93 AjK).bind λ(AjV,AkJ,AkK,x123,AkL)=>(Lf N AjV AkJ AkK x123 AkL bh bg bf be bb ba av au aq an am ak aj ai ah).bind λbq=>bif bq then(some (.inr AjK))else(gd (Af (AjK+1))<|CB N s93 bh bg bf be bb ba av au aq an am ak aj ai ah n (AjK+1)))else(some (.inl ()))
def DU(N:Nat)(s93:List (Int×Int×Int×Int×Bool))(bh:Int)(bg:Int)(bf:Int)(be:Int)(bb:List (Int×Int))(ba:Int)(av:Int)(au:Int)(aq:Int)(an:Int)(am:Int)(ak:Int)(aj:Int)(ai:Int)(ah:Bool):Option Int:=(CB N s93 bh bg bf be bb ba av au aq an am ak aj ai ah N 0).bind λay=>match ay with|.inl ()=>(some (-1))|.inr dl=>(some dl)
@[go_sem] def dG(N:Nat):Spec:=p0<|(Aon AA<|Aok 147<|Aol<|Aoi<|Aoi<|Aoi<|Aoi<|Aom Aq<|Aoi<|Aoi<|Aoi<|Aoi<|Aoi<|Aoi<|Aoi<|Aoi<|Aoi<|Aod<|Aof<|Aof<|Aof<|Aog 0 .i) (DU N)
theorem XH(N:Nat):AG Tryz.prog 191 (dG N):=by
 refine fk (Aoq Ags (Ab (Aaa N)<|Aj)) ?_;intro s93 bh bg bf be bb ba av au aq an am ak aj ai ah r h _ hS F;dsimp only[Ags,Ah,Aq,AA];unfold DU at h;obtain⟨ay,az,h⟩:=un h;refine go hS F ?_;refine Bz ay (λz:Nat=>⟨[],[],z⟩) (λz=>(.inl ():Sum Unit Int)) (.x 0) ?_ ?_
 ·refine Bp (λn (y:Int×Nat)=>CB N s93 bh bg bf be bb ba av au aq an am ak aj ai ah n y.1) (λy=>⟨[(0,AS s93),(1,.clo (.func 147) [] [.ro [.i bh,.i bg,.i bf,.i be,BP bb,.i ba,.i av,.i au,.i aq,.i an,.i am,.i ak,.i aj,.i ai,.b ah] 0]),(7,.i (s93.length:Int)),(8,.i y.1)],[],y.2⟩) (0,2) az (Ch F) ?_;rintro n ⟨AjK,dh⟩ ab;simp only[CB]at ab;refine An hS F ab (λ_ ab=>?_) (λ_ ab=>?_)
  ·obtain⟨⟨AjV,AkJ,AkK,x123,AkL⟩,b7,ab⟩:=un ab;obtain⟨ep,F⟩:=Cb BZ b7 F;obtain⟨bq,bw,ab⟩:=un ab;replace F:=fc bw F;refine An hS F ab (λ_ ab=>?_) (λ_ ab=>?_)
   ·obtain rfl:=yJ ab;exact Ai hS F h
   ·obtain⟨du,ab⟩:=un ab;exact Cd hS F (n,AjK+1,dh+1+1+1+1) ab
  ·exact B4 hS F (dh+1) ab
 ·rintro gr rfl;exact Ai hS F h
def CC(N:Nat)(bn:List (Int×Int×Int×Int×Bool))(dg:Int)(de:Int)(db:Int)(da:Int)(cz:List (Int×Int))(cy:Int)(cu:Int)(cr:Int)(cq:Int)(co:Int)(cn:Int)(cj:Int)(ci:Int)(ce:Int)(b9:Bool):Option Bool:=(DU N bn dg de db da cz cy cu cr cq co cn cj ci ce b9).bind λbp=>some (decide (0<=bp))
@[go_sem] def dH(N:Nat):Spec:=p0<|(Aon AA<|Aok 147<|Aol<|Aoi<|Aoi<|Aoi<|Aoi<|Aom Aq<|Aoi<|Aoi<|Aoi<|Aoi<|Aoi<|Aoi<|Aoi<|Aoi<|Aoi<|Aod<|Aof<|Aof<|Aof<|Aog false .b) (CC N)
theorem XI(N:Nat):AG Tryz.prog 146 (dH N):=by refine fk (Aoq AlO (Ab (XH N)<|Aj)) ?_;intro bn dg de db da cz cy cu cr cq co cn cj ci ce b9 r h _ hS F;dsimp only[AlO,Ah,Aq,AA];unfold CC at h;obtain⟨bp,bv,h⟩:=un h;exact Ai hS (fc bv F) h
def AT(N:Nat)(x151:List (Int×Int×Int×Int×Bool))(aa:Int):Nat->Int->Int->Option Int|0,_,_=>none|n+1,ae,af=>bif decide (ae<af)then(gd (Af (ae+af))<|(A7 x151 (IntKind.wrap .i64 (CW .shr .u64 (IntKind.wrap .u64 (ae+af)) 1))).bind λ(x165,AkT,AkU,bm,AkV)=>(F0 N x165 AkT AkU bm AkV aa).bind λbo=>bif decide (bo<0)then(gd (Af ((IntKind.wrap .i64 (CW .shr .u64 (IntKind.wrap .u64 (ae+af)) 1))+1))<|AT N x151 aa n ((IntKind.wrap .i64 (CW .shr .u64 (IntKind.wrap .u64 (ae+af)) 1))+1) af)else(AT N x151 aa n ae (IntKind.wrap .i64 (CW .shr .u64 (IntKind.wrap .u64 (ae+af)) 1))))else(some ae)
def BE(N:Nat)(x151:List (Int×Int×Int×Int×Bool))(aa:Int):Option (Int×Bool):=(AT N x151 aa N 0 (x151.length:Int)).bind λi177=>gd ((decide (i177<(x151.length:Int)))=true->(0<=i177/\i177<(x151.length:Int)))<|gd ((decide (i177<(x151.length:Int)))=true->((F0 N ((x151.getD i177.toNat (0,0,0,0,false)).1) ((x151.getD i177.toNat (0,0,0,0,false)).2.1) ((x151.getD i177.toNat (0,0,0,0,false)).2.2.1) ((x151.getD i177.toNat (0,0,0,0,false)).2.2.2.1) ((x151.getD i177.toNat (0,0,0,0,false)).2.2.2.2) aa).isSome=true))<|some (i177,(decide (i177<(x151.length:Int)))&&(decide ((F0 N ((x151.getD i177.toNat (0,0,0,0,false)).1) ((x151.getD i177.toNat (0,0,0,0,false)).2.1) ((x151.getD i177.toNat (0,0,0,0,false)).2.2.1) ((x151.getD i177.toNat (0,0,0,0,false)).2.2.2.1) ((x151.getD i177.toNat (0,0,0,0,false)).2.2.2.2) aa).getD 0=0)))
@[go_sem] def dI(N:Nat):Spec:=p0<|(Aon AA<|Aoi<|Aok 167<|Aof<|Aof<|Aog (0,false) λr=>.tup [.i r.1,.b r.2]) (BE N)
theorem XJ(N:Nat):AG Tryz.prog 166 (dI N):=by
 refine fk (Aoq AkT (Ab (Aab N)<|Aj)) ?_;intro x151 aa r h _ hS F;dsimp only[AkT,Ah,AA];unfold BE at h;obtain⟨dt,az,h⟩:=un h;refine go hS F ?_;refine Bz dt (λz:Int×Nat=>⟨[(0,AS x151),(1,.i aa),(2,.clo (.func 167) [] []),(8,.i (x151.length:Int)),(9,.i z.1)],[],z.2⟩) (λz=>(z.1:Int)) (.x 0) ?_ ?_
 ·refine Bp (λn (y:Int×Int×Nat)=>AT N x151 aa n y.1 y.2.1) (λy=>⟨[(0,AS x151),(1,.i aa),(2,.clo (.func 167) [] []),(8,.i (x151.length:Int)),(9,.i y.1),(10,.i y.2.1)],[],y.2.2⟩) (0,(x151.length:Int),3) az (Ch F) ?_;rintro n ⟨ae,af,bl⟩ ab;simp only[AT]at ab;refine An hS F ab (λ_ ab=>?_) (λ_ ab=>?_)
  ·obtain⟨du,⟨x165,AkT,AkU,bm,AkV⟩,bz,ab⟩:=un ab;obtain⟨ej,F⟩:=Cb BZ bz F;obtain⟨bo,bu,ab⟩:=un ab;replace F:=fc bu F;refine An hS F ab (λ_ ab=>?_) (λ_ ab=>?_)
   ·obtain⟨gt,ab⟩:=un ab;exact Cd hS F (n,(IntKind.wrap .i64 (CW .shr .u64 (IntKind.wrap .u64 (ae+af)) 1))+1,af,bl+1+1+1+1) ab
   ·exact Cd hS F (n,ae,IntKind.wrap .i64 (CW .shr .u64 (IntKind.wrap .u64 (ae+af)) 1),bl+1+1+1+1) ab
  ·exact B4 hS F (ae,bl+1) ab
 ·rintro⟨i177,gm⟩ rfl;obtain⟨gh,gg,h⟩:=un h;by_cases hi:i177<(x151.length:Int)
  ·have hd:decide (i177<(x151.length:Int))=true:=aB hi;obtain⟨c,hc⟩:=yX (gg hd);have hq:=(Cb BZ (Ou (0,0,0,0,false) (gh hd).1 hi) F).2.1;exact Ai hS (fc hc (fc hd (fc hq F))) h
  ·have hd:decide (i177<(x151.length:Int))=false:=bJ hi;exact Ai hS (fc (bI BZ hi) (fc hd F)) h
end
section
attribute [local irreducible] Ax BO BB Bj BC Bk AY BD BK Cq
def Kq(x:List (Int×Int)):List AV:=[BP x]
def SC:List AV->List (Int×Int)|[.sl _ _ a1 _]=>(a1.map Jx)|_=>[]
def Zt:Rw (List (Int×Int)):=⟨1,Kq,SC,[.sl 0 true [] []]⟩
def QP(l:List (List (Int×Int))):AV:=.sl 1 false (l.map Kq) [.sl 0 true [] []]
def AbW(l:List (List (Int×Int))):AV:=.sl 1 true (l.map Kq) [.sl 0 true [] []]
attribute [go_sem] Zt QP AbW Kq SC
def Bq(N:Nat)(slices1478:List (List (Int×Int))):Nat->Int->Int->Option Int|0,_,_=>none|n+1,aa,ai=>bif decide (ai<(slices1478.length:Int))then((A7 slices1478 ai).bind λx1485=>gd (Af (aa+(x1485.length:Int)))<|gd ((decide (aa+(x1485.length:Int)<0))=false)<|gd (Af (ai+1))<|Bq N slices1478 n (aa+(x1485.length:Int)) (ai+1))else(some aa)
def Br(N:Nat)(slices1478:List (List (Int×Int))):Nat->Int->(List (Int×Int))->Option ((List (Int×Int)))|0,_,_=>none|n+1,ah,l1512=>bif decide (ah<(slices1478.length:Int))then((A7 slices1478 ah).bind λx1513=>gd ((l1512.length+x1513.length)*16<=140737488355328)<|gd (Af (ah+1))<|Br N slices1478 n (ah+1) (l1512++x1513))else(some l1512)
def C7(N:Nat)(slices1478:List (List (Int×Int))):Nat->Int->(List (Int×Int))->Option ((List (Int×Int)))|0,_,_=>none|n+1,af,l1530=>bif decide (af<(slices1478.length:Int))then((A7 slices1478 af).bind λx1531=>gd ((l1530.length+x1531.length)*16<=140737488355328)<|gd (Af (af+1))<|C7 N slices1478 n (af+1) (l1530++x1531))else(some l1530)
def BX(N:Nat)(slices1478:List (List (Int×Int))):Option (List (Int×Int)):=(Bq N slices1478 N 0 0).bind λab=>gd ((decide (ab<0))=false)<|gd (Af (ab-0))<|bif decide (0<ab-0)then(gd (0<=0/\0<=0/\0<=0)<|gd (0<ab-0)<|gd ((ab-0)*16<=140737488355328)<|(Br N slices1478 N 0 []).bind λaq=>some aq)else((C7 N slices1478 N 0 []).bind λan=>some an)
@[go_sem] def AdU(N:Nat):Spec:=p0<|(qD Zt<|Aof<|Aog [] BP) (BX N)
theorem yK(N:Nat):AG Tryz.prog 193 (AdU N):=by
 refine fk (Aoq Akl (rL<|Aj)) ?_;intro slices1478 r h _ hS F;dsimp only[Akl,Ah,Zt];unfold BX at h;obtain⟨bg,ce,h⟩:=un h;refine go hS F ?_;refine Bz bg (λz:Int×Nat=>⟨[(0,QP slices1478),(3,.i z.1)],[],z.2⟩) (λz=>(z.1:Int)) (.x 0) ?_ ?_
 ·refine Bp (λn (y:Int×Int×Nat)=>Bq N slices1478 n y.1 y.2.1) (λy=>⟨[(0,QP slices1478),(3,.i y.1),(9,QP slices1478),(10,.i (slices1478.length:Int)),(11,.i y.2.1)],[],y.2.2⟩) (0,0,3) ce (Ch F) ?_;rintro n ⟨aa,ai,ay⟩ am;simp only[Bq]at am;refine An hS F am (λ_ am=>?_) (λ_ am=>?_)
  ·obtain⟨x1485,bb,cn,bq,am⟩:=un am;obtain⟨bj,F⟩:=Cb Kq bb F;refine go hS F ?_;refine cb F (decide (aa+(x1485.length:Int)<0)) (λhc5=>?_) (λhc5=>?_)
   ·exact Bool.noConfusion (hc5.symm.trans bq)
   obtain⟨cj,am⟩:=un am;exact Cd hS F (n,aa+(x1485.length:Int),ai+1,ay+1+1+1+1+1) am
  ·exact B4 hS F (aa,ay+1) am
 ·rintro⟨ab,ae⟩ rfl;refine go hS F ?_;refine GO hS 1 x205.hf x205.hc x205.hn x205.ok rfl (ev F) (ev F) ?_ rfl (ev F) (oL rfl) λhb=>?_
  ·exact Bl hS F
  dsimp only[x205,Ah];obtain⟨bp,h⟩:=un h;refine go hS F ?_;refine cb F (decide (ab<0)) (λhc8=>?_) (λhc8=>?_)
  ·exact Bool.noConfusion (hc8.symm.trans bp)
  obtain⟨ci,h⟩:=un h;refine An hS F h (λ_ h=>?_) (λ_ h=>?_)
  ·obtain⟨b9,b7,bz,h⟩:=un h;obtain⟨bf,bm,h⟩:=un h;refine go hS F ?_;refine Bz bf (λz:(List (Int×Int))×Nat=>⟨[(6,.own (508,ae+1+1+1+1+1+1) z.1.length)],[(.a (508,ae+1+1+1+1+1+1),LK z.1)],z.2⟩) (λz=>(z.1:(List (Int×Int)))) (.x 2) ?_ ?_
   ·refine Bp (λn (y:Int×(List (Int×Int))×Nat)=>Br N slices1478 n y.1 y.2.1) (λy=>⟨[(6,.own (508,ae+1+1+1+1+1+1) y.2.1.length),(25,QP slices1478),(26,.i (slices1478.length:Int)),(27,.i y.1)],[(.a (508,ae+1+1+1+1+1+1),LK y.2.1)],y.2.2⟩) (0,[],ae+1+1+1+1+1+1+1+1+1) bm (Ch F) ?_;rintro n ⟨ah,l1512,av⟩ ak;simp only[Br]at ak;refine An hS F ak (λ_ ak=>?_) (λ_ ak=>?_)
    ·obtain⟨x1513,ba,bw,bv,ak⟩:=un ak;obtain⟨bi,F⟩:=Cb Kq ba F;exact Cd hS F (n,ah+1,l1512++x1513,av+1+1+1+1) ak
    ·exact B4 hS F (l1512,av+1) ak
   ·rintro⟨aq,bo⟩ rfl;exact Ai hS F h
  ·refine go hS F ?_;refine DT 1000001 6 2 [.i 0,.i 0] (by show(6:Nat)<36;omega) (by omega) (ev F) ?_;obtain⟨be,bl,h⟩:=un h;refine go hS F ?_;refine Bz be (λz:(List (Int×Int))×Nat=>⟨[(6,.own (1000001,ae+1+1+1+1+1+1+1+1+1) z.1.length)],[(.a (1000001,ae+1+1+1+1+1+1+1+1+1),LK z.1)],z.2⟩) (λz=>(z.1:(List (Int×Int)))) (.x 2) ?_ ?_
   ·refine Bp (λn (y:Int×(List (Int×Int))×Nat)=>C7 N slices1478 n y.1 y.2.1) (λy=>⟨[(6,.own (1000001,ae+1+1+1+1+1+1+1+1+1) y.2.1.length),(25,QP slices1478),(26,.i (slices1478.length:Int)),(27,.i y.1)],[(.a (1000001,ae+1+1+1+1+1+1+1+1+1),LK y.2.1)],y.2.2⟩) (0,[],ae+1+1+1+1+1+1+1+1+1) bl (Ch F) ?_;rintro n ⟨af,l1530,au⟩ aj;simp only[C7]at aj;refine An hS F aj (λ_ aj=>?_) (λ_ aj=>?_)
    ·obtain⟨x1531,az,bu,br,aj⟩:=un aj;obtain⟨bh,F⟩:=Cb Kq az F;exact Cd hS F (n,af+1,l1530++x1531,au+1+1+1+1) aj
    ·exact B4 hS F (l1530,au+1) aj
   ·rintro⟨an,bn⟩ rfl;exact Ai hS F h
end
section
attribute [local irreducible] Ax BO BB Bj BC Bk AY BD BK Cq
def Id(N:Nat)(l1539:List (Int×Int))(i1540:Int)(k1541:Int):Option ((List (Int×Int))×(List (Int×Int))×Int):=(Cy N l1539).bind λaa=>bif ((!aa)||(decide (min i1540 k1541<0)))||(decide ((l1539.length:Int)<=max i1540 k1541))then(some ([],[],70))else(bif decide (i1540<=k1541)then(gd (Af (k1541+1))<|gd (0<=i1540/\i1540<=k1541+1/\k1541+1<=(l1539.length:Int))<|gd ((l1539.drop i1540.toNat).take ((k1541+1).toNat-i1540.toNat)≠[])<|gd ((((l1539.drop i1540.toNat).take ((k1541+1).toNat-i1540.toNat)).length)*16<=140737488355328)<|bif decide (k1541<=i1540)then(gd (Af (i1540+1))<|gd (0<=k1541/\k1541<=i1540+1/\i1540+1<=(l1539.length:Int))<|gd ((l1539.drop k1541.toNat).take ((i1540+1).toNat-k1541.toNat)≠[])<|gd ((((l1539.drop k1541.toNat).take ((i1540+1).toNat-k1541.toNat)).length)*16<=140737488355328)<|bif decide (min (((l1539.drop i1540.toNat).take ((k1541+1).toNat-i1540.toNat)).length:Int) (((l1539.drop k1541.toNat).take ((i1540+1).toNat-k1541.toNat)).length:Int)<3)then(some ([],[],70))else(some ((l1539.drop i1540.toNat).take ((k1541+1).toNat-i1540.toNat),(l1539.drop k1541.toNat).take ((i1540+1).toNat-k1541.toNat),0)))else(gd (0<=k1541/\k1541<=(l1539.length:Int))<|gd (Af (i1540+1))<|gd (0<=0/\0<=i1540+1/\i1540+1<=(l1539.length:Int))<|(BX N [l1539.drop k1541.toNat,l1539.take ((i1540+1).toNat-0)]).bind λr1544=>bif decide (min (((l1539.drop i1540.toNat).take ((k1541+1).toNat-i1540.toNat)).length:Int) (r1544.length:Int)<3)then(some ([],[],70))else(some ((l1539.drop i1540.toNat).take ((k1541+1).toNat-i1540.toNat),r1544,0))))else(gd (0<=i1540/\i1540<=(l1539.length:Int))<|gd (Af (k1541+1))<|gd (0<=0/\0<=k1541+1/\k1541+1<=(l1539.length:Int))<|(BX N [l1539.drop i1540.toNat,l1539.take ((k1541+1).toNat-0)]).bind λr1546=>bif decide (k1541<=i1540)then(gd (Af (i1540+1))<|gd (0<=k1541/\k1541<=i1540+1/\i1540+1<=(l1539.length:Int))<|gd ((l1539.drop k1541.toNat).take ((i1540+1).toNat-k1541.toNat)≠[])<|gd ((((l1539.drop k1541.toNat).take ((i1540+1).toNat-k1541.toNat)).length)*16<=140737488355328)<|bif decide (min (r1546.length:Int) (((l1539.drop k1541.toNat).take ((i1540+1).toNat-k1541.toNat)).length:Int)<3)then(some ([],[],70))else(some (r1546,(l1539.drop k1541.toNat).take ((i1540+1).toNat-k1541.toNat),0)))else(gd (0<=k1541/\k1541<=(l1539.length:Int))<|gd (Af (i1540+1))<|gd (0<=0/\0<=i1540+1/\i1540+1<=(l1539.length:Int))<|(BX N [l1539.drop k1541.toNat,l1539.take ((i1540+1).toNat-0)]).bind λr1548=>bif decide (min (r1546.length:Int) (r1548.length:Int)<3)then(some ([],[],70))else(some (r1546,r1548,0)))))
@[go_sem] def RH(N:Nat):Spec:=p0<|(Aon Aq<|Aoi<|Aoi<|Aof<|Aog ([],[],0) λr=>.tup [BP r.1,BP r.2.1,.i r.2.2]) (Id N)
theorem yL(N:Nat):AG Tryz.prog 153 (RH N):=by
 refine fk (Aoq AlQ (Ab (P8 N)<|Ab (yK N)<|Aj)) ?_;intro l1539 i1540 k1541 r h _ hS F;dsimp only[AlQ,Ah,Aq];unfold Id at h;obtain⟨aa,ah,h⟩:=un h;replace F:=fc ah F;refine An hS F h (λ_ h=>?_) (λ_ h=>?_)
 ·exact Ai hS F h
 ·refine go hS F ?_;refine TR hS 3 7 (by decide) x192.hf x192.hc x192.hn x192.ok x192.hf x192.hc x192.hn x192.ok rfl rfl (ev F) (ev F) (ev F) ?_ rfl (ev F) (oL rfl) λhb=>?_
  ·exact Bl hS F
  dsimp only[x192,Ah];refine An hS F h (λ_ h=>?_) (λ_ h=>?_)
  ·obtain⟨bn,bm,h⟩:=un h;refine go hS F ?_;refine GO hS 5 x87.hf x87.hc x87.hn x87.ok rfl (ev F) (ev F) ?_ rfl (ev F) (oL rfl) λhb=>?_
   ·exact Bl hS F
   dsimp only[x87,Ah];obtain⟨bl,h⟩:=un h;refine KR hS F ?_;obtain⟨bj,h⟩:=un h;refine go hS F ?_
   first|refine Vt (ev F) (ev F) ?_ ?_ rfl (ev F) (by simp) λhb=>?_|refine Vs (ev F) (ev F) ?_ ?_ rfl (ev F) (by simp) λhb=>?_
   ·exact Bl hS F
   ·exact Bl hS F
   try dsimp only[x192,Ah]
   refine An hS F h (λ_ h=>?_) (λ_ h=>?_)
   ·obtain⟨bi,bh,h⟩:=un h;refine go hS F ?_;refine GO hS 5 x87.hf x87.hc x87.hn x87.ok rfl (ev F) (ev F) ?_ rfl (ev F) (oL rfl) λhb=>?_
    ·exact Bl hS F
    dsimp only[x87,Ah];obtain⟨bg,h⟩:=un h;refine KR hS F ?_;obtain⟨bf,h⟩:=un h;refine An hS F h (λ_ h=>?_) (λ_ h=>?_)
    ·exact Ai hS F h
    ·exact Ai hS F h
   ·obtain⟨be,bb,ba,r1544,af,h⟩:=un h;replace F:=fc af F;refine An hS F h (λ_ h=>?_) (λ_ h=>?_)
    ·exact Ai hS F h
    ·exact Ai hS F h
  ·obtain⟨az,ay,av,r1546,ae,h⟩:=un h;replace F:=fc ae F;refine go hS F ?_
   first|refine Vt (ev F) (ev F) ?_ ?_ rfl (ev F) (by simp) λhb=>?_|refine Vs (ev F) (ev F) ?_ ?_ rfl (ev F) (by simp) λhb=>?_
   ·exact Bl hS F
   ·exact Bl hS F
   try dsimp only[x192,Ah]
   refine An hS F h (λ_ h=>?_) (λ_ h=>?_)
   ·obtain⟨au,aq,h⟩:=un h;refine go hS F ?_;refine GO hS 5 x87.hf x87.hc x87.hn x87.ok rfl (ev F) (ev F) ?_ rfl (ev F) (oL rfl) λhb=>?_
    ·exact Bl hS F
    dsimp only[x87,Ah];obtain⟨an,h⟩:=un h;refine KR hS F ?_;obtain⟨am,h⟩:=un h;refine An hS F h (λ_ h=>?_) (λ_ h=>?_)
    ·exact Ai hS F h
    ·exact Ai hS F h
   ·obtain⟨ak,aj,ai,r1548,ab,h⟩:=un h;replace F:=fc ab F;refine An hS F h (λ_ h=>?_) (λ_ h=>?_)
    ·exact Ai hS F h
    ·exact Ai hS F h
end
section
attribute [local irreducible] Ax BO BB Bj BC Bk AY BD BK Cq
attribute [local irreducible] E3
noncomputable def x189:=Ah (f:=189) AD Tryz.func189 []
theorem SI{P:Program}{f:Nat}{S:Tab}{args:List AV}{r:AV}(x:FnX P f)(hS:TabOK P S)(h:∀hb,TabOK P S->([]:List Nat).length=0->Ax (Ctx.fd P S x.nt hb) x.c (Q5 P S x.nt x.rv r) ⟨(dk x.nt,.gd false (.tup []))::BQ 0 args,[],0⟩)(hn:args.length<=x.nt:=by exact oL rfl):PCall P f args r:=Vv hS x.nt x.hf x.hc x.hn hn λhb=>h hb hS rfl
def Aob{P:Program}{f:Nat}(x:FnX P f)(S:Tab)(args:List AV)(r:AV):Prop:=∀hb,TabOK P S->([]:List Nat).length=0->Ax (Ctx.fd P S x.nt hb) x.c (Q5 P S x.nt x.rv r) ⟨(dk x.nt,.gd false (.tup []))::BQ 0 args,[],0⟩
theorem Aop{P:Program}{f:Nat}{S:Tab}(x:FnX P f)(hS:TabOK P S):Dh P f/\∀args r,args.length<=x.nt->Aob x S args r->PCall P f args r:=⟨x.ok,λ_ _ hn h=>SI x hS h hn⟩
abbrev Acf:AV:=.agg [Ap [],AS []]
theorem dJ{S:Tab}(hS:TabOK Tryz.prog S){e:Az}{h:Hp}{c:Nat}(ek:lk e (dk 38)=.gd false (.clo (.func 100) [] [.box (2,1) 0,.box (3,1) 0]))(e4:lk e 4=.box (2,1) 0)(e5:lk e 5=.box (3,1) 0)(hh:(FP (hl h (.c (2,1) 0))&&FP (hl h (.c (2,1) 1))&&FP (hl h (.c (3,1) 0)))=true):Q5 Tryz.prog S 38 x57.rv (.tup [Acf,.i 170]) (.p Qe) ⟨e,h,c⟩:=by simp only[nK,TD]at hh;obtain⟨⟨⟨c0,h0,k0⟩,⟨c1,h1,k1⟩⟩,⟨c2,h2,k2⟩⟩:=hh;refine⟨_,_,ek,_,_,_,_,_,_,x100.hf,x100.hc,x100.hn,oL rfl,x100.ok,rfl,λhb2=>?_⟩;dsimp only[x100,Ah,Qe];have hOK2:=Ctx.fd_ok (nt:=16) (hb:=hb2) hS;have F:=fc h0 (fc h1 (fc h2 (fc k0 (fc k1 (fc k2 (fc e4 (fc e5 f0)))))));refine go hS F ?_;refine ct F ?_;refine go hS F ?_;refine Oi ⟨by simp only[go_sem,seval,F],?_⟩;dsimp only[x57,Ah];exact⟨_,_,ev F,by simp only[go_sem,seval,F],by simp only[go_sem,seval,F],.of (by simp only[go_sem,seval,F]),rfl⟩
theorem dK{P:Program}{S:Tab}{nt:Nat}{rvs:List RV}{r r':AV}{k:AE}{s:St}(h:r=r')(hk:Q5 P S nt rvs r' k s):Q5 P S nt rvs r k s:=h▸hk
theorem Aac{P:Program}{S:Tab}{nt:Nat}{rvs:List RV}{r:AV}{e:Az}{h:Hp}{c:Nat}{vc:Prop}{xs:List AV}(ek:lk e (dk nt)=.gd false (.tup []))(h1:DS e h rvs=some (vc,xs))(h2:vc)(h3:Gn h (one xs))(h4:HD (res h (one xs)) r)(h5:B2 r=true):Q5 P S nt rvs r .r ⟨e,h,c⟩:=.inl ⟨ek,vc,xs,h1,h2,h3,.ofD h4,h5⟩
theorem sS{S:Tab}(hS:TabOK Tryz.prog S){e:Az}{h:Hp}{c:Nat}{r:AV}{vc:Prop}{xs:List AV}(ek:lk e (dk 38)=.gd false (.clo (.func 100) [] [.box (2,1) 0,.box (3,1) 0]))(h1:DS e h [.c 4 2 true,.c 5 1 false]=some (vc,xs))(h2:vc)(h3:Gn h (one xs))(h4:HD (res h (one xs)) r)(h5:B2 r=true):Q5 Tryz.prog S 38 [.c 4 2 true,.c 5 1 false] r .r ⟨e,h,c⟩:=by refine .inr ⟨_,_,ek,_,_,_,_,_,_,x100.hf,x100.hc,x100.hn,oL rfl,x100.ok,rfl,λhb2=>?_⟩;dsimp only[x100,Ah];have hOK2:=Ctx.fd_ok (nt:=16) (hb:=hb2) hS;have F:=f0;refine go hS F ?_;refine cf F ?_;refine go hS F ?_;refine cf F ?_;refine go hS F ?_;refine Oi ⟨by simp only[go_sem,seval,F],?_⟩;exact⟨vc,xs,h1,h2,h3,.ofD h4,h5⟩
theorem IQ{S:Tab}{F G:Prop}{E:Type}{a r:E}(hS:TabOK Tryz.prog S)(f:F)(h:some a=some r)(t:TabOK Tryz.prog S->(r=a/\F)->G:=by
 intro hS f;refine dK ?_ (dJ hS ?_ ?_ ?_ ?_)
 ·simp only[go_sem,seval,f]<;>eq_refl
 all_goals (simp only[go_sem,seval,f]<;>eq_refl)):G:=t hS ⟨(yJ h).symm,f⟩
theorem Ug{S:Tab}{F G:Prop}{E:Type}{a r:E}(hS:TabOK Tryz.prog S)(f:F)(h:some a=some r)(t:TabOK Tryz.prog S->(r=a/\F)->G:=by
 intro hS f
 repeat' (first
  |(with_reducible (first|apply DD|apply EA|apply Eu|apply FL|apply DE|apply DF|apply GD|apply GE);(·(first|exact Ctx.fn_ok hS|exact Ctx.rd_ok hS|assumption|exact yT|exact Ctx.rdG_ok hS));iterate 2 (·(simp only[go_sem,seval,f]<;>eq_refl)))
  |with_reducible (first|apply Dz|apply En|apply Di|apply Dj|apply CX|apply Cw|apply CK|apply DW|apply Ec|apply Eo|apply Ep|apply Er|apply Es)
  |(with_reducible apply Et;(·first|rfl|decide))
  |(with_reducible apply A4;(·simp))
  |with_reducible (first|apply HV|apply HW|apply HX|apply DB|apply DC|apply Ex|apply Ey|apply Ez|apply yT|apply And.intro yT yT)
  |(fail_if_success with_reducible apply G1);(fail_if_success with_reducible apply Ew);first|with_reducible apply And.intro|omega|(simp only[go_sem,seval,f];done)|with_reducible assumption|(refine And.intro ?_ ?_)|(intro hg;simp_all;done)|decide|grind)
 refine Aac (by simp only[go_sem,seval,f]<;>eq_refl) (by simp only[go_sem,seval,f]<;>eq_refl) (by simp only[go_sem,seval,f]) (by simp only[go_sem,seval,f]) ?_ rfl
 first|(simp only[go_sem,seval,f];done)|(simp[f,HD,Ib,Hk,HS,wk];done)):G:=t hS ⟨(yJ h).symm,f⟩
theorem SJ{S:Tab}{F G:Prop}{E:Type}{a r:E}(hS:TabOK Tryz.prog S)(f:F)(h:some a=some r)(t:TabOK Tryz.prog S->(r=a/\F)->G:=by
 intro hS f
 repeat' (first
  |(with_reducible (first|apply DD|apply EA|apply Eu|apply FL|apply DE|apply DF|apply GD|apply GE);(·(first|exact Ctx.fn_ok hS|exact Ctx.rd_ok hS|assumption|exact yT|exact Ctx.rdG_ok hS));iterate 2 (·(simp only[go_sem,seval,f]<;>eq_refl)))
  |with_reducible (first|apply Dz|apply En|apply Di|apply Dj|apply CX|apply Cw|apply CK|apply DW|apply Ec|apply Eo|apply Ep|apply Er|apply Es)
  |(with_reducible apply Et;(·first|rfl|decide))
  |(with_reducible apply A4;(·simp))
  |with_reducible (first|apply HV|apply HW|apply HX|apply DB|apply DC|apply Ex|apply Ey|apply Ez|apply yT|apply And.intro yT yT)
  |(fail_if_success with_reducible apply G1);(fail_if_success with_reducible apply Ew);first|with_reducible apply And.intro|omega|(simp only[go_sem,seval,f];done)|with_reducible assumption|(refine And.intro ?_ ?_)|(intro hg;simp_all;done)|decide|grind)
 refine sS hS (by simp only[go_sem,seval,f]<;>eq_refl) (by simp only[go_sem,seval,f]<;>eq_refl) (by simp only[go_sem,seval,f]) (by simp only[go_sem,seval,f]) ?_ rfl
 first|(simp only[go_sem,seval,f];done)|(simp[f,HD,Ib,Hk,HS,wk];done)):G:=t hS ⟨(yJ h).symm,f⟩
theorem Wv{E:Type}(e:E->List AV){l:List E}{i:Int}(h:0<=i/\i<=(l.length:Int)):∀n z,List.take (i.toNat-0) (List.map e (List.take i.toNat l)++List.replicate n z)=List.map e (List.take i.toNat l):=λn z=>by
 have:i.toNat-0=(List.map e (List.take i.toNat l)).length:=by simp;omega
 rw[this,List.take_left]
theorem Aad(N:Nat):∀a b,FR N 0 0 0 [] 0 0 a b=some ((0,0,0,[],0,0),80):=λa b=>by simp[FR,FT,Cy,gd]
end
attribute [local irreducible] Ax BO BB Bj BC Bk AY BD BK Cq
attribute [local irreducible] E3
attribute [local go_sem] kF Nj JT JU qU yU oI qv K2 List.map_replicate List.map_set
def IU(N:Nat)(aa:List (Int×Int×Int×(List (Int×Int))×Int×Int))(from2:List (Int×Int×Int×Int×Bool))(a4:Int)(a5:Int)(a6:Int)(a7:List (Int×Int))(a8:Int)(a9:Int)(bg:Int)(bf:Int)(be:Int)(bb:Int)(ba:Int)(az:Int)(ay:Int)(av:Bool):Option (((List (Int×Int×Int×(List (Int×Int))×Int×Int))×(List (Int×Int×Int×Int×Bool)))×Int):=(Fj N a4 a5 a6 a7 a8 a9 bg bf be bb ba az ay av).bind λau=>bif !au then(some (([],[]),170))else((Ge N aa).bind λam=>gd (from2.length*40<=140737488355328)<|(Fd N am a4 a5 a6 a7 a8 a9).bind λ(ab,aq)=>bif !(decide (aq=0))then(some (([],[]),170))else((CV N ab from2).bind λan=>bif !an then(some (([],[]),170))else((Ge N ab).bind λak=>gd (from2.length*40<=140737488355328)<|some ((ak,from2),0))))
@[go_sem] def AaL(N:Nat):Spec:=p0<|(Aoh<|qD Ak<|qD AA<|Aof<|Aoh<|Aoe 1<|Aoi<|Aoi<|Aoi<|qD Aq<|Aoi<|Aoi<|Aoi<|Aoi<|Aoi<|Aoi<|Aoi<|Aoi<|Aoi<|Aod<|Aof<|Aof<|Aog (([],[]),0) λr=>.tup [.agg [Ap r.1.1,AS r.1.2],.i r.2]) (IU N)
theorem lF(N:Nat):AG Tryz.prog 57 (AaL N):=by
 refine fk (Aop x57 (BG (Ab (Nk N)<|Ab (Wm N)<|Ab (NY N)<|Aj) (L3 N) (CP N) H3 (H2 N))) ?_;intro aa from2 a4 a5 a6 a7 a8 a9 bg bf be bb ba az ay av r h hb hS F;dsimp only[x57,Ah,Aq,AA,Ak];have hOK:=Ctx.fd_ok (nt:=38) (hb:=hb) hS;unfold IU at h;obtain⟨au,aj,h⟩:=un h;replace F:=fc aj F;refine An hS F h (λ_ h=>?_) (λ_ h=>?_)
 ·exact Ug hS F h
 ·refine go hS F ?_;refine JH hS 1 rfl rfl (ev F) yT (ev F) (ev F) ?_;obtain⟨am,ai,bi,h⟩:=un h;replace F:=fc ai F;refine go hS F ?_;refine BN hS 4 x133.hf x133.hc x133.hn x133.ok rfl (ev F) (ev F) ?_ rfl (ev F) (oL rfl) λhb=>?_
  ·exact Bl hS F
  dsimp only[x133,Ah];refine go hS F ?_;refine AZ hS 3 x134.hf x134.hc x134.hn x134.ok rfl (ev F) (ev F) ?_ rfl (ev F) (oL rfl) λhb=>?_
  ·exact Bl hS F
  dsimp only[x134,Ah];obtain⟨⟨ab,aq⟩,ah,h⟩:=un h;replace F:=fc ah F;refine go hS F ?_;refine AZ hS 2 x77.hf x77.hc x77.hn x77.ok rfl (ev F) (ev F) ?_ rfl (ev F) (oL rfl) λhb=>?_
  ·exact Bl hS F
  dsimp only[x77,Ah];refine An hS F h (λ_ h=>?_) (λ_ h=>?_)
  ·refine go hS F ?_;refine Bf (Ctx.fn_ok hS) 2 rfl rfl (ev F) (ev F) (ev F) ?_
   repeat' (first|with_reducible (first|apply A8|apply A9|apply Bh|apply AR|apply Bx)|((with_reducible apply A4);(·simp)))
   exact IQ hS F h
  ·obtain⟨an,af,h⟩:=un h;replace F:=fc af F;refine go hS F ?_;refine BN hS 5 x77.hf x77.hc x77.hn x77.ok rfl (ev F) (ev F) ?_ rfl (ev F) (oL rfl) λhb=>?_
   ·exact Bl hS F
   dsimp only[x77,Ah];refine An hS F h (λ_ h=>?_) (λ_ h=>?_)
   ·refine go hS F ?_;refine Bf (Ctx.fn_ok hS) 2 rfl rfl (ev F) (ev F) (ev F) ?_
    repeat' (first|with_reducible (first|apply A8|apply A9|apply Bh|apply AR|apply Bx)|((with_reducible apply A4);(·simp)))
    exact IQ hS F h
   ·obtain⟨ak,ae,bh,h⟩:=un h;exact SJ hS (fc ae F) h
