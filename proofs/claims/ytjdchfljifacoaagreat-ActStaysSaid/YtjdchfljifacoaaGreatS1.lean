import Derived.Test.YtjdchfljifacoaaGreatH4
set_option linter.all false
set_option maxRecDepth 100000
set_option maxHeartbeats 8000000
namespace Go.Proofs.YtjdchfljifacoaaGreat.Am
open Go
section
attribute [local irreducible] Ax BO BB Bj BC Bk AY BD BK Cq
attribute [local go_sem] kF Nj JT JU
def Fj(N:Nat)(a2:Int)(a3:Int)(a4:Int)(a5:List (Int×Int))(a6:Int)(a7:Int)(a8:Int)(a9:Int)(i4:Int)(dw:Int)(du:Int)(dt:Int)(dq:Int)(dm:Bool):Option Bool:=(Ks N 1 a2 a3 a4 a5 a6 a7 a8 a9 i4 dw du dt dq dm).bind λje=>some (je&&(decide (dw=0)&&(decide (du=0)&&(decide (dt=0)&&(decide (dq=0)&&(dm==false))))))
@[go_sem] def zO(N:Nat):Spec:=p0<|pG<|pC 1<|pI λa2=>pI λa3=>pI λa4=>pS Aq λa5=>pI λa6=>pI λa7=>pI λa8=>pI λa9=>pI λi4=>pI λdw=>pI λdu=>pI λdt=>pI λdq=>pB λdm=>pE<|pE<|pF (Fj N a2 a3 a4 a5 a6 a7 a8 a9 i4 dw du dt dq dm) false λr=>.tup [.agg [.clo (.func 130) [] [],.clo (.func 131) [] [],.clo (.func 133) [] [],.clo (.func 135) [] [],.clo (.func 136) [] []],.b r]
theorem Nk(N:Nat):AG Tryz.prog 64 (zO N):=by
 refine Ar x64.ok<|Aw<|Dn<|Aa λa2=>Aa λa3=>Aa λa4=>AF λa5=>Aa λa6=>Aa λa7=>Aa λa8=>Aa λa9=>Aa λi4=>Aa λdw=>Aa λdu=>Aa λdt=>Aa λdq=>AX λdm=>Ad<|Ad<|As λr h=>wx x64 (BG (Ab (yZ N)<|Aj) DX (CP N) DY DZ) λ_ hS F=>?_
 dsimp only[x64,Ah,Aq];unfold Fj at h;refine Om hS F ?_;obtain⟨je,i9,h⟩:=un h;exact Ai hS (fc i9 F) h
def Fk(N:Nat)(iz:Int)(iy:Int)(iw:Int)(iv:List (Int×Int))(ir:Int)(iq:Int)(ip:Int)(im:Int)(ij:Int)(dl:Int)(dh:Int)(dg:Int)(de:Int)(db:Bool):Option Bool:=(Ku N 2 iz iy iw iv ir iq ip im ij dl dh dg de db).bind λjd=>some (jd&&(decide (dl=0)&&(decide (dh=0)&&(decide (dg=0)&&(decide (de=0)&&(db==false))))))
@[go_sem] def zP(N:Nat):Spec:=p0<|pG<|pC 2<|pI λiz=>pI λiy=>pI λiw=>pS Aq λiv=>pI λir=>pI λiq=>pI λip=>pI λim=>pI λij=>pI λdl=>pI λdh=>pI λdg=>pI λde=>pB λdb=>pE<|pE<|pF (Fk N iz iy iw iv ir iq ip im ij dl dh dg de db) false λr=>.tup [.agg [.clo (.func 139) [] [],.clo (.func 141) [] [],.clo (.func 142) [] [],.clo (.func 145) [] [],.clo (.func 149) [] []],.b r]
theorem Nl(N:Nat):AG Tryz.prog 64 (zP N):=by
 refine Ar x64.ok<|Aw<|Dn<|Aa λiz=>Aa λiy=>Aa λiw=>AF λiv=>Aa λir=>Aa λiq=>Aa λip=>Aa λim=>Aa λij=>Aa λdl=>Aa λdh=>Aa λdg=>Aa λde=>AX λdb=>Ad<|Ad<|As λr h=>wx x64 (BG (Ab (zD N)<|Aj) DX (CP N) DY DZ) λ_ hS F=>?_
 dsimp only[x64,Ah,Aq];unfold Fk at h;refine Om hS F ?_;obtain⟨jd,i8,h⟩:=un h;exact Ai hS (fc i8 F) h
def Fl(N:Nat)(ii:Int)(ig:Int)(ic:Int)(ib:List (Int×Int))(g9:Int)(g8:Int)(gz:Int)(gy:Int)(gx:Int)(da:Int)(cy:Int)(cu:Int)(cr:Int)(cq:Bool):Option Bool:=(JP N 3 ii ig ic ib g9 g8 gz gy gx da cy cu cr cq).bind λjc=>some (jc&&(decide (da=0)&&(decide (cy=0)&&(decide (cu=0)&&(decide (cr=0)&&(cq==false))))))
@[go_sem] def zQ(N:Nat):Spec:=p0<|pG<|pC 3<|pI λii=>pI λig=>pI λic=>pS Aq λib=>pI λg9=>pI λg8=>pI λgz=>pI λgy=>pI λgx=>pI λda=>pI λcy=>pI λcu=>pI λcr=>pB λcq=>pE<|pE<|pF (Fl N ii ig ic ib g9 g8 gz gy gx da cy cu cr cq) false λr=>.tup [.agg [.clo (.func 150) [] [],.clo (.func 151) [] [],.clo (.func 152) [] [],.v .nilFunc,.clo (.func 154) [] []],.b r]
theorem Nn(N:Nat):AG Tryz.prog 64 (zQ N):=by
 refine Ar x64.ok<|Aw<|Dn<|Aa λii=>Aa λig=>Aa λic=>AF λib=>Aa λg9=>Aa λg8=>Aa λgz=>Aa λgy=>Aa λgx=>Aa λda=>Aa λcy=>Aa λcu=>Aa λcr=>AX λcq=>Ad<|Ad<|As λr h=>wx x64 (BG (Ab (zF N)<|Aj) DX (CP N) DY DZ) λ_ hS F=>?_
 dsimp only[x64,Ah,Aq];unfold Fl at h;refine Om hS F ?_;obtain⟨jc,i7,h⟩:=un h;exact Ai hS (fc i7 F) h
def Fm(N:Nat)(gw:Int)(gv:Int)(gu:Int)(gt:List (Int×Int))(gr:Int)(gm:Int)(gj:Int)(gi:Int)(gh:Int)(co:Int)(cn:Int)(ck:Int)(cj:Int)(ci:Bool):Option Bool:=(JR N 4 gw gv gu gt gr gm gj gi gh co cn ck cj ci).bind λjb=>some (jb&&(decide (co=0)&&(decide (cn=0)&&(decide (ck=0)&&(decide (cj=0)&&(ci==false))))))
@[go_sem] def zT(N:Nat):Spec:=p0<|pG<|pC 4<|pI λgw=>pI λgv=>pI λgu=>pS Aq λgt=>pI λgr=>pI λgm=>pI λgj=>pI λgi=>pI λgh=>pI λco=>pI λcn=>pI λck=>pI λcj=>pB λci=>pE<|pE<|pF (Fm N gw gv gu gt gr gm gj gi gh co cn ck cj ci) false λr=>.tup [.agg [.clo (.func 155) [] [],.clo (.func 156) [] [],.clo (.func 157) [] [],.clo (.func 158) [] [],.clo (.func 159) [] []],.b r]
theorem No(N:Nat):AG Tryz.prog 64 (zT N):=by
 refine Ar x64.ok<|Aw<|Dn<|Aa λgw=>Aa λgv=>Aa λgu=>AF λgt=>Aa λgr=>Aa λgm=>Aa λgj=>Aa λgi=>Aa λgh=>Aa λco=>Aa λcn=>Aa λck=>Aa λcj=>AX λci=>Ad<|Ad<|As λr h=>wx x64 (BG (Ab (zH N)<|Aj) DX (CP N) DY DZ) λ_ hS F=>?_
 dsimp only[x64,Ah,Aq];unfold Fm at h;refine Om hS F ?_;obtain⟨jb,i6,h⟩:=un h;exact Ai hS (fc i6 F) h
def Fo(N:Nat)(gg:Int)(gc:Int)(fr:Int)(fq:List (Int×Int))(fp:Int)(fo:Int)(fj:Int)(fh:Int)(fg:Int)(e9:Int)(e8:Int)(ez:Int)(eu:Int)(ej:Bool):Option Bool:=(Kw N 5 gg gc fr fq fp fo fj fh fg e9 e8 ez eu ej).bind λja=>some (ja||false)
@[go_sem] def zV(N:Nat):Spec:=p0<|pG<|pC 5<|pI λgg=>pI λgc=>pI λfr=>pS Aq λfq=>pI λfp=>pI λfo=>pI λfj=>pI λfh=>pI λfg=>pI λe9=>pI λe8=>pI λez=>pI λeu=>pB λej=>pE<|pE<|pF (Fo N gg gc fr fq fp fo fj fh fg e9 e8 ez eu ej) false λr=>.tup [.agg [.clo (.func 163) [] [],.clo (.func 164) [] [],.clo (.func 165) [] [],.v .nilFunc,.clo (.func 169) [] []],.b r]
theorem Np(N:Nat):AG Tryz.prog 64 (zV N):=by
 refine Ar x64.ok<|Aw<|Dn<|Aa λgg=>Aa λgc=>Aa λfr=>AF λfq=>Aa λfp=>Aa λfo=>Aa λfj=>Aa λfh=>Aa λfg=>Aa λe9=>Aa λe8=>Aa λez=>Aa λeu=>AX λej=>Ad<|Ad<|As λr h=>wx x64 (BG (Ab (zJ N)<|Aj) DX (CP N) DY DZ) λ_ hS F=>?_
 dsimp only[x64,Ah,Aq];unfold Fo at h;refine KR hS F ?_;obtain⟨ja,i5,h⟩:=un h;exact Ai hS (fc i5 F) h
def Fp(N:Nat)(ei:Int)(eh:Int)(ee:Int)(d9:List (Int×Int))(d8:Int)(d7:Int)(d6:Int)(d5:Int)(dz:Int)(ce:Int)(b9:Int)(b7:Int)(bz:Int)(aj:Bool):Option Bool:=(HI N 6 ei eh ee d9 d8 d7 d6 d5 dz ce b9 b7 bz aj).bind λbu=>some (bu&&(decide (ce=0)&&(decide (b9=0)&&(decide (b7=0)&&(decide (bz=0)&&(aj==false))))))
@[go_sem] def zW(N:Nat):Spec:=p0<|pG<|pC 6<|pI λei=>pI λeh=>pI λee=>pS Aq λd9=>pI λd8=>pI λd7=>pI λd6=>pI λd5=>pI λdz=>pI λce=>pI λb9=>pI λb7=>pI λbz=>pB λaj=>pE<|pE<|pF (Fp N ei eh ee d9 d8 d7 d6 d5 dz ce b9 b7 bz aj) false λr=>.tup [.agg [.clo (.func 160) [] [],.clo (.func 161) [] [],.clo (.func 170) [] [],.clo (.func 172) [] [],.clo (.func 162) [] []],.b r]
theorem Nq(N:Nat):AG Tryz.prog 64 (zW N):=by
 refine Ar x64.ok<|Aw<|Dn<|Aa λei=>Aa λeh=>Aa λee=>AF λd9=>Aa λd8=>Aa λd7=>Aa λd6=>Aa λd5=>Aa λdz=>Aa λce=>Aa λb9=>Aa λb7=>Aa λbz=>AX λaj=>Ad<|Ad<|As λr h=>wx x64 (BG (Ab (dC N)<|Aj) DX (CP N) DY DZ) λ_ hS F=>?_
 dsimp only[x64,Ah,Aq];unfold Fp at h;refine KR hS F ?_;obtain⟨bu,bw,h⟩:=un h;exact Ai hS (fc bw F) h
def Fq(N:Nat)(az:Int)(ay:Int)(aw:Int)(av:List (Int×Int))(au:Int)(aq:Int)(an:Int)(am:Int)(ak:Int)(ai:Int)(ah:Int)(af:Int)(ae:Int)(ab:Bool):Option Bool:=(HI N 7 az ay aw av au aq an am ak ai ah af ae ab).bind λbr=>some (br&&(decide (ai=0)&&(decide (ah=0)&&(decide (af=0)&&(decide (ae=0)&&(ab==false))))))
@[go_sem] def zX(N:Nat):Spec:=p0<|pG<|pC 7<|pI λaz=>pI λay=>pI λaw=>pS Aq λav=>pI λau=>pI λaq=>pI λan=>pI λam=>pI λak=>pI λai=>pI λah=>pI λaf=>pI λae=>pB λab=>pE<|pE<|pF (Fq N az ay aw av au aq an am ak ai ah af ae ab) false λr=>.tup [.agg [.clo (.func 160) [] [],.clo (.func 161) [] [],.clo (.func 173) [] [],.clo (.func 174) [] [],.clo (.func 162) [] []],.b r]
theorem Nr(N:Nat):AG Tryz.prog 64 (zX N):=by
 refine Ar x64.ok<|Aw<|Dn<|Aa λaz=>Aa λay=>Aa λaw=>AF λav=>Aa λau=>Aa λaq=>Aa λan=>Aa λam=>Aa λak=>Aa λai=>Aa λah=>Aa λaf=>Aa λae=>AX λab=>Ad<|Ad<|As λr h=>wx x64 (BG (Ab (dC N)<|Aj) DX (CP N) DY DZ) λ_ hS F=>?_
 dsimp only[x64,Ah,Aq];unfold Fq at h;refine KR hS F ?_;obtain⟨br,bv,h⟩:=un h;exact Ai hS (fc bv F) h
def Fr(N:Nat)(aa:Int)(bq:Int)(bp:Int)(bo:Int)(bn:List (Int×Int))(bm:Int)(bl:Int)(bj:Int)(bi:Int)(bh:Int)(bg:Int)(bf:Int)(be:Int)(bb:Int)(ba:Bool):Option Bool:=gd (((1:Int)=aa)=False)<|gd (((2:Int)=aa)=False)<|gd (((3:Int)=aa)=False)<|gd (((4:Int)=aa)=False)<|gd (((5:Int)=aa)=False)<|gd (((6:Int)=aa)=False)<|gd (((7:Int)=aa)=False)<|some false
@[go_sem] def zY(N:Nat):Spec:=p0<|pG<|pI λaa=>pI λbq=>pI λbp=>pI λbo=>pS Aq λbn=>pI λbm=>pI λbl=>pI λbj=>pI λbi=>pI λbh=>pI λbg=>pI λbf=>pI λbe=>pI λbb=>pB λba=>pE<|pE<|pF (Fr N aa bq bp bo bn bm bl bj bi bh bg bf be bb ba) false λr=>.tup [.agg [.v .nilFunc,.v .nilFunc,.v .nilFunc,.v .nilFunc,.v .nilFunc],.b r]
theorem Ns(N:Nat):AG Tryz.prog 64 (zY N):=by
 refine Ar x64.ok<|Aw<|Aa λaa=>Aa λbq=>Aa λbp=>Aa λbo=>AF λbn=>Aa λbm=>Aa λbl=>Aa λbj=>Aa λbi=>Aa λbh=>Aa λbg=>Aa λbf=>Aa λbe=>Aa λbb=>AX λba=>Ad<|Ad<|As λr h=>wx x64 (BG (Aj) DX (CP N) DY DZ) λ_ hS F=>?_
 dsimp only[x64,Ah,Aq];unfold Fr at h;obtain⟨jl,jk,jj,ji,h⟩:=un h;replace F:=fc ji (fc jj (fc jk (fc jl F)));refine KR hS F ?_;obtain⟨jh,jg,jf,h⟩:=un h;exact Ai hS (fc jf (fc jg (fc jh F))) h
end
section
attribute [local irreducible] Ax BO BB Bj BC Bk AY BD BK Cq
def CF(N:Nat)(m1:Int)(m2:Int)(m3:Int)(m4:Int)(m5:Bool)(x6:Int):Option Bool:=some (decide (m2=x6))
@[go_sem] def Aer(N:Nat):Spec:=p0<|pG<|pI λm1=>pI λm2=>pI λm3=>pI λm4=>pB λm5=>pE<|pO<|pI λx6=>pE<|pE<|pF (CF N m1 m2 m3 m4 m5 x6) false λr=>.b r
theorem Wu(N:Nat):AG Tryz.prog 190 (Aer N):=by
 refine Ar x190.ok<|Aw<|Aa λm1=>Aa λm2=>Aa λm3=>Aa λm4=>AX λm5=>Ad<|Ii<|Aa λx6=>Ad<|Ad<|As λr h=>wx x190 (Aj) λ_ hS F=>?_
 dsimp only[x190,Ah];unfold CF at h;exact Ai hS F h
def GW(N:Nat)(m7:Int)(m8:Int)(m9:Int)(ei:Int)(eh:Bool)(x12:Int):Option Bool:=some (decide (m7=x12))
@[go_sem] def Aes(N:Nat):Spec:=p0<|pG<|pI λm7=>pI λm8=>pI λm9=>pI λei=>pB λeh=>pE<|pO<|pI λx12=>pE<|pE<|pF (GW N m7 m8 m9 ei eh x12) false λr=>.b r
theorem zZ(N:Nat):AG Tryz.prog 196 (Aes N):=by
 refine Ar x196.ok<|Aw<|Aa λm7=>Aa λm8=>Aa λm9=>Aa λei=>AX λeh=>Ad<|Ii<|Aa λx12=>Ad<|Ad<|As λr h=>wx x196 (Aj) λ_ hS F=>?_
 dsimp only[x196,Ah];unfold GW at h;exact Ai hS F h
def Lf(N:Nat)(ee:Int)(dl:Int)(d9:Int)(d8:Int)(d7:Bool)(x18:Int)(x19:Int)(x20:Int)(x21:Int)(x22:List (Int×Int))(x23:Int)(x24:Int)(zR:Int)(x26:Int)(x27:Int)(gD:Int)(x29:Int)(T1:Int)(x31:Int)(x32:Bool):Option Bool:=some (decide (dl=zR))
@[go_sem] def Aet(N:Nat):Spec:=p0<|pG<|pI λee=>pI λdl=>pI λd9=>pI λd8=>pB λd7=>pE<|pO<|pI λx18=>pI λx19=>pI λx20=>pI λx21=>pR Aq λx22=>pI λx23=>pI λx24=>pI λzR=>pI λx26=>pI λx27=>pI λgD=>pI λx29=>pI λT1=>pI λx31=>pB λx32=>pE<|pE<|pF (Lf N ee dl d9 d8 d7 x18 x19 x20 x21 x22 x23 x24 zR x26 x27 gD x29 T1 x31 x32) false λr=>.b r
theorem Aaa(N:Nat):AG Tryz.prog 147 (Aet N):=by
 refine Ar x147.ok<|Aw<|Aa λee=>Aa λdl=>Aa λd9=>Aa λd8=>AX λd7=>Ad<|Ii<|Aa λx18=>Aa λx19=>Aa λx20=>Aa λx21=>QI λx22=>Aa λx23=>Aa λx24=>Aa λzR=>Aa λx26=>Aa λx27=>Aa λgD=>Aa λx29=>Aa λT1=>Aa λx31=>AX λx32=>Ad<|Ad<|As λr h=>wx x147 (Aj) λ_ hS F=>?_
 dsimp only[x147,Ah,Aq];unfold Lf at h;exact Ai hS F h
def F0(N:Nat)(dh:Int)(d6:Int)(d5:Int)(dz:Int)(dw:Bool)(ay:Int):Option Int:=(F3 N dh ay).bind λfj=>some fj
@[go_sem] def Aeu(N:Nat):Spec:=p0<|pG<|pI λdh=>pI λd6=>pI λd5=>pI λdz=>pB λdw=>pE<|pI λay=>pE<|pF (F0 N dh d6 d5 dz dw ay) 0 λr=>.i r
theorem Aab(N:Nat):AG Tryz.prog 167 (Aeu N):=by
 refine Ar x167.ok<|Aw<|Aa λdh=>Aa λd6=>Aa λd5=>Aa λdz=>AX λdw=>Ad<|Aa λay=>Ad<|As λr h=>wx x167 (Ab (cI N)<|Aj) λ_ hS F=>?_
 dsimp only[x167,Ah];unfold F0 at h;obtain⟨fj,e8,h⟩:=un h;exact Ai hS (fc e8 F) h
def Bc(N:Nat)(s41:List (Int×Int×Int×Int×Bool))(bi:Int):Nat->Int->Option (Sum Unit Int)|0,_=>none|n+1,gI=>bif decide (gI<(s41.length:Int))then((A7 s41 gI).bind λ(x54,xP,x56,x57,x58)=>(CF N x54 xP x56 x57 x58 bi).bind λfh=>bif fh then(some (.inr gI))else(gd (Af (gI+1))<|Bc N s41 bi n (gI+1)))else(some (.inl ()))
def Bt(N:Nat)(s41:List (Int×Int×Int×Int×Bool))(bi:Int):Option Int:=(Bc N s41 bi N 0).bind λdt=>match dt with|.inl ()=>(some (-1))|.inr gg=>(some gg)
@[go_sem] def dE(N:Nat):Spec:=p0<|pS AA λs41=>pL 190<|pO<|pI λbi=>pE<|pE<|pE<|pF (Bt N s41 bi) 0 λr=>.i r
theorem Rh(N:Nat):AG Tryz.prog 191 (dE N):=by
 refine Ar x191.ok<|AF λs41=>Kn<|Ii<|Aa λbi=>Ad<|Ad<|Ad<|As λr h=>wx x191 (Ab (Wu N)<|Aj) λ_ hS F=>?_
 dsimp only[x191,Ah,AA];unfold Bt at h;obtain⟨dt,cj,h⟩:=un h;refine go hS F ?_;refine Bz dt (λz:Nat=>⟨[],[],z⟩) (λz=>(.inl ():Sum Unit Int)) (.x 0) ?_ ?_
 ·refine Bp (λn (y:Int×Nat)=>Bc N s41 bi n y.1) (λy=>⟨[(0,AS s41),(1,.clo (.func 190) [] [.ro [.i bi] 0]),(7,.i (s41.length:Int)),(8,.i y.1)],[],y.2⟩) (0,2) cj (Ch F) ?_;rintro n ⟨gI,fr⟩ ab;simp only[Bc]at ab;refine An hS F ab (λ_ ab=>?_) (λ_ ab=>?_)
  ·obtain⟨⟨x54,xP,x56,x57,x58⟩,fg,ab⟩:=un ab;obtain⟨gm,F⟩:=Cb BZ fg F;obtain⟨fh,ez,ab⟩:=un ab;replace F:=fc ez F;refine An hS F ab (λ_ ab=>?_) (λ_ ab=>?_)
   ·obtain rfl:=yJ ab;exact Ai hS F h
   ·obtain⟨ej,ab⟩:=un ab;exact Cd hS F (n,gI+1,fr+1+1+1+1) ab
  ·exact B4 hS F (fr+1) ab
 ·rintro gw rfl;exact Ai hS F h
def Bd(N:Nat)(s67:List (Int×Int×Int×Int×Bool))(bh:Int):Nat->Int->Option (Sum Unit Int)|0,_=>none|n+1,x79=>bif decide (x79<(s67.length:Int))then((A7 s67 x79).bind λ(x80,x81,gM,pK,pV)=>(GW N x80 x81 gM pK pV bh).bind λr86=>bif r86 then(some (.inr x79))else(gd (Af (x79+1))<|Bd N s67 bh n (x79+1)))else(some (.inl ()))
def Bu(N:Nat)(s67:List (Int×Int×Int×Int×Bool))(bh:Int):Option Int:=(Bd N s67 bh N 0).bind λdq=>match dq with|.inl ()=>(some (-1))|.inr gc=>(some gc)
@[go_sem] def dF(N:Nat):Spec:=p0<|pS AA λs67=>pL 196<|pO<|pI λbh=>pE<|pE<|pE<|pF (Bu N s67 bh) 0 λr=>.i r
theorem Ri(N:Nat):AG Tryz.prog 191 (dF N):=by
 refine Ar x191.ok<|AF λs67=>Kn<|Ii<|Aa λbh=>Ad<|Ad<|Ad<|As λr h=>wx x191 (Ab (zZ N)<|Aj) λ_ hS F=>?_
 dsimp only[x191,Ah,AA];unfold Bu at h;obtain⟨dq,cj,h⟩:=un h;refine go hS F ?_;refine Bz dq (λz:Nat=>⟨[],[],z⟩) (λz=>(.inl ():Sum Unit Int)) (.x 0) ?_ ?_
 ·refine Bp (λn (y:Int×Nat)=>Bd N s67 bh n y.1) (λy=>⟨[(0,AS s67),(1,.clo (.func 196) [] [.ro [.i bh] 0]),(7,.i (s67.length:Int)),(8,.i y.1)],[],y.2⟩) (0,2) cj (Ch F) ?_;rintro n ⟨x79,fq⟩ ab;simp only[Bd]at ab;refine An hS F ab (λ_ ab=>?_) (λ_ ab=>?_)
  ·obtain⟨⟨x80,x81,gM,pK,pV⟩,e9,ab⟩:=un ab;obtain⟨gj,F⟩:=Cb BZ e9 F;obtain⟨r86,eu,ab⟩:=un ab;replace F:=fc eu F;refine An hS F ab (λ_ ab=>?_) (λ_ ab=>?_)
   ·obtain rfl:=yJ ab;exact Ai hS F h
   ·obtain⟨ej,ab⟩:=un ab;exact Cd hS F (n,x79+1,fq+1+1+1+1) ab
  ·exact B4 hS F (fq+1) ab
 ·rintro gv rfl;exact Ai hS F h
def CB(N:Nat)(s93:List (Int×Int×Int×Int×Bool))(bg:Int)(bf:Int)(be:Int)(bb:Int)(ba:List (Int×Int))(az:Int)(av:Int)(au:Int)(aq:Int)(an:Int)(am:Int)(ak:Int)(aj:Int)(ai:Int)(ah:Bool):Nat->Int->Option (Sum Unit Int)|0,_=>none|n+1,x119=>bif decide (x119<(s93.length:Int))then((A7 s93 x119).bind λ(x120,x121,zS,x123,x124)=>(Lf N x120 x121 zS x123 x124 bg bf be bb ba az av au aq an am ak aj ai ah).bind λcr=>bif cr then(some (.inr x119))else(gd (Af (x119+1))<|CB N s93 bg bf be bb ba az av au aq an am ak aj ai ah n (x119+1)))else(some (.inl ()))
def DU(N:Nat)(s93:List (Int×Int×Int×Int×Bool))(bg:Int)(bf:Int)(be:Int)(bb:Int)(ba:List (Int×Int))(az:Int)(av:Int)(au:Int)(aq:Int)(an:Int)(am:Int)(ak:Int)(aj:Int)(ai:Int)(ah:Bool):Option Int:=(CB N s93 bg bf be bb ba az av au aq an am ak aj ai ah N 0).bind λci=>match ci with|.inl ()=>(some (-1))|.inr dm=>(some dm)
@[go_sem] def dG(N:Nat):Spec:=p0<|pS AA λs93=>pL 147<|pO<|pI λbg=>pI λbf=>pI λbe=>pI λbb=>pR Aq λba=>pI λaz=>pI λav=>pI λau=>pI λaq=>pI λan=>pI λam=>pI λak=>pI λaj=>pI λai=>pB λah=>pE<|pE<|pE<|pF (DU N s93 bg bf be bb ba az av au aq an am ak aj ai ah) 0 λr=>.i r
theorem XH(N:Nat):AG Tryz.prog 191 (dG N):=by
 refine Ar x191.ok<|AF λs93=>Kn<|Ii<|Aa λbg=>Aa λbf=>Aa λbe=>Aa λbb=>QI λba=>Aa λaz=>Aa λav=>Aa λau=>Aa λaq=>Aa λan=>Aa λam=>Aa λak=>Aa λaj=>Aa λai=>AX λah=>Ad<|Ad<|Ad<|As λr h=>wx x191 (Ab (Aaa N)<|Aj) λ_ hS F=>?_
 dsimp only[x191,Ah,Aq,AA];unfold DU at h;obtain⟨ci,cj,h⟩:=un h;refine go hS F ?_;refine Bz ci (λz:Nat=>⟨[],[],z⟩) (λz=>(.inl ():Sum Unit Int)) (.x 0) ?_ ?_
 ·refine Bp (λn (y:Int×Nat)=>CB N s93 bg bf be bb ba az av au aq an am ak aj ai ah n y.1) (λy=>⟨[(0,AS s93),(1,.clo (.func 147) [] [.ro [.i bg,.i bf,.i be,.i bb,BP ba,.i az,.i av,.i au,.i aq,.i an,.i am,.i ak,.i aj,.i ai,.b ah] 0]),(7,.i (s93.length:Int)),(8,.i y.1)],[],y.2⟩) (0,2) cj (Ch F) ?_;rintro n ⟨x119,dg⟩ ab;simp only[CB]at ab;refine An hS F ab (λ_ ab=>?_) (λ_ ab=>?_)
  ·obtain⟨⟨x120,x121,zS,x123,x124⟩,de,ab⟩:=un ab;obtain⟨fp,F⟩:=Cb BZ de F;obtain⟨cr,da,ab⟩:=un ab;replace F:=fc da F;refine An hS F ab (λ_ ab=>?_) (λ_ ab=>?_)
   ·obtain rfl:=yJ ab;exact Ai hS F h
   ·obtain⟨ej,ab⟩:=un ab;exact Cd hS F (n,x119+1,dg+1+1+1+1) ab
  ·exact B4 hS F (dg+1) ab
 ·rintro gt rfl;exact Ai hS F h
def CC(N:Nat)(aw:List (Int×Int×Int×Int×Bool))(ce:Int)(b9:Int)(b7:Int)(bz:Int)(bw:List (Int×Int))(bv:Int)(bu:Int)(br:Int)(bq:Int)(bp:Int)(bo:Int)(bn:Int)(bm:Int)(bl:Int)(bj:Bool):Option Bool:=(DU N aw ce b9 b7 bz bw bv bu br bq bp bo bn bm bl bj).bind λcq=>some (decide (0<=cq))
@[go_sem] def dH(N:Nat):Spec:=p0<|pS AA λaw=>pL 147<|pO<|pI λce=>pI λb9=>pI λb7=>pI λbz=>pR Aq λbw=>pI λbv=>pI λbu=>pI λbr=>pI λbq=>pI λbp=>pI λbo=>pI λbn=>pI λbm=>pI λbl=>pB λbj=>pE<|pE<|pE<|pF (CC N aw ce b9 b7 bz bw bv bu br bq bp bo bn bm bl bj) false λr=>.b r
theorem XI(N:Nat):AG Tryz.prog 146 (dH N):=by
 refine Ar x146.ok<|AF λaw=>Kn<|Ii<|Aa λce=>Aa λb9=>Aa λb7=>Aa λbz=>QI λbw=>Aa λbv=>Aa λbu=>Aa λbr=>Aa λbq=>Aa λbp=>Aa λbo=>Aa λbn=>Aa λbm=>Aa λbl=>AX λbj=>Ad<|Ad<|Ad<|As λr h=>wx x146 (Ab (XH N)<|Aj) λ_ hS F=>?_
 dsimp only[x146,Ah,Aq,AA];unfold CC at h;obtain⟨cq,cy,h⟩:=un h;exact Ai hS (fc cy F) h
def AT(N:Nat)(x151:List (Int×Int×Int×Int×Bool))(aa:Int):Nat->Int->Int->Option Int|0,_,_=>none|n+1,ae,af=>bif decide (ae<af)then(gd (Af (ae+af))<|(A7 x151 (IntKind.wrap .i64 (CW .shr .u64 (IntKind.wrap .u64 (ae+af)) 1))).bind λ(x165,x166,x167,cn,x169)=>(F0 N x165 x166 x167 cn x169 aa).bind λco=>bif decide (co<0)then(gd (Af ((IntKind.wrap .i64 (CW .shr .u64 (IntKind.wrap .u64 (ae+af)) 1))+1))<|AT N x151 aa n ((IntKind.wrap .i64 (CW .shr .u64 (IntKind.wrap .u64 (ae+af)) 1))+1) af)else(AT N x151 aa n ae (IntKind.wrap .i64 (CW .shr .u64 (IntKind.wrap .u64 (ae+af)) 1))))else(some ae)
def BE(N:Nat)(x151:List (Int×Int×Int×Int×Bool))(aa:Int):Option (Int×Bool):=(AT N x151 aa N 0 (x151.length:Int)).bind λi177=>gd ((decide (i177<(x151.length:Int)))=true->(0<=i177/\i177<(x151.length:Int)))<|gd ((decide (i177<(x151.length:Int)))=true->((F0 N ((x151.getD i177.toNat (0,0,0,0,false)).1) ((x151.getD i177.toNat (0,0,0,0,false)).2.1) ((x151.getD i177.toNat (0,0,0,0,false)).2.2.1) ((x151.getD i177.toNat (0,0,0,0,false)).2.2.2.1) ((x151.getD i177.toNat (0,0,0,0,false)).2.2.2.2) aa).isSome=true))<|some (i177,(decide (i177<(x151.length:Int)))&&(decide ((F0 N ((x151.getD i177.toNat (0,0,0,0,false)).1) ((x151.getD i177.toNat (0,0,0,0,false)).2.1) ((x151.getD i177.toNat (0,0,0,0,false)).2.2.1) ((x151.getD i177.toNat (0,0,0,0,false)).2.2.2.1) ((x151.getD i177.toNat (0,0,0,0,false)).2.2.2.2) aa).getD 0=0)))
@[go_sem] def dI(N:Nat):Spec:=p0<|pS AA λx151=>pI λaa=>pL 167<|pE<|pE<|pF (BE N x151 aa) (0,false) λr=>.tup [.i r.1,.b r.2]
theorem XJ(N:Nat):AG Tryz.prog 166 (dI N):=by
 refine Ar x166.ok<|AF λx151=>Aa λaa=>Kn<|Ad<|Ad<|As λr h=>wx x166 (Ab (Aab N)<|Aj) λ_ hS F=>?_
 dsimp only[x166,Ah,AA];unfold BE at h;obtain⟨du,cj,h⟩:=un h;refine go hS F ?_;refine Bz du (λz:Int×Nat=>⟨[(0,AS x151),(1,.i aa),(2,.clo (.func 167) [] []),(8,.i (x151.length:Int)),(9,.i z.1)],[],z.2⟩) (λz=>(z.1:Int)) (.x 0) ?_ ?_
 ·refine Bp (λn (y:Int×Int×Nat)=>AT N x151 aa n y.1 y.2.1) (λy=>⟨[(0,AS x151),(1,.i aa),(2,.clo (.func 167) [] []),(8,.i (x151.length:Int)),(9,.i y.1),(10,.i y.2.1)],[],y.2.2⟩) (0,(x151.length:Int),3) cj (Ch F) ?_;rintro n ⟨ae,af,ck⟩ ab;simp only[AT]at ab;refine An hS F ab (λ_ ab=>?_) (λ_ ab=>?_)
  ·obtain⟨ej,⟨x165,x166,x167,cn,x169⟩,db,ab⟩:=un ab;obtain⟨fo,F⟩:=Cb BZ db F;obtain⟨co,cu,ab⟩:=un ab;replace F:=fc cu F;refine An hS F ab (λ_ ab=>?_) (λ_ ab=>?_)
   ·obtain⟨gu,ab⟩:=un ab;exact Cd hS F (n,(IntKind.wrap .i64 (CW .shr .u64 (IntKind.wrap .u64 (ae+af)) 1))+1,af,ck+1+1+1+1) ab
   ·exact Cd hS F (n,ae,IntKind.wrap .i64 (CW .shr .u64 (IntKind.wrap .u64 (ae+af)) 1),ck+1+1+1+1) ab
  ·exact B4 hS F (ae,ck+1) ab
 ·rintro⟨i177,gr⟩ rfl;obtain⟨gi,gh,h⟩:=un h;by_cases hi:i177<(x151.length:Int)
  ·have hd:decide (i177<(x151.length:Int))=true:=aB hi;obtain⟨c,hc⟩:=yX (gh hd);have hq:=(Cb BZ (Ou (0,0,0,0,false) (gi hd).1 hi) F).2.1;exact Ai hS (fc hc (fc hd (fc hq F))) h
  ·have hd:decide (i177<(x151.length:Int))=false:=bJ hi;exact Ai hS (fc (bI BZ hi) (fc hd F)) h
end
section
attribute [local irreducible] Ax BO BB Bj BC Bk AY BD BK Cq
def Kq(x:List (Int×Int)):List AV:=[BP x]
def SC:List AV->List (Int×Int)|[.sl _ _ a1 _]=>(a1.map Jx)|_=>[]
def Zt:Rw (List (Int×Int)):=⟨1,Kq,SC,[.sl 0 true [] []]⟩
def QP(l:List (List (Int×Int))):AV:=.sl 1 false (l.map Kq) [.sl 0 true [] []]
def AbW(l:List (List (Int×Int))):AV:=.sl 1 true (l.map Kq) [.sl 0 true [] []]
attribute [go_sem] Zt QP AbW Kq SC
def Bq(N:Nat)(slices1478:List (List (Int×Int))):Nat->Int->Int->Option Int|0,_,_=>none|n+1,aa,ai=>bif decide (ai<(slices1478.length:Int))then((A7 slices1478 ai).bind λx1485=>gd (Af (aa+(x1485.length:Int)))<|gd ((decide (aa+(x1485.length:Int)<0))=false)<|gd (Af (ai+1))<|Bq N slices1478 n (aa+(x1485.length:Int)) (ai+1))else(some aa)
def Br(N:Nat)(slices1478:List (List (Int×Int))):Nat->Int->(List (Int×Int))->Option ((List (Int×Int)))|0,_,_=>none|n+1,ah,l1512=>bif decide (ah<(slices1478.length:Int))then((A7 slices1478 ah).bind λx1513=>gd ((l1512.length+x1513.length)*16<=140737488355328)<|gd (Af (ah+1))<|Br N slices1478 n (ah+1) (l1512++x1513))else(some l1512)
def C7(N:Nat)(slices1478:List (List (Int×Int))):Nat->Int->(List (Int×Int))->Option ((List (Int×Int)))|0,_,_=>none|n+1,af,l1530=>bif decide (af<(slices1478.length:Int))then((A7 slices1478 af).bind λx1531=>gd ((l1530.length+x1531.length)*16<=140737488355328)<|gd (Af (af+1))<|C7 N slices1478 n (af+1) (l1530++x1531))else(some l1530)
def BX(N:Nat)(slices1478:List (List (Int×Int))):Option (List (Int×Int)):=(Bq N slices1478 N 0 0).bind λab=>gd ((decide (ab<0))=false)<|gd (Af (ab-0))<|bif decide (0<ab-0)then(gd (0<=0/\0<=0/\0<=0)<|gd (0<ab-0)<|gd ((ab-0)*16<=140737488355328)<|(Br N slices1478 N 0 []).bind λaq=>some aq)else((C7 N slices1478 N 0 []).bind λan=>some an)
@[go_sem] def AdU(N:Nat):Spec:=p0<|pD Zt λslices1478=>pE<|pF (BX N slices1478) [] λr=>BP r
theorem yK(N:Nat):AG Tryz.prog 193 (AdU N):=by
 refine Ar x193.ok<|AM λslices1478=>Ad<|As λr h=>wx x193 (rL<|Aj) λ_ hS F=>?_
 dsimp only[x193,Ah,Zt];unfold BX at h;obtain⟨bf,b9,h⟩:=un h;refine go hS F ?_;refine Bz bf (λz:Int×Nat=>⟨[(0,QP slices1478),(3,.i z.1)],[],z.2⟩) (λz=>(z.1:Int)) (.x 0) ?_ ?_
 ·refine Bp (λn (y:Int×Int×Nat)=>Bq N slices1478 n y.1 y.2.1) (λy=>⟨[(0,QP slices1478),(3,.i y.1),(9,QP slices1478),(10,.i (slices1478.length:Int)),(11,.i y.2.1)],[],y.2.2⟩) (0,0,3) b9 (Ch F) ?_;rintro n ⟨aa,ai,aw⟩ am;simp only[Bq]at am;refine An hS F am (λ_ am=>?_) (λ_ am=>?_)
  ·obtain⟨x1485,ba,cj,bp,am⟩:=un am;obtain⟨bi,F⟩:=Cb Kq ba F;refine go hS F ?_;refine cb F (decide (aa+(x1485.length:Int)<0)) (λhc5=>?_) (λhc5=>?_)
   ·exact Bool.noConfusion (hc5.symm.trans bp)
   obtain⟨ci,am⟩:=un am;exact Cd hS F (n,aa+(x1485.length:Int),ai+1,aw+1+1+1+1+1) am
  ·exact B4 hS F (aa,aw+1) am
 ·rintro⟨ab,ae⟩ rfl;refine go hS F ?_;refine GO hS 1 x205.hf x205.hc x205.hn x205.ok rfl (ev F) (ev F) ?_ rfl (ev F) (qZ rfl) λhb=>?_
  ·exact Bl hS F
  dsimp only[x205,Ah];obtain⟨bo,h⟩:=un h;refine go hS F ?_;refine cb F (decide (ab<0)) (λhc8=>?_) (λhc8=>?_)
  ·exact Bool.noConfusion (hc8.symm.trans bo)
  obtain⟨ce,h⟩:=un h;refine An hS F h (λ_ h=>?_) (λ_ h=>?_)
  ·obtain⟨b7,bz,bw,h⟩:=un h;obtain⟨be,bl,h⟩:=un h;refine go hS F ?_;refine Bz be (λz:(List (Int×Int))×Nat=>⟨[(6,.own (508,ae+1+1+1+1+1+1) z.1.length)],[(.a (508,ae+1+1+1+1+1+1),LK z.1)],z.2⟩) (λz=>(z.1:(List (Int×Int)))) (.x 2) ?_ ?_
   ·refine Bp (λn (y:Int×(List (Int×Int))×Nat)=>Br N slices1478 n y.1 y.2.1) (λy=>⟨[(6,.own (508,ae+1+1+1+1+1+1) y.2.1.length),(25,QP slices1478),(26,.i (slices1478.length:Int)),(27,.i y.1)],[(.a (508,ae+1+1+1+1+1+1),LK y.2.1)],y.2.2⟩) (0,[],ae+1+1+1+1+1+1+1+1+1) bl (Ch F) ?_;rintro n ⟨ah,l1512,av⟩ ak;simp only[Br]at ak;refine An hS F ak (λ_ ak=>?_) (λ_ ak=>?_)
    ·obtain⟨x1513,az,bv,bu,ak⟩:=un ak;obtain⟨bh,F⟩:=Cb Kq az F;exact Cd hS F (n,ah+1,l1512++x1513,av+1+1+1+1) ak
    ·exact B4 hS F (l1512,av+1) ak
   ·rintro⟨aq,bn⟩ rfl;exact Ai hS F h
  ·refine go hS F ?_;refine DT 1000001 6 2 [.i 0,.i 0] (by show(6:Nat)<36;omega) (by omega) (ev F) ?_;obtain⟨bb,bj,h⟩:=un h;refine go hS F ?_;refine Bz bb (λz:(List (Int×Int))×Nat=>⟨[(6,.own (1000001,ae+1+1+1+1+1+1+1+1+1) z.1.length)],[(.a (1000001,ae+1+1+1+1+1+1+1+1+1),LK z.1)],z.2⟩) (λz=>(z.1:(List (Int×Int)))) (.x 2) ?_ ?_
   ·refine Bp (λn (y:Int×(List (Int×Int))×Nat)=>C7 N slices1478 n y.1 y.2.1) (λy=>⟨[(6,.own (1000001,ae+1+1+1+1+1+1+1+1+1) y.2.1.length),(25,QP slices1478),(26,.i (slices1478.length:Int)),(27,.i y.1)],[(.a (1000001,ae+1+1+1+1+1+1+1+1+1),LK y.2.1)],y.2.2⟩) (0,[],ae+1+1+1+1+1+1+1+1+1) bj (Ch F) ?_;rintro n ⟨af,l1530,au⟩ aj;simp only[C7]at aj;refine An hS F aj (λ_ aj=>?_) (λ_ aj=>?_)
    ·obtain⟨x1531,ay,br,bq,aj⟩:=un aj;obtain⟨bg,F⟩:=Cb Kq ay F;exact Cd hS F (n,af+1,l1530++x1531,au+1+1+1+1) aj
    ·exact B4 hS F (l1530,au+1) aj
   ·rintro⟨an,bm⟩ rfl;exact Ai hS F h
end
section
attribute [local irreducible] Ax BO BB Bj BC Bk AY BD BK Cq
def Id(N:Nat)(l1539:List (Int×Int))(i1540:Int)(k1541:Int):Option ((List (Int×Int))×(List (Int×Int))×Int):=(Cy N l1539).bind λaa=>bif ((!aa)||(decide (min i1540 k1541<0)))||(decide ((l1539.length:Int)<=max i1540 k1541))then(some ([],[],70))else(bif decide (i1540<=k1541)then(gd (Af (k1541+1))<|gd (0<=i1540/\i1540<=k1541+1/\k1541+1<=(l1539.length:Int))<|gd ((l1539.drop i1540.toNat).take ((k1541+1).toNat-i1540.toNat)≠[])<|gd ((((l1539.drop i1540.toNat).take ((k1541+1).toNat-i1540.toNat)).length)*16<=140737488355328)<|bif decide (k1541<=i1540)then(gd (Af (i1540+1))<|gd (0<=k1541/\k1541<=i1540+1/\i1540+1<=(l1539.length:Int))<|gd ((l1539.drop k1541.toNat).take ((i1540+1).toNat-k1541.toNat)≠[])<|gd ((((l1539.drop k1541.toNat).take ((i1540+1).toNat-k1541.toNat)).length)*16<=140737488355328)<|bif decide (min (((l1539.drop i1540.toNat).take ((k1541+1).toNat-i1540.toNat)).length:Int) (((l1539.drop k1541.toNat).take ((i1540+1).toNat-k1541.toNat)).length:Int)<3)then(some ([],[],70))else(some ((l1539.drop i1540.toNat).take ((k1541+1).toNat-i1540.toNat),(l1539.drop k1541.toNat).take ((i1540+1).toNat-k1541.toNat),0)))else(gd (0<=k1541/\k1541<=(l1539.length:Int))<|gd (Af (i1540+1))<|gd (0<=0/\0<=i1540+1/\i1540+1<=(l1539.length:Int))<|(BX N [l1539.drop k1541.toNat,l1539.take ((i1540+1).toNat-0)]).bind λr1544=>bif decide (min (((l1539.drop i1540.toNat).take ((k1541+1).toNat-i1540.toNat)).length:Int) (r1544.length:Int)<3)then(some ([],[],70))else(some ((l1539.drop i1540.toNat).take ((k1541+1).toNat-i1540.toNat),r1544,0))))else(gd (0<=i1540/\i1540<=(l1539.length:Int))<|gd (Af (k1541+1))<|gd (0<=0/\0<=k1541+1/\k1541+1<=(l1539.length:Int))<|(BX N [l1539.drop i1540.toNat,l1539.take ((k1541+1).toNat-0)]).bind λr1546=>bif decide (k1541<=i1540)then(gd (Af (i1540+1))<|gd (0<=k1541/\k1541<=i1540+1/\i1540+1<=(l1539.length:Int))<|gd ((l1539.drop k1541.toNat).take ((i1540+1).toNat-k1541.toNat)≠[])<|gd ((((l1539.drop k1541.toNat).take ((i1540+1).toNat-k1541.toNat)).length)*16<=140737488355328)<|bif decide (min (r1546.length:Int) (((l1539.drop k1541.toNat).take ((i1540+1).toNat-k1541.toNat)).length:Int)<3)then(some ([],[],70))else(some (r1546,(l1539.drop k1541.toNat).take ((i1540+1).toNat-k1541.toNat),0)))else(gd (0<=k1541/\k1541<=(l1539.length:Int))<|gd (Af (i1540+1))<|gd (0<=0/\0<=i1540+1/\i1540+1<=(l1539.length:Int))<|(BX N [l1539.drop k1541.toNat,l1539.take ((i1540+1).toNat-0)]).bind λr1548=>bif decide (min (r1546.length:Int) (r1548.length:Int)<3)then(some ([],[],70))else(some (r1546,r1548,0)))))
@[go_sem] def RH(N:Nat):Spec:=p0<|pS Aq λl1539=>pI λi1540=>pI λk1541=>pE<|pF (Id N l1539 i1540 k1541) ([],[],0) λr=>.tup [BP r.1,BP r.2.1,.i r.2.2]
theorem yL(N:Nat):AG Tryz.prog 153 (RH N):=by
 refine Ar x153.ok<|AF λl1539=>Aa λi1540=>Aa λk1541=>Ad<|As λr h=>wx x153 (Ab (P8 N)<|Ab (yK N)<|Aj) λ_ hS F=>?_
 dsimp only[x153,Ah,Aq];unfold Id at h;obtain⟨aa,ah,h⟩:=un h;replace F:=fc ah F;refine An hS F h (λ_ h=>?_) (λ_ h=>?_)
 ·exact Ai hS F h
 ·refine go hS F ?_;refine TR hS 3 7 (by decide) x192.hf x192.hc x192.hn x192.ok x192.hf x192.hc x192.hn x192.ok rfl rfl (ev F) (ev F) (ev F) ?_ rfl (ev F) (qZ rfl) λhb=>?_
  ·exact Bl hS F
  dsimp only[x192,Ah];refine An hS F h (λ_ h=>?_) (λ_ h=>?_)
  ·obtain⟨bm,bl,h⟩:=un h;refine go hS F ?_;refine GO hS 5 x87.hf x87.hc x87.hn x87.ok rfl (ev F) (ev F) ?_ rfl (ev F) (qZ rfl) λhb=>?_
   ·exact Bl hS F
   dsimp only[x87,Ah];obtain⟨bj,h⟩:=un h;refine KR hS F ?_;obtain⟨bi,h⟩:=un h;refine go hS F ?_
   first|refine Vt (ev F) (ev F) ?_ ?_ rfl (ev F) (by simp) λhb=>?_|refine Vs (ev F) (ev F) ?_ ?_ rfl (ev F) (by simp) λhb=>?_
   ·exact Bl hS F
   ·exact Bl hS F
   try dsimp only[x192,Ah]
   refine An hS F h (λ_ h=>?_) (λ_ h=>?_)
   ·obtain⟨bh,bg,h⟩:=un h;refine go hS F ?_;refine GO hS 5 x87.hf x87.hc x87.hn x87.ok rfl (ev F) (ev F) ?_ rfl (ev F) (qZ rfl) λhb=>?_
    ·exact Bl hS F
    dsimp only[x87,Ah];obtain⟨bf,h⟩:=un h;refine KR hS F ?_;obtain⟨be,h⟩:=un h;refine An hS F h (λ_ h=>?_) (λ_ h=>?_)
    ·exact Ai hS F h
    ·exact Ai hS F h
   ·obtain⟨bb,ba,az,r1544,af,h⟩:=un h;replace F:=fc af F;refine An hS F h (λ_ h=>?_) (λ_ h=>?_)
    ·exact Ai hS F h
    ·exact Ai hS F h
  ·obtain⟨ay,aw,av,r1546,ae,h⟩:=un h;replace F:=fc ae F;refine go hS F ?_
   first|refine Vt (ev F) (ev F) ?_ ?_ rfl (ev F) (by simp) λhb=>?_|refine Vs (ev F) (ev F) ?_ ?_ rfl (ev F) (by simp) λhb=>?_
   ·exact Bl hS F
   ·exact Bl hS F
   try dsimp only[x192,Ah]
   refine An hS F h (λ_ h=>?_) (λ_ h=>?_)
   ·obtain⟨au,aq,h⟩:=un h;refine go hS F ?_;refine GO hS 5 x87.hf x87.hc x87.hn x87.ok rfl (ev F) (ev F) ?_ rfl (ev F) (qZ rfl) λhb=>?_
    ·exact Bl hS F
    dsimp only[x87,Ah];obtain⟨an,h⟩:=un h;refine KR hS F ?_;obtain⟨am,h⟩:=un h;refine An hS F h (λ_ h=>?_) (λ_ h=>?_)
    ·exact Ai hS F h
    ·exact Ai hS F h
   ·obtain⟨ak,aj,ai,r1548,ab,h⟩:=un h;replace F:=fc ab F;refine An hS F h (λ_ h=>?_) (λ_ h=>?_)
    ·exact Ai hS F h
    ·exact Ai hS F h
end
section
attribute [local irreducible] Ax BO BB Bj BC Bk AY BD BK Cq
attribute [local irreducible] E3
noncomputable def x189:=Ah (f:=189) AD Tryz.func189 []
theorem SI{P:Program}{f:Nat}{S:Tab}{args:List AV}{r:AV}(x:FnX P f)(hS:TabOK P S)(h:∀hb,TabOK P S->([]:List Nat).length=0->Ax (Ctx.fd P S x.nt hb) x.c (Q5 P S x.nt x.rv r) ⟨(dk x.nt,.gd false (.tup []))::BQ 0 args,[],0⟩)(hn:args.length<=x.nt:=by exact qZ rfl):PCall P f args r:=Vv hS x.nt x.hf x.hc x.hn hn λhb=>h hb hS rfl
abbrev Acf:AV:=.agg [Ap [],AS []]
theorem dJ{S:Tab}(hS:TabOK Tryz.prog S){e:Az}{h:Hp}{c:Nat}(ek:lk e (dk 38)=.gd false (.clo (.func 100) [] [.box (2,1) 0,.box (3,1) 0]))(e4:lk e 4=.box (2,1) 0)(e5:lk e 5=.box (3,1) 0)(hh:(FP (hl h (.c (2,1) 0))&&FP (hl h (.c (2,1) 1))&&FP (hl h (.c (3,1) 0)))=true):Q5 Tryz.prog S 38 x57.rv (.tup [Acf,.i 170]) (.p Qe) ⟨e,h,c⟩:=by simp only[oK,TD]at hh;obtain⟨⟨⟨c0,h0,k0⟩,⟨c1,h1,k1⟩⟩,⟨c2,h2,k2⟩⟩:=hh;refine⟨_,_,ek,_,_,_,_,_,_,x100.hf,x100.hc,x100.hn,qZ rfl,x100.ok,rfl,λhb2=>?_⟩;dsimp only[x100,Ah,Qe];have hOK2:=Ctx.fd_ok (nt:=16) (hb:=hb2) hS;have F:=fc h0 (fc h1 (fc h2 (fc k0 (fc k1 (fc k2 (fc e4 (fc e5 f0)))))));refine go hS F ?_;refine ct F ?_;refine go hS F ?_;refine Oi ⟨by simp only[go_sem,seval,F],?_⟩;dsimp only[x57,Ah];exact⟨_,_,ev F,by simp only[go_sem,seval,F],by simp only[go_sem,seval,F],.of (by simp only[go_sem,seval,F]),rfl⟩
theorem dK{P:Program}{S:Tab}{nt:Nat}{rvs:List RV}{r r':AV}{k:AE}{s:St}(h:r=r')(hk:Q5 P S nt rvs r' k s):Q5 P S nt rvs r k s:=h▸hk
theorem Aac{P:Program}{S:Tab}{nt:Nat}{rvs:List RV}{r:AV}{e:Az}{h:Hp}{c:Nat}{vc:Prop}{xs:List AV}(ek:lk e (dk nt)=.gd false (.tup []))(h1:DS e h rvs=some (vc,xs))(h2:vc)(h3:Gn h (one xs))(h4:HD (res h (one xs)) r)(h5:B2 r=true):Q5 P S nt rvs r .r ⟨e,h,c⟩:=.inl ⟨ek,vc,xs,h1,h2,h3,.ofD h4,h5⟩
theorem sS{S:Tab}(hS:TabOK Tryz.prog S){e:Az}{h:Hp}{c:Nat}{r:AV}{vc:Prop}{xs:List AV}(ek:lk e (dk 38)=.gd false (.clo (.func 100) [] [.box (2,1) 0,.box (3,1) 0]))(h1:DS e h [.c 4 2 true,.c 5 1 false]=some (vc,xs))(h2:vc)(h3:Gn h (one xs))(h4:HD (res h (one xs)) r)(h5:B2 r=true):Q5 Tryz.prog S 38 [.c 4 2 true,.c 5 1 false] r .r ⟨e,h,c⟩:=by refine .inr ⟨_,_,ek,_,_,_,_,_,_,x100.hf,x100.hc,x100.hn,qZ rfl,x100.ok,rfl,λhb2=>?_⟩;dsimp only[x100,Ah];have hOK2:=Ctx.fd_ok (nt:=16) (hb:=hb2) hS;have F:=f0;refine go hS F ?_;refine cf F ?_;refine go hS F ?_;refine cf F ?_;refine go hS F ?_;refine Oi ⟨by simp only[go_sem,seval,F],?_⟩;exact⟨vc,xs,h1,h2,h3,.ofD h4,h5⟩
theorem IQ{S:Tab}{F G:Prop}{E:Type}{a r:E}(hS:TabOK Tryz.prog S)(f:F)(h:some a=some r)(t:TabOK Tryz.prog S->(r=a/\F)->G:=by
 intro hS f;refine dK ?_ (dJ hS ?_ ?_ ?_ ?_)
 ·simp only[go_sem,seval,f]<;>eq_refl
 all_goals (simp only[go_sem,seval,f]<;>eq_refl)):G:=t hS ⟨(yJ h).symm,f⟩
theorem Ug{S:Tab}{F G:Prop}{E:Type}{a r:E}(hS:TabOK Tryz.prog S)(f:F)(h:some a=some r)(t:TabOK Tryz.prog S->(r=a/\F)->G:=by
 intro hS f
 repeat' (first
  |(with_reducible (first|apply DD|apply EA|apply Eu|apply FL|apply DE|apply DF|apply GD|apply GE);(·(first|exact Ctx.fn_ok hS|exact Ctx.rd_ok hS|assumption|exact yT|exact Ctx.rdG_ok hS));iterate 2 (·(simp only[go_sem,seval,f]<;>eq_refl)))
  |with_reducible (first|apply Dz|apply En|apply Di|apply Dj|apply CX|apply Cw|apply CK|apply DW|apply Ec|apply Eo|apply Ep|apply Er|apply Es)
  |(with_reducible apply Et;(·first|rfl|decide))
  |(with_reducible apply A4;(·simp))
  |with_reducible (first|apply HV|apply HW|apply HX|apply DB|apply DC|apply Ex|apply Ey|apply Ez|apply yT|apply And.intro yT yT)
  |(fail_if_success with_reducible apply G1);(fail_if_success with_reducible apply Ew);first|with_reducible apply And.intro|omega|(simp only[go_sem,seval,f];done)|with_reducible assumption|(refine And.intro ?_ ?_)|(intro hg;simp_all;done)|decide|grind)
 refine Aac (by simp only[go_sem,seval,f]<;>eq_refl) (by simp only[go_sem,seval,f]<;>eq_refl) (by simp only[go_sem,seval,f]) (by simp only[go_sem,seval,f]) ?_ rfl
 first|(simp only[go_sem,seval,f];done)|(simp[f,HD,Ib,Hk,HS,wk];done)):G:=t hS ⟨(yJ h).symm,f⟩
theorem SJ{S:Tab}{F G:Prop}{E:Type}{a r:E}(hS:TabOK Tryz.prog S)(f:F)(h:some a=some r)(t:TabOK Tryz.prog S->(r=a/\F)->G:=by
 intro hS f
 repeat' (first
  |(with_reducible (first|apply DD|apply EA|apply Eu|apply FL|apply DE|apply DF|apply GD|apply GE);(·(first|exact Ctx.fn_ok hS|exact Ctx.rd_ok hS|assumption|exact yT|exact Ctx.rdG_ok hS));iterate 2 (·(simp only[go_sem,seval,f]<;>eq_refl)))
  |with_reducible (first|apply Dz|apply En|apply Di|apply Dj|apply CX|apply Cw|apply CK|apply DW|apply Ec|apply Eo|apply Ep|apply Er|apply Es)
  |(with_reducible apply Et;(·first|rfl|decide))
  |(with_reducible apply A4;(·simp))
  |with_reducible (first|apply HV|apply HW|apply HX|apply DB|apply DC|apply Ex|apply Ey|apply Ez|apply yT|apply And.intro yT yT)
  |(fail_if_success with_reducible apply G1);(fail_if_success with_reducible apply Ew);first|with_reducible apply And.intro|omega|(simp only[go_sem,seval,f];done)|with_reducible assumption|(refine And.intro ?_ ?_)|(intro hg;simp_all;done)|decide|grind)
 refine sS hS (by simp only[go_sem,seval,f]<;>eq_refl) (by simp only[go_sem,seval,f]<;>eq_refl) (by simp only[go_sem,seval,f]) (by simp only[go_sem,seval,f]) ?_ rfl
 first|(simp only[go_sem,seval,f];done)|(simp[f,HD,Ib,Hk,HS,wk];done)):G:=t hS ⟨(yJ h).symm,f⟩
theorem Wv{E:Type}(e:E->List AV){l:List E}{i:Int}(h:0<=i/\i<=(l.length:Int)):∀n z,List.take (i.toNat-0) (List.map e (List.take i.toNat l)++List.replicate n z)=List.map e (List.take i.toNat l):=λn z=>by
 have:i.toNat-0=(List.map e (List.take i.toNat l)).length:=by simp;omega
 rw[this,List.take_left]
theorem Aad(N:Nat):∀a b,FR N 0 0 0 [] 0 0 a b=some ((0,0,0,[],0,0),80):=λa b=>by simp[FR,FT,Cy,gd]
end
attribute [local irreducible] Ax BO BB Bj BC Bk AY BD BK Cq
attribute [local irreducible] E3
attribute [local go_sem] kF Nj JT JU qU yU oI qv K2 List.map_replicate List.map_set
def IU(N:Nat)(aa:List (Int×Int×Int×(List (Int×Int))×Int×Int))(from2:List (Int×Int×Int×Int×Bool))(a4:Int)(a5:Int)(a6:Int)(a7:List (Int×Int))(a8:Int)(a9:Int)(am:Int)(ak:Int)(aj:Int)(ai:Int)(ah:Int)(af:Int)(ae:Int)(ab:Bool):Option (((List (Int×Int×Int×(List (Int×Int))×Int×Int))×(List (Int×Int×Int×Int×Bool)))×Int):=(Fj N a4 a5 a6 a7 a8 a9 am ak aj ai ah af ae ab).bind λbf=>bif !bf then(some (([],[]),170))else((Ge N aa).bind λba=>gd (from2.length*40<=140737488355328)<|(Fd N ba a4 a5 a6 a7 a8 a9).bind λ(an,be)=>bif !(decide (be=0))then(some (([],[]),170))else((CV N an from2).bind λbb=>bif !bb then(some (([],[]),170))else((Ge N an).bind λaz=>gd (from2.length*40<=140737488355328)<|some ((az,from2),0))))
@[go_sem] def AaL(N:Nat):Spec:=p0<|pG<|pD Ak λaa=>pD AA λfrom2=>pE<|pG<|pC 1<|pI λa4=>pI λa5=>pI λa6=>pD Aq λa7=>pI λa8=>pI λa9=>pI λam=>pI λak=>pI λaj=>pI λai=>pI λah=>pI λaf=>pI λae=>pB λab=>pE<|pE<|pF (IU N aa from2 a4 a5 a6 a7 a8 a9 am ak aj ai ah af ae ab) (([],[]),0) λr=>.tup [.agg [Ap r.1.1,AS r.1.2],.i r.2]
theorem lF(N:Nat):AG Tryz.prog 57 (AaL N):=by
 refine Ar x57.ok<|Aw<|AM λaa=>AM λfrom2=>Ad<|Aw<|Dn<|Aa λa4=>Aa λa5=>Aa λa6=>AM λa7=>Aa λa8=>Aa λa9=>Aa λam=>Aa λak=>Aa λaj=>Aa λai=>Aa λah=>Aa λaf=>Aa λae=>AX λab=>Ad<|Ad<|As λr h=>SI x57 (BG (Ab (Nk N)<|Ab (Wm N)<|Ab (NY N)<|Aj) (L3 N) (CP N) H3 (H2 N)) λhb hS F=>?_
 dsimp only[x57,Ah,Aq,AA,Ak];have hOK:=Ctx.fd_ok (nt:=38) (hb:=hb) hS;unfold IU at h;obtain⟨bf,ay,h⟩:=un h;replace F:=fc ay F;refine An hS F h (λ_ h=>?_) (λ_ h=>?_)
 ·exact Ug hS F h
 ·refine go hS F ?_;refine JH hS 1 rfl rfl (ev F) yT (ev F) (ev F) ?_;obtain⟨ba,aw,bh,h⟩:=un h;replace F:=fc aw F;refine go hS F ?_;refine BN hS 4 x133.hf x133.hc x133.hn x133.ok rfl (ev F) (ev F) ?_ rfl (ev F) (qZ rfl) λhb=>?_
  ·exact Bl hS F
  dsimp only[x133,Ah];refine go hS F ?_;refine AZ hS 3 x134.hf x134.hc x134.hn x134.ok rfl (ev F) (ev F) ?_ rfl (ev F) (qZ rfl) λhb=>?_
  ·exact Bl hS F
  dsimp only[x134,Ah];obtain⟨⟨an,be⟩,av,h⟩:=un h;replace F:=fc av F;refine go hS F ?_;refine AZ hS 2 x77.hf x77.hc x77.hn x77.ok rfl (ev F) (ev F) ?_ rfl (ev F) (qZ rfl) λhb=>?_
  ·exact Bl hS F
  dsimp only[x77,Ah];refine An hS F h (λ_ h=>?_) (λ_ h=>?_)
  ·refine go hS F ?_;refine Bf (Ctx.fn_ok hS) 2 rfl rfl (ev F) (ev F) (ev F) ?_
   repeat' (first|with_reducible (first|apply A8|apply A9|apply Bh|apply AR|apply Bx)|((with_reducible apply A4);(·simp)))
   exact IQ hS F h
  ·obtain⟨bb,au,h⟩:=un h;replace F:=fc au F;refine go hS F ?_;refine BN hS 5 x77.hf x77.hc x77.hn x77.ok rfl (ev F) (ev F) ?_ rfl (ev F) (qZ rfl) λhb=>?_
   ·exact Bl hS F
   dsimp only[x77,Ah];refine An hS F h (λ_ h=>?_) (λ_ h=>?_)
   ·refine go hS F ?_;refine Bf (Ctx.fn_ok hS) 2 rfl rfl (ev F) (ev F) (ev F) ?_
    repeat' (first|with_reducible (first|apply A8|apply A9|apply Bh|apply AR|apply Bx)|((with_reducible apply A4);(·simp)))
    exact IQ hS F h
   ·obtain⟨az,aq,bg,h⟩:=un h;exact SJ hS (fc aq F) h
