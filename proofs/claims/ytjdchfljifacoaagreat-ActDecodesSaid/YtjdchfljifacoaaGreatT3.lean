import Derived.Test.YtjdchfljifacoaaGreatS3
set_option linter.all false
set_option maxRecDepth 100000
set_option maxHeartbeats 8000000
namespace Go.Proofs.YtjdchfljifacoaaGreat.Am
open Go
section
attribute [local irreducible] Ax BO BB Bj BC Bk AY BD BK Cq
attribute [local irreducible] E3
attribute [local go_sem] kF Nj JT JU qU yU oI qv K2 List.map_replicate List.map_set
def IX(N:Nat)(aa:List (Int×Int×Int×(List (Int×Int))×Int×Int))(from228:List (Int×Int×Int×Int×Bool))(ay:Int)(aw:Int)(av:Int)(au:List (Int×Int))(aq:Int)(an:Int)(ab:Int)(af:Int)(ae:Int)(am:Int)(ak:Int)(aj:Int)(ai:Int)(ah:Bool):Option (((List (Int×Int×Int×(List (Int×Int))×Int×Int))×(List (Int×Int×Int×Int×Bool)))×Int):=(Fm N ay aw av au aq an ab af ae am ak aj ai ah).bind λb7=>bif !b7 then(some (([],[]),170))else((Ge N aa).bind λaz=>gd (from228.length*40<=140737488355328)<|(Dk N az ab).bind λ((bz,bw,bv,bu,br,bq),ba)=>bif ba then((FR N bz bw bv bu br bq af ae).bind λ((bp,bo,bn,bm,bl,bj),bi)=>bif !(decide (bi=0))then(some (([],[]),170))else((FY N az ab).bind λ(bh,bg)=>bif !(decide (bg=0))then(some (([],[]),170))else((Fd N bh bp bo bn bm bl bj).bind λ(r267,bf)=>bif !(decide (bf=0))then(some (([],[]),170))else((CV N r267 from228).bind λbe=>bif !be then(some (([],[]),170))else((Ge N r267).bind λbb=>gd (from228.length*40<=140737488355328)<|some ((bb,from228),0))))))else(some (([],[]),170)))
@[go_sem] def AaO(N:Nat):Spec:=p0<|pG<|pD Ak λaa=>pD AA λfrom228=>pE<|pG<|pC 4<|pI λay=>pI λaw=>pI λav=>pD Aq λau=>pI λaq=>pI λan=>pI λab=>pI λaf=>pI λae=>pI λam=>pI λak=>pI λaj=>pI λai=>pB λah=>pE<|pE<|pF (IX N aa from228 ay aw av au aq an ab af ae am ak aj ai ah) (([],[]),0) λr=>.tup [.agg [Ap r.1.1,AS r.1.2],.i r.2]
theorem lI(N:Nat):AG Tryz.prog 57 (AaO N):=by
 refine Ar x57.ok<|Aw<|AM λaa=>AM λfrom228=>Ad<|Aw<|Dn<|Aa λay=>Aa λaw=>Aa λav=>AM λau=>Aa λaq=>Aa λan=>Aa λab=>Aa λaf=>Aa λae=>Aa λam=>Aa λak=>Aa λaj=>Aa λai=>AX λah=>Ad<|Ad<|As λr h=>SI x57 (BG (Ab (No N)<|Ab (nQ N)<|Ab (Wn N)<|Ab (Wm N)<|Ab (NY N)<|Aj) (L3 N) (CP N) H3 (H2 N)) λhb hS F=>?_
 dsimp only[x57,Ah,Aq,AA,Ak];have hOK:=Ctx.fd_ok (nt:=38) (hb:=hb) hS;unfold IX at h;obtain⟨b7,co,h⟩:=un h;replace F:=fc co F;refine An hS F h (λ_ h=>?_) (λ_ h=>?_)
 ·exact Ug hS F h
 ·refine go hS F ?_;refine JH hS 1 rfl rfl (ev F) yT (ev F) (ev F) ?_;obtain⟨az,cn,cu,h⟩:=un h;replace F:=fc cn F;refine go hS F ?_;refine BN hS 4 x157.hf x157.hc x157.hn x157.ok rfl (ev F) (ev F) ?_ rfl (ev F) (kM rfl) λhb=>?_
  ·exact Bl hS F
  dsimp only[x157,Ah];obtain⟨⟨⟨bz,bw,bv,bu,br,bq⟩,ba⟩,cm,h⟩:=un h;replace F:=fc cm F;refine go hS F ?_;cases cq:ba with
  |false=>
   replace F:=fc cq F;replace h:=We cq h;replace F:=fc (Aad N) F;refine vA (p:=Qe) (Ctx.fn_ok hS) F 3 (.agg [.i 0,.i 0,.i 0,.sl 2 false [] [.i 0,.i 0],.i 0,.i 0]) ?_
   repeat' (first|with_reducible (first|apply A8|apply A9|apply Bh|apply AR|apply Bx)|((with_reducible apply A4);(·simp)))
   exact IQ hS F h
  |true=>
   replace F:=fc cq F;replace h:=Wd cq h;obtain⟨⟨⟨bp,bo,bn,bm,bl,bj⟩,bi⟩,ck,h⟩:=un h;replace F:=fc ck F;refine go hS F ?_;refine AZ hS 2 x77.hf x77.hc x77.hn x77.ok rfl (ev F) (ev F) ?_ rfl (ev F) (kM rfl) λhb=>?_
   ·exact Bl hS F
   dsimp only[x77,Ah];refine An hS F h (λ_ h=>?_) (λ_ h=>?_)
   ·refine go hS F ?_;refine Bf (Ctx.fn_ok hS) 2 rfl rfl (ev F) (ev F) (ev F) ?_
    repeat' (first|with_reducible (first|apply A8|apply A9|apply Bh|apply AR|apply Bx)|((with_reducible apply A4);(·simp)))
    exact IQ hS F h
   ·refine go hS F ?_;refine AZ hS 3 x143.hf x143.hc x143.hn x143.ok rfl (ev F) (ev F) ?_ rfl (ev F) (kM rfl) λhb=>?_
    ·exact Bl hS F
    dsimp only[x143,Ah];obtain⟨⟨bh,bg⟩,cj,h⟩:=un h;replace F:=fc cj F;refine go hS F ?_;refine AZ hS 2 x77.hf x77.hc x77.hn x77.ok rfl (ev F) (ev F) ?_ rfl (ev F) (kM rfl) λhb=>?_
    ·exact Bl hS F
    dsimp only[x77,Ah];refine An hS F h (λ_ h=>?_) (λ_ h=>?_)
    ·refine go hS F ?_;refine Bf (Ctx.fn_ok hS) 2 rfl rfl (ev F) (ev F) (ev F) ?_
     repeat' (first|with_reducible (first|apply A8|apply A9|apply Bh|apply AR|apply Bx)|((with_reducible apply A4);(·simp)))
     exact IQ hS F h
    ·refine go hS F ?_;refine AZ hS 2 x134.hf x134.hc x134.hn x134.ok rfl (ev F) (ev F) ?_ rfl (ev F) (kM rfl) λhb=>?_
     ·exact Bl hS F
     dsimp only[x134,Ah];obtain⟨⟨r267,bf⟩,ci,h⟩:=un h;replace F:=fc ci F;refine go hS F ?_;refine AZ hS 2 x77.hf x77.hc x77.hn x77.ok rfl (ev F) (ev F) ?_ rfl (ev F) (kM rfl) λhb=>?_
     ·exact Bl hS F
     dsimp only[x77,Ah];refine An hS F h (λ_ h=>?_) (λ_ h=>?_)
     ·refine go hS F ?_;refine Bf (Ctx.fn_ok hS) 2 rfl rfl (ev F) (ev F) (ev F) ?_
      repeat' (first|with_reducible (first|apply A8|apply A9|apply Bh|apply AR|apply Bx)|((with_reducible apply A4);(·simp)))
      exact IQ hS F h
     ·obtain⟨be,ce,h⟩:=un h;replace F:=fc ce F;refine go hS F ?_;refine BN hS 5 x77.hf x77.hc x77.hn x77.ok rfl (ev F) (ev F) ?_ rfl (ev F) (kM rfl) λhb=>?_
      ·exact Bl hS F
      dsimp only[x77,Ah];refine An hS F h (λ_ h=>?_) (λ_ h=>?_)
      ·refine go hS F ?_;refine Bf (Ctx.fn_ok hS) 2 rfl rfl (ev F) (ev F) (ev F) ?_
       repeat' (first|with_reducible (first|apply A8|apply A9|apply Bh|apply AR|apply Bx)|((with_reducible apply A4);(·simp)))
       exact IQ hS F h
      ·obtain⟨bb,b9,cr,h⟩:=un h;exact SJ hS (fc b9 F) h
end
section
attribute [local irreducible] Ax BO BB Bj BC Bk AY BD BK Cq
attribute [local irreducible] E3
attribute [local go_sem] kF Nj JT JU qU yU oI qv K2 List.map_replicate List.map_set
def IY(N:Nat)(aa:List (Int×Int×Int×(List (Int×Int))×Int×Int))(from275:List (Int×Int×Int×Int×Bool))(ay:Int)(aw:Int)(av:Int)(au:List (Int×Int))(aq:Int)(an:Int)(am:Int)(ak:Int)(aj:Int)(ab:Int)(ai:Int)(ah:Int)(af:Int)(ae:Bool):Option (((List (Int×Int×Int×(List (Int×Int))×Int×Int))×(List (Int×Int×Int×Int×Bool)))×Int):=(Fo N ay aw av au aq an am ak aj ab ai ah af ae).bind λbf=>bif !bf then(some (([],[]),170))else((Ge N aa).bind λaz=>gd (from275.length*40<=140737488355328)<|(BE N from275 ab).bind λ(r295,be)=>bif !(!be)then(some (([],[]),170))else(gd (0<=r295/\r295<=(from275.length:Int))<|gd ((from275.length+1)*40<=140737488355328)<|(CV N az (from275.take r295.toNat++[(ab,ai,ah,af,ae)]++from275.drop r295.toNat)).bind λbb=>bif !bb then(some (([],[]),170))else((Ge N az).bind λba=>gd ((from275.take r295.toNat++[(ab,ai,ah,af,ae)]++from275.drop r295.toNat).length*40<=140737488355328)<|some ((ba,from275.take r295.toNat++[(ab,ai,ah,af,ae)]++from275.drop r295.toNat),0))))
@[go_sem] def AaP(N:Nat):Spec:=p0<|pG<|pD Ak λaa=>pD AA λfrom275=>pE<|pG<|pC 5<|pI λay=>pI λaw=>pI λav=>pD Aq λau=>pI λaq=>pI λan=>pI λam=>pI λak=>pI λaj=>pI λab=>pI λai=>pI λah=>pI λaf=>pB λae=>pE<|pE<|pF (IY N aa from275 ay aw av au aq an am ak aj ab ai ah af ae) (([],[]),0) λr=>.tup [.agg [Ap r.1.1,AS r.1.2],.i r.2]
theorem lJ(N:Nat):AG Tryz.prog 57 (AaP N):=by
 refine Ar x57.ok<|Aw<|AM λaa=>AM λfrom275=>Ad<|Aw<|Dn<|Aa λay=>Aa λaw=>Aa λav=>AM λau=>Aa λaq=>Aa λan=>Aa λam=>Aa λak=>Aa λaj=>Aa λab=>Aa λai=>Aa λah=>Aa λaf=>AX λae=>Ad<|Ad<|As λr h=>SI x57 (BG (Ab (Np N)<|Ab (XJ N)<|Ab (NY N)<|Aj) (L3 N) (CP N) H3 (H2 N)) λhb hS F=>?_
 dsimp only[x57,Ah,Aq,AA,Ak];have hOK:=Ctx.fd_ok (nt:=38) (hb:=hb) hS;unfold IY at h;obtain⟨bf,bl,h⟩:=un h;replace F:=fc bl F;refine An hS F h (λ_ h=>?_) (λ_ h=>?_)
 ·exact Ug hS F h
 ·refine go hS F ?_;refine JH hS 1 rfl rfl (ev F) yT (ev F) (ev F) ?_;obtain⟨az,bj,bp,h⟩:=un h;replace F:=fc bj F;refine go hS F ?_;refine BN hS 4 x165.hf x165.hc x165.hn x165.ok rfl (ev F) (ev F) ?_ rfl (ev F) (kM rfl) λhb=>?_
  ·exact Bl hS F
  dsimp only[x165,Ah];obtain⟨⟨r295,be⟩,bi,h⟩:=un h;replace F:=fc bi F;refine go hS F ?_;refine AZ hS 2 x77.hf x77.hc x77.hn x77.ok rfl (ev F) (ev F) ?_ rfl (ev F) (kM rfl) λhb=>?_
  ·exact Bl hS F
  dsimp only[x77,Ah];refine An hS F h (λ_ h=>?_) (λ_ h=>?_)
  ·refine go hS F ?_;refine Bf (Ctx.fn_ok hS) 2 rfl rfl (ev F) (ev F) (ev F) ?_
   repeat' (first|with_reducible (first|apply A8|apply A9|apply Bh|apply AR|apply Bx)|((with_reducible apply A4);(·simp)))
   exact IQ hS F h
  ·obtain⟨bo,bn,bb,bh,h⟩:=un h;replace F:=fc bh F;refine go hS F ?_;refine BN hS 5 x77.hf x77.hc x77.hn x77.ok rfl (ev F) (ev F) ?_ rfl (ev F) (kM rfl) λhb=>?_
   ·exact Bl hS F
   dsimp only[x77,Ah];refine An hS F h (λ_ h=>?_) (λ_ h=>?_)
   ·refine go hS F ?_;refine Bf (Ctx.fn_ok hS) 2 rfl rfl (ev F) (ev F) (ev F) ?_
    repeat' (first|with_reducible (first|apply A8|apply A9|apply Bh|apply AR|apply Bx)|((with_reducible apply A4);(·simp)))
    exact IQ hS F h
   ·obtain⟨ba,bg,bm,h⟩:=un h;exact SJ hS (fc bg F) h
end
section
attribute [local irreducible] Ax BO BB Bj BC Bk AY BD BK Cq
attribute [local irreducible] E3
attribute [local go_sem] kF Nj JT JU qU yU oI List.map_replicate List.map_set
def IZ(N:Nat)(aa:List (Int×Int×Int×(List (Int×Int))×Int×Int))(from247:List (Int×Int×Int×Int×Bool))(be:Int)(bb:Int)(ba:Int)(az:List (Int×Int))(ay:Int)(aw:Int)(ab:Int)(av:Int)(au:Int)(aq:Int)(an:Int)(am:Int)(ak:Int)(aj:Bool):Option (((List (Int×Int×Int×(List (Int×Int))×Int×Int))×(List (Int×Int×Int×Int×Bool)))×Int):=(Fp N be bb ba az ay aw ab av au aq an am ak aj).bind λbi=>bif !bi then(some (([],[]),170))else((Ge N aa).bind λbf=>gd (from247.length*40<=140737488355328)<|(Bu N from247 ab).bind λr267=>gd ((decide (0<=r267))=true->(0<=r267/\r267<(from247.length:Int)))<|gd ((decide (0<=r267))=true->(0<=r267/\r267<(from247.length:Int)))<|bif !((decide (0<=r267))&&(((from247.getD r267.toNat (0,0,0,0,false)).2.2.2.2) !=false))then(some (([],[]),170))else((A7 from247 r267).bind λ(ai,ah,af,ae,bq)=>(CV N bf (from247.set r267.toNat (ai,ah,af,ae,false))).bind λbh=>bif !bh then(some (([],[]),170))else((Ge N bf).bind λbg=>gd ((from247.set r267.toNat (ai,ah,af,ae,false)).length*40<=140737488355328)<|some ((bg,from247.set r267.toNat (ai,ah,af,ae,false)),0))))
@[go_sem] def AaQ(N:Nat):Spec:=p0<|pG<|pD Ak λaa=>pD AA λfrom247=>pE<|pG<|pC 6<|pI λbe=>pI λbb=>pI λba=>pD Aq λaz=>pI λay=>pI λaw=>pI λab=>pI λav=>pI λau=>pI λaq=>pI λan=>pI λam=>pI λak=>pB λaj=>pE<|pE<|pF (IZ N aa from247 be bb ba az ay aw ab av au aq an am ak aj) (([],[]),0) λr=>.tup [.agg [Ap r.1.1,AS r.1.2],.i r.2]
theorem lK(N:Nat):AG Tryz.prog 57 (AaQ N):=by
 refine Ar x57.ok<|Aw<|AM λaa=>AM λfrom247=>Ad<|Aw<|Dn<|Aa λbe=>Aa λbb=>Aa λba=>AM λaz=>Aa λay=>Aa λaw=>Aa λab=>Aa λav=>Aa λau=>Aa λaq=>Aa λan=>Aa λam=>Aa λak=>AX λaj=>Ad<|Ad<|As λr h=>SI x57 (BG (Ab (Nq N)<|Ab (Ri N)<|Ab (NY N)<|Aj) (L3 N) (CP N) H3 (H2 N)) λhb hS F=>?_
 dsimp only[x57,Ah,Aq,AA,Ak];have hOK:=Ctx.fd_ok (nt:=38) (hb:=hb) hS;unfold IZ at h;obtain⟨bi,bo,h⟩:=un h;replace F:=fc bo F;refine An hS F h (λ_ h=>?_) (λ_ h=>?_)
 ·exact Ug hS F h
 ·refine go hS F ?_;refine JH hS 1 rfl rfl (ev F) yT (ev F) (ev F) ?_;obtain⟨bf,bn,bz,h⟩:=un h;replace F:=fc bn F;refine go hS F ?_;refine BN hS 4 x170.hf x170.hc x170.hn x170.ok rfl (ev F) (ev F) ?_ rfl (ev F) (kM rfl) λhb=>?_
  ·exact Bl hS F
  dsimp only[x170,Ah];refine go hS F ?_;refine AZ hS 3 x171.hf x171.hc x171.hn x171.ok rfl (ev F) (ev F) ?_ rfl (ev F) (kM rfl) λhb=>?_
  ·exact Bl hS F
  dsimp only[x171,Ah];obtain⟨r267,bm,bw,bv,h⟩:=un h;replace F:=fc bm F;refine go hS F ?_;refine AZ hS 15 x77.hf x77.hc x77.hn x77.ok rfl (ev F) (ev F) ?_ rfl (ev F) (kM rfl) λhb=>?_
  ·exact Bl hS F
  dsimp only[x77,Ah];refine An hS F h (λ_ h=>?_) (λ_ h=>?_)
  ·refine go hS F ?_;refine Bf (Ctx.fn_ok hS) 2 rfl rfl (ev F) (ev F) (ev F) ?_
   repeat' (first|with_reducible (first|apply A8|apply A9|apply Bh|apply AR|apply Bx)|((with_reducible apply A4);(·simp)))
   exact IQ hS F h
  ·obtain⟨⟨ai,ah,af,ae,bq⟩,bp,h⟩:=un h;obtain⟨br,F⟩:=Cb BZ bp F;obtain⟨bh,bl,h⟩:=un h;replace F:=fc bl F;refine go hS F ?_;refine BN hS 5 x77.hf x77.hc x77.hn x77.ok rfl (ev F) (ev F) ?_ rfl (ev F) (kM rfl) λhb=>?_
   ·exact Bl hS F
   dsimp only[x77,Ah];refine An hS F h (λ_ h=>?_) (λ_ h=>?_)
   ·refine go hS F ?_;refine Bf (Ctx.fn_ok hS) 2 rfl rfl (ev F) (ev F) (ev F) ?_
    repeat' (first|with_reducible (first|apply A8|apply A9|apply Bh|apply AR|apply Bx)|((with_reducible apply A4);(·simp)))
    exact IQ hS F h
   ·obtain⟨bg,bj,bu,h⟩:=un h;exact SJ hS (fc bj F) h
end
section
attribute [local irreducible] Ax BO BB Bj BC Bk AY BD BK Cq
attribute [local irreducible] E3
attribute [local go_sem] kF Nj JT JU qU yU oI List.map_replicate List.map_set
def I0(N:Nat)(aa:List (Int×Int×Int×(List (Int×Int))×Int×Int))(from280:List (Int×Int×Int×Int×Bool))(be:Int)(bb:Int)(ba:Int)(az:List (Int×Int))(ay:Int)(aw:Int)(ab:Int)(av:Int)(au:Int)(aq:Int)(an:Int)(am:Int)(ak:Int)(aj:Bool):Option (((List (Int×Int×Int×(List (Int×Int))×Int×Int))×(List (Int×Int×Int×Int×Bool)))×Int):=(Fq N be bb ba az ay aw ab av au aq an am ak aj).bind λbi=>bif !bi then(some (([],[]),170))else((Ge N aa).bind λbf=>gd (from280.length*40<=140737488355328)<|(Bu N from280 ab).bind λr300=>gd ((decide (0<=r300))=true->(0<=r300/\r300<(from280.length:Int)))<|gd ((decide (0<=r300))=true->(0<=r300/\r300<(from280.length:Int)))<|bif !((decide (0<=r300))&&(((from280.getD r300.toNat (0,0,0,0,false)).2.2.2.2) !=true))then(some (([],[]),170))else((A7 from280 r300).bind λ(ai,ah,af,ae,bq)=>(CV N bf (from280.set r300.toNat (ai,ah,af,ae,true))).bind λbh=>bif !bh then(some (([],[]),170))else((Ge N bf).bind λbg=>gd ((from280.set r300.toNat (ai,ah,af,ae,true)).length*40<=140737488355328)<|some ((bg,from280.set r300.toNat (ai,ah,af,ae,true)),0))))
@[go_sem] def AaR(N:Nat):Spec:=p0<|pG<|pD Ak λaa=>pD AA λfrom280=>pE<|pG<|pC 7<|pI λbe=>pI λbb=>pI λba=>pD Aq λaz=>pI λay=>pI λaw=>pI λab=>pI λav=>pI λau=>pI λaq=>pI λan=>pI λam=>pI λak=>pB λaj=>pE<|pE<|pF (I0 N aa from280 be bb ba az ay aw ab av au aq an am ak aj) (([],[]),0) λr=>.tup [.agg [Ap r.1.1,AS r.1.2],.i r.2]
theorem lN(N:Nat):AG Tryz.prog 57 (AaR N):=by
 refine Ar x57.ok<|Aw<|AM λaa=>AM λfrom280=>Ad<|Aw<|Dn<|Aa λbe=>Aa λbb=>Aa λba=>AM λaz=>Aa λay=>Aa λaw=>Aa λab=>Aa λav=>Aa λau=>Aa λaq=>Aa λan=>Aa λam=>Aa λak=>AX λaj=>Ad<|Ad<|As λr h=>SI x57 (BG (Ab (Nr N)<|Ab (Ri N)<|Ab (NY N)<|Aj) (L3 N) (CP N) H3 (H2 N)) λhb hS F=>?_
 dsimp only[x57,Ah,Aq,AA,Ak];have hOK:=Ctx.fd_ok (nt:=38) (hb:=hb) hS;unfold I0 at h;obtain⟨bi,bo,h⟩:=un h;replace F:=fc bo F;refine An hS F h (λ_ h=>?_) (λ_ h=>?_)
 ·exact Ug hS F h
 ·refine go hS F ?_;refine JH hS 1 rfl rfl (ev F) yT (ev F) (ev F) ?_;obtain⟨bf,bn,bz,h⟩:=un h;replace F:=fc bn F;refine go hS F ?_;refine BN hS 4 x173.hf x173.hc x173.hn x173.ok rfl (ev F) (ev F) ?_ rfl (ev F) (kM rfl) λhb=>?_
  ·exact Bl hS F
  dsimp only[x173,Ah];refine go hS F ?_;refine AZ hS 3 x171.hf x171.hc x171.hn x171.ok rfl (ev F) (ev F) ?_ rfl (ev F) (kM rfl) λhb=>?_
  ·exact Bl hS F
  dsimp only[x171,Ah];obtain⟨r300,bm,bw,bv,h⟩:=un h;replace F:=fc bm F;refine go hS F ?_;refine AZ hS 15 x77.hf x77.hc x77.hn x77.ok rfl (ev F) (ev F) ?_ rfl (ev F) (kM rfl) λhb=>?_
  ·exact Bl hS F
  dsimp only[x77,Ah];refine An hS F h (λ_ h=>?_) (λ_ h=>?_)
  ·refine go hS F ?_;refine Bf (Ctx.fn_ok hS) 2 rfl rfl (ev F) (ev F) (ev F) ?_
   repeat' (first|with_reducible (first|apply A8|apply A9|apply Bh|apply AR|apply Bx)|((with_reducible apply A4);(·simp)))
   exact IQ hS F h
  ·obtain⟨⟨ai,ah,af,ae,bq⟩,bp,h⟩:=un h;obtain⟨br,F⟩:=Cb BZ bp F;obtain⟨bh,bl,h⟩:=un h;replace F:=fc bl F;refine go hS F ?_;refine BN hS 5 x77.hf x77.hc x77.hn x77.ok rfl (ev F) (ev F) ?_ rfl (ev F) (kM rfl) λhb=>?_
   ·exact Bl hS F
   dsimp only[x77,Ah];refine An hS F h (λ_ h=>?_) (λ_ h=>?_)
   ·refine go hS F ?_;refine Bf (Ctx.fn_ok hS) 2 rfl rfl (ev F) (ev F) (ev F) ?_
    repeat' (first|with_reducible (first|apply A8|apply A9|apply Bh|apply AR|apply Bx)|((with_reducible apply A4);(·simp)))
    exact IQ hS F h
   ·obtain⟨bg,bj,bu,h⟩:=un h;exact SJ hS (fc bj F) h
end
section
attribute [local irreducible] Ax BO BB Bj BC Bk AY BD BK Cq
attribute [local irreducible] E3
attribute [local go_sem] kF Nj JT JU qU yU oI qv K2 List.map_replicate List.map_set
def Kz(N:Nat)(aa:List (Int×Int×Int×(List (Int×Int))×Int×Int))(from2:List (Int×Int×Int×Int×Bool))(a3:Int)(a4:Int)(a5:Int)(a6:Int)(a7:List (Int×Int))(a8:Int)(a9:Int)(am:Int)(ak:Int)(aj:Int)(ai:Int)(ah:Int)(af:Int)(ae:Int)(ab:Bool):Option (((List (Int×Int×Int×(List (Int×Int))×Int×Int))×(List (Int×Int×Int×Int×Bool)))×Int):=(Fr N a3 a4 a5 a6 a7 a8 a9 am ak aj ai ah af ae ab).bind λaq=>gd (aq=false)<|some (([],[]),170)
@[go_sem] def AaS(N:Nat):Spec:=p0<|pG<|pD Ak λaa=>pD AA λfrom2=>pE<|pG<|pI λa3=>pI λa4=>pI λa5=>pI λa6=>pD Aq λa7=>pI λa8=>pI λa9=>pI λam=>pI λak=>pI λaj=>pI λai=>pI λah=>pI λaf=>pI λae=>pB λab=>pE<|pE<|pF (Kz N aa from2 a3 a4 a5 a6 a7 a8 a9 am ak aj ai ah af ae ab) (([],[]),0) λr=>.tup [.agg [Ap r.1.1,AS r.1.2],.i r.2]
theorem lO(N:Nat):AG Tryz.prog 57 (AaS N):=by
 refine Ar x57.ok<|Aw<|AM λaa=>AM λfrom2=>Ad<|Aw<|Aa λa3=>Aa λa4=>Aa λa5=>Aa λa6=>AM λa7=>Aa λa8=>Aa λa9=>Aa λam=>Aa λak=>Aa λaj=>Aa λai=>Aa λah=>Aa λaf=>Aa λae=>AX λab=>Ad<|Ad<|As λr h=>SI x57 (BG (Ab (Ns N)<|Aj) (L3 N) (CP N) H3 (H2 N)) λhb hS F=>?_
 dsimp only[x57,Ah,Aq,AA,Ak];have hOK:=Ctx.fd_ok (nt:=38) (hb:=hb) hS;unfold Kz at h;obtain⟨aq,an,au,h⟩:=un h;replace F:=fc au (fc an F);refine Om hS F ?_;exact Ug hS F h
end
section
attribute [local irreducible] Ax BO BB Bj BC Bk AY BD BK Cq
def JW(N:Nat)(aa:List Un)(from2:List Mk)(a3:Int)(a4:Int)(a5:Int)(a6:Int)(a7:List (Int×Int))(a8:Int)(a9:Int)(am:Int)(ak:Int)(aj:Int)(ai:Int)(ah:Int)(af:Int)(ae:Int)(ab:Bool):Option ((List Un×List Mk)×Int):=if a3=1 then IU N aa from2 a4 a5 a6 a7 a8 a9 am ak aj ai ah af ae ab else if a3=2 then IV N aa from2 a4 a5 a6 a7 a8 a9 am ak aj ai ah af ae ab else if a3=3 then IW N aa from2 a4 a5 a6 a7 a8 a9 am ak aj ai ah af ae ab else if a3=4 then IX N aa from2 a4 a5 a6 a7 a8 a9 am ak aj ai ah af ae ab else if a3=5 then IY N aa from2 a4 a5 a6 a7 a8 a9 am ak aj ai ah af ae ab else if a3=6 then IZ N aa from2 a4 a5 a6 a7 a8 a9 am ak aj ai ah af ae ab else if a3=7 then I0 N aa from2 a4 a5 a6 a7 a8 a9 am ak aj ai ah af ae ab else Kz N aa from2 a3 a4 a5 a6 a7 a8 a9 am ak aj ai ah af ae ab
@[go_sem] def s57(N:Nat):Spec:=p0<|pG<|pD Ak λaa=>pD AA λfrom2=>pE<|pG<|pI λa3=>pI λa4=>pI λa5=>pI λa6=>pD Aq λa7=>pI λa8=>pI λa9=>pI λam=>pI λak=>pI λaj=>pI λai=>pI λah=>pI λaf=>pI λae=>pB λab=>pE<|pE<|pF (JW N aa from2 a3 a4 a5 a6 a7 a8 a9 am ak aj ai ah af ae ab) (([],[]),0) λr=>.tup [.agg [Ap r.1.1,AS r.1.2],.i r.2]
theorem Bv{P:Program}{f:Nat}{s:Spec}{args:List AV}{vc:Prop}{r:AV}(φ:AG P f s)(hs:s args=some (vc,r))(hv:vc):PCall P f args r:=φ.2 _ _ _ hs hv
theorem pW(N:Nat):AG Tryz.prog 57 (s57 N):=by
 refine Ar x57.ok<|Aw<|AM λaa=>AM λfrom2=>Ad<|Aw<|Aa λa3=>Aa λa4=>Aa λa5=>Aa λa6=>AM λa7=>Aa λa8=>Aa λa9=>Aa λam=>Aa λak=>Aa λaj=>Aa λai=>Aa λah=>Aa λaf=>Aa λae=>AX λab=>Ad<|Ad<|As λr h=>?_
 dsimp only[Aq,AA,Ak];unfold JW at h;split at h
 ·rename_i e;subst e;exact Bv (lF N) (by simp only[go_sem,seval,h]<;>eq_refl) (by simp only[go_sem,seval,h])
 split at h
 ·rename_i e;subst e;exact Bv (lG N) (by simp only[go_sem,seval,h]<;>eq_refl) (by simp only[go_sem,seval,h])
 split at h
 ·rename_i e;subst e;exact Bv (lH N) (by simp only[go_sem,seval,h]<;>eq_refl) (by simp only[go_sem,seval,h])
 split at h
 ·rename_i e;subst e;exact Bv (lI N) (by simp only[go_sem,seval,h]<;>eq_refl) (by simp only[go_sem,seval,h])
 split at h
 ·rename_i e;subst e;exact Bv (lJ N) (by simp only[go_sem,seval,h]<;>eq_refl) (by simp only[go_sem,seval,h])
 split at h
 ·rename_i e;subst e;exact Bv (lK N) (by simp only[go_sem,seval,h]<;>eq_refl) (by simp only[go_sem,seval,h])
 split at h
 ·rename_i e;subst e;exact Bv (lN N) (by simp only[go_sem,seval,h]<;>eq_refl) (by simp only[go_sem,seval,h])
 exact Bv (lO N) (by simp only[go_sem,seval,h]<;>eq_refl) (by simp only[go_sem,seval,h])
end
section
attribute [local irreducible] Ax BO BB Bj BC Bk AY BD BK Cq
attribute [local go_sem] Nj
def Fh(N:Nat)(s1:List (Int×Int×Int×(List (Int×Int))×Int×Int))(s2:List (Int×Int×Int×Int×Bool)):Option ((List (Int×Int×Int×(List (Int×Int))×Int×Int))×(List (Int×Int×Int×Int×Bool))):=gd (s2.length*40<=140737488355328)<|(EC N s1 N 0 []).bind λl41=>some (l41,s2)
@[go_sem] def YV(N:Nat):Spec:=p0<|pG<|pD Ak λs1=>pD AA λs2=>pE<|pE<|pF (Fh N s1 s2) ([],[]) λr=>.agg [Ap r.1,AS r.2]
theorem QZ(N:Nat):AG Tryz.prog 56 (YV N):=by
 refine Ar x56.ok<|Aw<|AM λs1=>AM λs2=>Ad<|Ad<|As λr h=>wx x56 (BG (Ab (UZ N)<|Aj) DX (Wt) DY DZ) λ_ hS F=>?_
 dsimp only[x56,Ah,AA,Ak];unfold Fh at h;obtain⟨bf,h⟩:=un h;refine go hS F ?_;refine Fc 1000001 (104,2) 0 6 [.i 0,.i 0,.i 0,.sl 0 true [] [],.i 0,.i 0] (by omega) (ev F) ?_;obtain⟨ay,ba,h⟩:=un h;refine go hS F ?_;refine Bz ay (λz:(List (Int×Int×Int×(List (Int×Int))×Int×Int))×Nat=>⟨[(2,.box (1,1) 0),(3,.box (104,2) 0)],[(.c (104,2) 0,.own (1000001,4) z.1.length),(.c (104,2) 1,.own (102,2) s2.length),(.a (102,2),EH s2),(.a (1000001,4),B7 z.1),(.c (1,1) 0,.sl 0 true [] []),(.c (1,1) 1,.sl 0 true [] [])],z.2⟩) (λz=>(z.1:(List (Int×Int×Int×(List (Int×Int))×Int×Int)))) (.x 0) ?_ ?_
 ·refine Bp (λn (y:Int×(List (Int×Int×Int×(List (Int×Int))×Int×Int))×Nat)=>EC N s1 n y.1 y.2.1) (λy=>⟨[(2,.box (1,1) 0),(3,.box (104,2) 0),(12,Ap s1),(13,.i (s1.length:Int)),(14,.i y.1)],[(.c (104,2) 0,.own (1000001,4) y.2.1.length),(.c (104,2) 1,.own (102,2) s2.length),(.a (102,2),EH s2),(.a (1000001,4),B7 y.2.1),(.c (1,1) 0,.sl 0 true [] []),(.c (1,1) 1,.sl 0 true [] [])],y.2.2⟩) (0,[],4) ba (Ch F) ?_;rintro n ⟨x26,au,av⟩ am;simp only[EC]at am;refine An hS F am (λ_ am=>?_) (λ_ am=>?_)
  ·obtain⟨⟨gD,x29,T1,x31,x32,x33⟩,aq,am⟩:=un am;obtain⟨az,F⟩:=Cb Au aq F;obtain⟨aw,an,be,bb,am⟩:=un am;exact Cd hS (fc an F) (n,x26+1,au++[(gD,x29,T1,aw,x32,x33)],av+1+1+1+1+1) am
  ·exact B4 hS F (au,av+1) am
 ·rintro⟨l41,bg⟩ rfl;exact Ai hS F h
theorem PCall.wk'{P:Program}{f:Nat}{args:List AV}{r r':AV}(h:PCall P f args r)(hw:Wk r r')(hp:B2 r'=true):PCall P f args r':=λU vs a b c d=>(h U vs a b c d).mono λ_ _ ⟨v,e1,e2,e3,_,e5⟩=>⟨v,e1,e2,e3,hp,hw _ _ e5⟩
theorem Uw{a b c d e x:AV}:Wk (.tup [.agg [a,b,c,d,e],x]) (.tup [.agg [.un,.un,.un,.un,.un],x]):=by intro U v h;simp only[Rep,RepL]at h⊢;obtain⟨xs,e1,y,ys,e2,⟨zs,f1,f2,_,_,rfl,_,_,_,rfl,_,_,_,rfl,_,_,_,rfl,_,_,_,rfl,_,rfl⟩,e4⟩:=h;exact⟨xs,e1,y,ys,e2,⟨_,f1,f2,_,_,rfl,trivial,_,_,rfl,trivial,_,_,rfl,trivial,_,_,rfl,trivial,_,_,rfl,trivial,rfl⟩,e4⟩
def Lq(N:Nat)(a3:Int)(a4:Int)(a5:Int)(a6:Int)(a7:List (Int×Int))(a8:Int)(a9:Int)(ak:Int)(aj:Int)(ai:Int)(ah:Int)(af:Int)(ae:Int)(ab:Int)(aa:Bool):Option Bool:=if a3=1 then Fj N a4 a5 a6 a7 a8 a9 ak aj ai ah af ae ab aa else if a3=2 then Fk N a4 a5 a6 a7 a8 a9 ak aj ai ah af ae ab aa else if a3=3 then Fl N a4 a5 a6 a7 a8 a9 ak aj ai ah af ae ab aa else if a3=4 then Fm N a4 a5 a6 a7 a8 a9 ak aj ai ah af ae ab aa else if a3=5 then Fo N a4 a5 a6 a7 a8 a9 ak aj ai ah af ae ab aa else if a3=6 then Fp N a4 a5 a6 a7 a8 a9 ak aj ai ah af ae ab aa else if a3=7 then Fq N a4 a5 a6 a7 a8 a9 ak aj ai ah af ae ab aa else Fr N a3 a4 a5 a6 a7 a8 a9 ak aj ai ah af ae ab aa
@[go_sem] def s64(N:Nat):Spec:=p0<|pG<|pI λa3=>pI λa4=>pI λa5=>pI λa6=>pS Aq λa7=>pI λa8=>pI λa9=>pI λak=>pI λaj=>pI λai=>pI λah=>pI λaf=>pI λae=>pI λab=>pB λaa=>pE<|pE<|pF (Lq N a3 a4 a5 a6 a7 a8 a9 ak aj ai ah af ae ab aa) false λr=>.tup [.agg [.un,.un,.un,.un,.un],.b r]
theorem AcM(N:Nat):AG Tryz.prog 64 (s64 N):=by
 refine Ar x64.ok<|Aw<|Aa λa3=>Aa λa4=>Aa λa5=>Aa λa6=>AF λa7=>Aa λa8=>Aa λa9=>Aa λak=>Aa λaj=>Aa λai=>Aa λah=>Aa λaf=>Aa λae=>Aa λab=>AX λaa=>Ad<|Ad<|As λr h=>?_
 dsimp only[Aq];unfold Lq at h;split at h
 ·rename_i e;subst e;exact(Bv (Nk N) (by simp only[go_sem,seval,h]<;>eq_refl) (by simp only[go_sem,seval,h])).wk' Uw rfl
 split at h
 ·rename_i e;subst e;exact(Bv (Nl N) (by simp only[go_sem,seval,h]<;>eq_refl) (by simp only[go_sem,seval,h])).wk' Uw rfl
 split at h
 ·rename_i e;subst e;exact(Bv (Nn N) (by simp only[go_sem,seval,h]<;>eq_refl) (by simp only[go_sem,seval,h])).wk' Uw rfl
 split at h
 ·rename_i e;subst e;exact(Bv (No N) (by simp only[go_sem,seval,h]<;>eq_refl) (by simp only[go_sem,seval,h])).wk' Uw rfl
 split at h
 ·rename_i e;subst e;exact(Bv (Np N) (by simp only[go_sem,seval,h]<;>eq_refl) (by simp only[go_sem,seval,h])).wk' Uw rfl
 split at h
 ·rename_i e;subst e;exact(Bv (Nq N) (by simp only[go_sem,seval,h]<;>eq_refl) (by simp only[go_sem,seval,h])).wk' Uw rfl
 split at h
 ·rename_i e;subst e;exact(Bv (Nr N) (by simp only[go_sem,seval,h]<;>eq_refl) (by simp only[go_sem,seval,h])).wk' Uw rfl
 exact(Bv (Ns N) (by simp only[go_sem,seval,h]<;>eq_refl) (by simp only[go_sem,seval,h])).wk' Uw rfl
end
section
attribute [local irreducible] Ax BO BB Bj BC Bk AY BD BK Cq
def JX(N:Nat)(a2:Int)(a3:Int)(a4:Int)(a5:List (Int×Int))(a6:Int)(a7:Int)(a8:Int)(a9:Int)(jb:Int)(ja:Int)(i9:Int)(i8:Int)(i7:Int)(i6:Bool):Option ((List Int)×(List Int)):=(Fj N a2 a3 a4 a5 a6 a7 a8 a9 jb ja i9 i8 i7 i6).bind λjz=>bif !jz then(some ([],[]))else((Kt N 1 a2 a3 a4 a5 a6 a7 a8 a9 jb ja i9 i8 i7 i6).bind λ(ju,jt)=>some (ju,jt))
@[go_sem] def Aa1(N:Nat):Spec:=p0<|pG<|pC 1<|pI λa2=>pI λa3=>pI λa4=>pS Aq λa5=>pI λa6=>pI λa7=>pI λa8=>pI λa9=>pI λjb=>pI λja=>pI λi9=>pI λi8=>pI λi7=>pB λi6=>pE<|pE<|pF (JX N a2 a3 a4 a5 a6 a7 a8 a9 jb ja i9 i8 i7 i6) ([],[]) λr=>.tup [FW r.1,FW r.2]
theorem lX(N:Nat):AG Tryz.prog 27 (Aa1 N):=by
 refine Ar x27.ok<|Aw<|Dn<|Aa λa2=>Aa λa3=>Aa λa4=>AF λa5=>Aa λa6=>Aa λa7=>Aa λa8=>Aa λa9=>Aa λjb=>Aa λja=>Aa λi9=>Aa λi8=>Aa λi7=>AX λi6=>Ad<|Ad<|As λr h=>wx x27 (BG (Ab (Nk N)<|Ab (zC N)<|Aj) DX (CP N) DY DZ) λ_ hS F=>?_
 dsimp only[x27,Ah,Aq];unfold JX at h;obtain⟨jz,jl,h⟩:=un h;replace F:=fc jl F;refine An hS F h (λ_ h=>?_) (λ_ h=>?_)
 ·exact Ai hS F h
 ·obtain⟨⟨ju,jt⟩,jk,h⟩:=un h;exact Ai hS (fc jk F) h
def JY(N:Nat)(i5:Int)(iz:Int)(iy:Int)(iw:List (Int×Int))(iv:Int)(ir:Int)(iq:Int)(ip:Int)(im:Int)(il:Int)(ij:Int)(ii:Int)(ig:Int)(ie:Bool):Option ((List Int)×(List Int)):=(Fk N i5 iz iy iw iv ir iq ip im il ij ii ig ie).bind λjy=>bif !jy then(some ([],[]))else((Kv N 2 i5 iz iy iw iv ir iq ip im il ij ii ig ie).bind λ(js,jr)=>some (js,jr))
@[go_sem] def Aa2(N:Nat):Spec:=p0<|pG<|pC 2<|pI λi5=>pI λiz=>pI λiy=>pS Aq λiw=>pI λiv=>pI λir=>pI λiq=>pI λip=>pI λim=>pI λil=>pI λij=>pI λii=>pI λig=>pB λie=>pE<|pE<|pF (JY N i5 iz iy iw iv ir iq ip im il ij ii ig ie) ([],[]) λr=>.tup [FW r.1,FW r.2]
theorem lY(N:Nat):AG Tryz.prog 27 (Aa2 N):=by
 refine Ar x27.ok<|Aw<|Dn<|Aa λi5=>Aa λiz=>Aa λiy=>AF λiw=>Aa λiv=>Aa λir=>Aa λiq=>Aa λip=>Aa λim=>Aa λil=>Aa λij=>Aa λii=>Aa λig=>AX λie=>Ad<|Ad<|As λr h=>wx x27 (BG (Ab (Nl N)<|Ab (zE N)<|Aj) DX (CP N) DY DZ) λ_ hS F=>?_
 dsimp only[x27,Ah,Aq];unfold JY at h;obtain⟨jy,jj,h⟩:=un h;replace F:=fc jj F;refine An hS F h (λ_ h=>?_) (λ_ h=>?_)
 ·exact Ai hS F h
 ·obtain⟨⟨js,jr⟩,ji,h⟩:=un h;exact Ai hS (fc ji F) h
def JZ(N:Nat)(ic:Int)(ib:Int)(g9:Int)(g8:List (Int×Int))(gz:Int)(gy:Int)(gx:Int)(gw:Int)(gv:Int)(gu:Int)(gt:Int)(gr:Int)(gm:Int)(gj:Bool):Option ((List Int)×(List Int)):=(Fl N ic ib g9 g8 gz gy gx gw gv gu gt gr gm gj).bind λjx=>bif !jx then(some ([],[]))else((JQ N 3 ic ib g9 g8 gz gy gx gw gv gu gt gr gm gj).bind λ(jq,r59)=>some (jq,r59))
@[go_sem] def Aa3(N:Nat):Spec:=p0<|pG<|pC 3<|pI λic=>pI λib=>pI λg9=>pS Aq λg8=>pI λgz=>pI λgy=>pI λgx=>pI λgw=>pI λgv=>pI λgu=>pI λgt=>pI λgr=>pI λgm=>pB λgj=>pE<|pE<|pF (JZ N ic ib g9 g8 gz gy gx gw gv gu gt gr gm gj) ([],[]) λr=>.tup [FW r.1,FW r.2]
theorem lZ(N:Nat):AG Tryz.prog 27 (Aa3 N):=by
 refine Ar x27.ok<|Aw<|Dn<|Aa λic=>Aa λib=>Aa λg9=>AF λg8=>Aa λgz=>Aa λgy=>Aa λgx=>Aa λgw=>Aa λgv=>Aa λgu=>Aa λgt=>Aa λgr=>Aa λgm=>AX λgj=>Ad<|Ad<|As λr h=>wx x27 (BG (Ab (Nn N)<|Ab (zG N)<|Aj) DX (CP N) DY DZ) λ_ hS F=>?_
 dsimp only[x27,Ah,Aq];unfold JZ at h;obtain⟨jx,jh,h⟩:=un h;replace F:=fc jh F;refine An hS F h (λ_ h=>?_) (λ_ h=>?_)
 ·exact Ai hS F h
 ·obtain⟨⟨jq,r59⟩,jg,h⟩:=un h;exact Ai hS (fc jg F) h
def J0(N:Nat)(gi:Int)(gh:Int)(gg:Int)(gc:List (Int×Int))(fr:Int)(fq:Int)(fp:Int)(fo:Int)(fm:Int)(fj:Int)(fh:Int)(fg:Int)(e9:Int)(e8:Bool):Option ((List Int)×(List Int)):=(Fm N gi gh gg gc fr fq fp fo fm fj fh fg e9 e8).bind λjw=>bif !jw then(some ([],[]))else((JS N 4 gi gh gg gc fr fq fp fo fm fj fh fg e9 e8).bind λ(jp,jo)=>some (jp,jo))
@[go_sem] def Aa4(N:Nat):Spec:=p0<|pG<|pC 4<|pI λgi=>pI λgh=>pI λgg=>pS Aq λgc=>pI λfr=>pI λfq=>pI λfp=>pI λfo=>pI λfm=>pI λfj=>pI λfh=>pI λfg=>pI λe9=>pB λe8=>pE<|pE<|pF (J0 N gi gh gg gc fr fq fp fo fm fj fh fg e9 e8) ([],[]) λr=>.tup [FW r.1,FW r.2]
theorem mA(N:Nat):AG Tryz.prog 27 (Aa4 N):=by
 refine Ar x27.ok<|Aw<|Dn<|Aa λgi=>Aa λgh=>Aa λgg=>AF λgc=>Aa λfr=>Aa λfq=>Aa λfp=>Aa λfo=>Aa λfm=>Aa λfj=>Aa λfh=>Aa λfg=>Aa λe9=>AX λe8=>Ad<|Ad<|As λr h=>wx x27 (BG (Ab (No N)<|Ab (zI N)<|Aj) DX (CP N) DY DZ) λ_ hS F=>?_
 dsimp only[x27,Ah,Aq];unfold J0 at h;obtain⟨jw,jf,h⟩:=un h;replace F:=fc jf F;refine An hS F h (λ_ h=>?_) (λ_ h=>?_)
 ·exact Ai hS F h
 ·obtain⟨⟨jp,jo⟩,je,h⟩:=un h;exact Ai hS (fc je F) h
def J1(N:Nat)(eu:Int)(ej:Int)(ei:Int)(eh:List (Int×Int))(ee:Int)(d9:Int)(d8:Int)(d7:Int)(dz:Int)(dw:Int)(du:Int)(dt:Int)(dq:Int)(dp:Bool):Option ((List Int)×(List Int)):=(Fo N eu ej ei eh ee d9 d8 d7 dz dw du dt dq dp).bind λjv=>bif !jv then(some ([],[]))else((Kx N 5 eu ej ei eh ee d9 d8 d7 dz dw du dt dq dp).bind λ(jn,jm)=>some (jn,jm))
@[go_sem] def Aa5(N:Nat):Spec:=p0<|pG<|pC 5<|pI λeu=>pI λej=>pI λei=>pS Aq λeh=>pI λee=>pI λd9=>pI λd8=>pI λd7=>pI λdz=>pI λdw=>pI λdu=>pI λdt=>pI λdq=>pB λdp=>pE<|pE<|pF (J1 N eu ej ei eh ee d9 d8 d7 dz dw du dt dq dp) ([],[]) λr=>.tup [FW r.1,FW r.2]
theorem mB(N:Nat):AG Tryz.prog 27 (Aa5 N):=by
 refine Ar x27.ok<|Aw<|Dn<|Aa λeu=>Aa λej=>Aa λei=>AF λeh=>Aa λee=>Aa λd9=>Aa λd8=>Aa λd7=>Aa λdz=>Aa λdw=>Aa λdu=>Aa λdt=>Aa λdq=>AX λdp=>Ad<|Ad<|As λr h=>wx x27 (BG (Ab (Np N)<|Ab (zK N)<|Aj) DX (CP N) DY DZ) λ_ hS F=>?_
 dsimp only[x27,Ah,Aq];unfold J1 at h;obtain⟨jv,jd,h⟩:=un h;replace F:=fc jd F;refine An hS F h (λ_ h=>?_) (λ_ h=>?_)
 ·exact Ai hS F h
 ·obtain⟨⟨jn,jm⟩,jc,h⟩:=un h;exact Ai hS (fc jc F) h
def J2(N:Nat)(bo:Int)(bn:Int)(bm:Int)(bl:List (Int×Int))(bj:Int)(bi:Int)(bh:Int)(bg:Int)(bf:Int)(be:Int)(bb:Int)(ba:Int)(az:Int)(ay:Bool):Option ((List Int)×(List Int)):=(Fp N bo bn bm bl bj bi bh bg bf be bb ba az ay).bind λda=>bif !da then(some ([],[]))else((HJ N 6 bo bn bm bl bj bi bh bg bf be bb ba az ay).bind λ(cu,cr)=>some (cu,cr))
@[go_sem] def Aa6(N:Nat):Spec:=p0<|pG<|pC 6<|pI λbo=>pI λbn=>pI λbm=>pS Aq λbl=>pI λbj=>pI λbi=>pI λbh=>pI λbg=>pI λbf=>pI λbe=>pI λbb=>pI λba=>pI λaz=>pB λay=>pE<|pE<|pF (J2 N bo bn bm bl bj bi bh bg bf be bb ba az ay) ([],[]) λr=>.tup [FW r.1,FW r.2]
theorem mC(N:Nat):AG Tryz.prog 27 (Aa6 N):=by
 refine Ar x27.ok<|Aw<|Dn<|Aa λbo=>Aa λbn=>Aa λbm=>AF λbl=>Aa λbj=>Aa λbi=>Aa λbh=>Aa λbg=>Aa λbf=>Aa λbe=>Aa λbb=>Aa λba=>Aa λaz=>AX λay=>Ad<|Ad<|As λr h=>wx x27 (BG (Ab (Nq N)<|Ab (dD N)<|Aj) DX (CP N) DY DZ) λ_ hS F=>?_
 dsimp only[x27,Ah,Aq];unfold J2 at h;obtain⟨da,dm,h⟩:=un h;replace F:=fc dm F;refine An hS F h (λ_ h=>?_) (λ_ h=>?_)
 ·exact Ai hS F h
 ·obtain⟨⟨cu,cr⟩,dl,h⟩:=un h;exact Ai hS (fc dl F) h
def J3(N:Nat)(aw:Int)(av:Int)(au:Int)(aq:List (Int×Int))(an:Int)(am:Int)(ak:Int)(aj:Int)(ai:Int)(ah:Int)(af:Int)(ae:Int)(ab:Int)(aa:Bool):Option ((List Int)×(List Int)):=(Fq N aw av au aq an am ak aj ai ah af ae ab aa).bind λcz=>bif !cz then(some ([],[]))else((HJ N 7 aw av au aq an am ak aj ai ah af ae ab aa).bind λ(cq,co)=>some (cq,co))
@[go_sem] def Aa7(N:Nat):Spec:=p0<|pG<|pC 7<|pI λaw=>pI λav=>pI λau=>pS Aq λaq=>pI λan=>pI λam=>pI λak=>pI λaj=>pI λai=>pI λah=>pI λaf=>pI λae=>pI λab=>pB λaa=>pE<|pE<|pF (J3 N aw av au aq an am ak aj ai ah af ae ab aa) ([],[]) λr=>.tup [FW r.1,FW r.2]
theorem mD(N:Nat):AG Tryz.prog 27 (Aa7 N):=by
 refine Ar x27.ok<|Aw<|Dn<|Aa λaw=>Aa λav=>Aa λau=>AF λaq=>Aa λan=>Aa λam=>Aa λak=>Aa λaj=>Aa λai=>Aa λah=>Aa λaf=>Aa λae=>Aa λab=>AX λaa=>Ad<|Ad<|As λr h=>wx x27 (BG (Ab (Nr N)<|Ab (dD N)<|Aj) DX (CP N) DY DZ) λ_ hS F=>?_
 dsimp only[x27,Ah,Aq];unfold J3 at h;obtain⟨cz,dh,h⟩:=un h;replace F:=fc dh F;refine An hS F h (λ_ h=>?_) (λ_ h=>?_)
 ·exact Ai hS F h
 ·obtain⟨⟨cq,co⟩,dg,h⟩:=un h;exact Ai hS (fc dg F) h
def J4(N:Nat)(cn:Int)(cm:Int)(ck:Int)(cj:Int)(ci:List (Int×Int))(ce:Int)(b9:Int)(b7:Int)(bz:Int)(bw:Int)(bv:Int)(bu:Int)(br:Int)(bq:Int)(bp:Bool):Option ((List Int)×(List Int)):=(Fr N cn cm ck cj ci ce b9 b7 bz bw bv bu br bq bp).bind λcy=>gd (cy=false)<|some ([],[])
@[go_sem] def Aa8(N:Nat):Spec:=p0<|pG<|pI λcn=>pI λcm=>pI λck=>pI λcj=>pS Aq λci=>pI λce=>pI λb9=>pI λb7=>pI λbz=>pI λbw=>pI λbv=>pI λbu=>pI λbr=>pI λbq=>pB λbp=>pE<|pE<|pF (J4 N cn cm ck cj ci ce b9 b7 bz bw bv bu br bq bp) ([],[]) λr=>.tup [FW r.1,FW r.2]
theorem mF(N:Nat):AG Tryz.prog 27 (Aa8 N):=by
 refine Ar x27.ok<|Aw<|Aa λcn=>Aa λcm=>Aa λck=>Aa λcj=>AF λci=>Aa λce=>Aa λb9=>Aa λb7=>Aa λbz=>Aa λbw=>Aa λbv=>Aa λbu=>Aa λbr=>Aa λbq=>AX λbp=>Ad<|Ad<|As λr h=>wx x27 (BG (Ab (Ns N)<|Aj) DX (CP N) DY DZ) λ_ hS F=>?_
 dsimp only[x27,Ah,Aq];unfold J4 at h;obtain⟨cy,db,j4,h⟩:=un h;replace F:=fc j4 (fc db F);refine Om hS F ?_;exact Ai hS F h
end
attribute [local irreducible] Ax BO BB Bj BC Bk AY BD BK Cq
def BF(N:Nat)(a1:Int)(a2:Int)(a3:Int)(a4:Int)(a5:List (Int×Int))(a6:Int)(a7:Int)(a8:Int)(a9:Int)(bg:Int)(bf:Int)(be:Int)(bb:Int)(ba:Int)(az:Bool):Option Bool:=(Lq N a1 a2 a3 a4 a5 a6 a7 a8 a9 bg bf be bb ba az).bind λbp=>some bp
@[go_sem] def s31(N:Nat):Spec:=p0<|pG<|pI λa1=>pI λa2=>pI λa3=>pI λa4=>pS Aq λa5=>pI λa6=>pI λa7=>pI λa8=>pI λa9=>pI λbg=>pI λbf=>pI λbe=>pI λbb=>pI λba=>pB λaz=>pE<|pE<|pF (BF N a1 a2 a3 a4 a5 a6 a7 a8 a9 bg bf be bb ba az) false λr=>.b r
theorem pX(N:Nat):AG Tryz.prog 31 (s31 N):=by
 refine Ar x31.ok<|Aw<|Aa λa1=>Aa λa2=>Aa λa3=>Aa λa4=>AF λa5=>Aa λa6=>Aa λa7=>Aa λa8=>Aa λa9=>Aa λbg=>Aa λbf=>Aa λbe=>Aa λbb=>Aa λba=>AX λaz=>Ad<|Ad<|As λr h=>wx x31 (Ab (AcM N)<|Aj) λ_ hS F=>?_
 dsimp only[x31,Ah,Aq];unfold BF at h;obtain⟨bp,bj,h⟩:=un h;exact Ai hS (fc bj F) h
def CZ(N:Nat)(Ww:List (Int×Int×Int×(List (Int×Int))×Int×Int))(Ws:List (Int×Int×Int×Int×Bool))(ay:Int)(aw:Int)(av:Int)(au:Int)(aq:List (Int×Int))(an:Int)(am:Int)(ak:Int)(aj:Int)(ai:Int)(ah:Int)(af:Int)(ae:Int)(ab:Int)(aa:Bool):Option (((List (Int×Int×Int×(List (Int×Int))×Int×Int))×(List (Int×Int×Int×Int×Bool)))×Int):=(Dw N Ww Ws).bind λbo=>bif !bo then(some (([],[]),170))else((JW N Ww Ws ay aw av au aq an am ak aj ai ah af ae ab aa).bind λ((bn,bm),bl)=>some ((bn,bm),bl))
@[go_sem] def s22(N:Nat):Spec:=p0<|pG<|pD Ak λWw=>pD AA λWs=>pE<|pG<|pI λay=>pI λaw=>pI λav=>pI λau=>pD Aq λaq=>pI λan=>pI λam=>pI λak=>pI λaj=>pI λai=>pI λah=>pI λaf=>pI λae=>pI λab=>pB λaa=>pE<|pE<|pF (CZ N Ww Ws ay aw av au aq an am ak aj ai ah af ae ab aa) (([],[]),0) λr=>.tup [.agg [Ap r.1.1,AS r.1.2],.i r.2]
theorem MW(N:Nat):AG Tryz.prog 22 (s22 N):=by
 refine Ar x22.ok<|Aw<|AM λWw=>AM λWs=>Ad<|Aw<|Aa λay=>Aa λaw=>Aa λav=>Aa λau=>AM λaq=>Aa λan=>Aa λam=>Aa λak=>Aa λaj=>Aa λai=>Aa λah=>Aa λaf=>Aa λae=>Aa λab=>AX λaa=>Ad<|Ad<|As λr h=>wx x22 (Ab (ZG N)<|Ab (pW N)<|Aj) λ_ hS F=>?_
 dsimp only[x22,Ah,Aq,AA,Ak];unfold CZ at h;obtain⟨bo,bi,h⟩:=un h;replace F:=fc bi F;refine An hS F h (λ_ h=>?_) (λ_ h=>?_)
 ·exact Ai hS F h
 ·obtain⟨⟨⟨bn,bm⟩,bl⟩,bh,h⟩:=un h;exact Ai hS (fc bh F) h
