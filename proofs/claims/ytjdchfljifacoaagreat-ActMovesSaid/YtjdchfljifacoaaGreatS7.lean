import Derived.Test.YtjdchfljifacoaaGreatS1
set_option linter.all false
set_option maxRecDepth 100000
set_option maxHeartbeats 8000000
namespace Go.Proofs.YtjdchfljifacoaaGreat.Am
open Go
section
attribute [local irreducible] Ax BO BB Bj BC Bk AY BD BK Cq
attribute [local irreducible] E3
attribute [local go_sem] kF Nj JT JU qU yU oI qv K2 List.map_replicate List.map_set
def D8(N:Nat)(ae:Int):Nat->Int->Int->(List (Int×Int×Int×Int×Bool))->Option (Int×(List (Int×Int×Int×Int×Bool)))|0,_,_,_=>none|n+1,i53,af,l55=>bif decide (af<(l55.length:Int))then((A7 l55 af).bind λ(x56,x57,x58,x59,x60)=>(CF N x56 x57 x58 x59 x60 ae).bind λbq=>bif !bq then((A7 l55 i53).bind λ(x70,x71,x72,x73,x74)=>gd (Af (i53+1))<|gd (Af (af+1))<|D8 N ae n (i53+1) (af+1) (l55.set i53.toNat (x56,x57,x58,x59,x60)))else(gd (Af (af+1))<|D8 N ae n i53 (af+1) l55))else(some (i53,l55))
def IV(N:Nat)(ab:List (Int×Int×Int×(List (Int×Int))×Int×Int))(from2:List (Int×Int×Int×Int×Bool))(a4:Int)(a5:Int)(a6:Int)(a7:List (Int×Int))(a8:Int)(a9:Int)(ae:Int)(aq:Int)(an:Int)(am:Int)(ak:Int)(aj:Int)(ai:Int)(ah:Bool):Option (((List (Int×Int×Int×(List (Int×Int))×Int×Int))×(List (Int×Int×Int×Int×Bool)))×Int):=(Fk N a4 a5 a6 a7 a8 a9 ae aq an am ak aj ai ah).bind λbu=>bif !bu then(some (([],[]),170))else((Ge N ab).bind λbo=>gd (from2.length*40<=140737488355328)<|(FY N bo ae).bind λ(av,br)=>bif !(decide (br=0))then(some (([],[]),170))else((Bt N from2 ae).bind λau=>bif decide (au=(-1))then((CV N av from2).bind λr27=>bif !r27 then(some (([],[]),170))else((Ge N av).bind λbn=>gd (from2.length*40<=140737488355328)<|some ((bn,from2),0)))else(gd (Af (au+1))<|(D8 N ae N au (au+1) from2).bind λ(i81,l82)=>gd (0<=i81/\i81<=(l82.length:Int))<|gd (0<=0/\0<=i81/\i81<=((l82.take i81.toNat++(List.replicate (l82.length-i81.toNat) (0,0,0,0,false):List (Int×Int×Int×Int×Bool))).length:Int))<|(CV N av (l82.take i81.toNat)).bind λbp=>bif !bp then(some (([],[]),170))else((Ge N av).bind λbm=>gd ((l82.take i81.toNat).length*40<=140737488355328)<|some ((bm,l82.take i81.toNat),0)))))
@[go_sem] def AaM(N:Nat):Spec:=p0<|pG<|pD Ak λab=>pD AA λfrom2=>pE<|pG<|pC 2<|pI λa4=>pI λa5=>pI λa6=>pD Aq λa7=>pI λa8=>pI λa9=>pI λae=>pI λaq=>pI λan=>pI λam=>pI λak=>pI λaj=>pI λai=>pB λah=>pE<|pE<|pF (IV N ab from2 a4 a5 a6 a7 a8 a9 ae aq an am ak aj ai ah) (([],[]),0) λr=>.tup [.agg [Ap r.1.1,AS r.1.2],.i r.2]
theorem lG(N:Nat):AG Tryz.prog 57 (AaM N):=by
 refine Ar x57.ok<|Aw<|AM λab=>AM λfrom2=>Ad<|Aw<|Dn<|Aa λa4=>Aa λa5=>Aa λa6=>AM λa7=>Aa λa8=>Aa λa9=>Aa λae=>Aa λaq=>Aa λan=>Aa λam=>Aa λak=>Aa λaj=>Aa λai=>AX λah=>Ad<|Ad<|As λr h=>SI x57 (BG (Ab (Nl N)<|Ab (Wn N)<|Ab (Rh N)<|Ab (NY N)<|Ab (Wu N)<|Aj) (L3 N) (CP N) H3 (H2 N)) λhb hS F=>?_
 dsimp only[x57,Ah,Aq,AA,Ak];have hOK:=Ctx.fd_ok (nt:=38) (hb:=hb) hS;unfold IV at h;obtain⟨bu,bh,h⟩:=un h;replace F:=fc bh F;refine An hS F h (λ_ h=>?_) (λ_ h=>?_)
 ·exact Ug hS F h
 ·refine go hS F ?_;refine JH hS 1 rfl rfl (ev F) yT (ev F) (ev F) ?_;obtain⟨bo,bg,cr,h⟩:=un h;replace F:=fc bg F;refine go hS F ?_;refine BN hS 4 x142.hf x142.hc x142.hn x142.ok rfl (ev F) (ev F) ?_ rfl (ev F) (qZ rfl) λhb=>?_
  ·exact Bl hS F
  dsimp only[x142,Ah];refine go hS F ?_;refine AZ hS 3 x143.hf x143.hc x143.hn x143.ok rfl (ev F) (ev F) ?_ rfl (ev F) (qZ rfl) λhb=>?_
  ·exact Bl hS F
  dsimp only[x143,Ah];obtain⟨⟨av,br⟩,bf,h⟩:=un h;replace F:=fc bf F;refine go hS F ?_;refine AZ hS 2 x77.hf x77.hc x77.hn x77.ok rfl (ev F) (ev F) ?_ rfl (ev F) (qZ rfl) λhb=>?_
  ·exact Bl hS F
  dsimp only[x77,Ah];refine An hS F h (λ_ h=>?_) (λ_ h=>?_)
  ·refine go hS F ?_;refine Bf (Ctx.fn_ok hS) 2 rfl rfl (ev F) (ev F) (ev F) ?_
   repeat' (first|with_reducible (first|apply A8|apply A9|apply Bh|apply AR|apply Bx)|((with_reducible apply A4);(·simp)))
   exact IQ hS F h
  ·refine go hS F ?_;refine AZ hS 3 x144.hf x144.hc x144.hn x144.ok rfl (ev F) (ev F) ?_ rfl (ev F) (qZ rfl) λhb=>?_
   ·exact Bl hS F
   dsimp only[x144,Ah];refine go hS F ?_;refine AZ hS 7 x189.hf x189.hc x189.hn x189.ok rfl (ev F) (ev F) ?_ rfl (ev F) (qZ rfl) λhb=>?_
   ·exact Bl hS F
   dsimp only[x189,Ah];obtain⟨au,be,h⟩:=un h;replace F:=fc be F;refine An hS F h (λ_ h=>?_) (λ_ h=>?_)
   ·obtain⟨r27,bb,h⟩:=un h;replace F:=fc bb F;refine go hS F ?_;refine BN hS 5 x77.hf x77.hc x77.hn x77.ok rfl (ev F) (ev F) ?_ rfl (ev F) (qZ rfl) λhb=>?_
    ·exact Bl hS F
    dsimp only[x77,Ah];refine An hS F h (λ_ h=>?_) (λ_ h=>?_)
    ·refine go hS F ?_;refine Bf (Ctx.fn_ok hS) 2 rfl rfl (ev F) (ev F) (ev F) ?_
     repeat' (first|with_reducible (first|apply A8|apply A9|apply Bh|apply AR|apply Bx)|((with_reducible apply A4);(·simp)))
     exact IQ hS F h
    ·obtain⟨bn,ba,cq,h⟩:=un h;exact SJ hS (fc ba F) h
   ·obtain⟨co,h⟩:=un h;obtain⟨bv,ci,h⟩:=un h;refine go hS F ?_;refine Bz bv (λz:Int×(List (Int×Int×Int×Int×Bool))×Nat=>⟨[(0,.own (501,5) z.2.1.length),(5,.i z.1)],[(.c (0,16) 0,.i ae),(.a (501,5),EH z.2.1),(.c (503,5) 0,Ap av),(.c (503,5) 1,.own (501,5) z.2.1.length),(.c (0,7) 0,.i 2),(.c (0,7) 1,.i a4),(.c (0,7) 2,.i a5),(.c (0,7) 3,.i a6),(.c (0,7) 4,BP a7),(.c (0,7) 5,.i a8),(.c (0,7) 6,.i a9),(.c (0,7) 7,.i ae),(.c (0,7) 8,.i aq),(.c (0,7) 9,.i an),(.c (0,7) 10,.i am),(.c (0,7) 11,.i ak),(.c (0,7) 12,.i aj),(.c (0,7) 13,.i ai),(.c (0,7) 14,.b ah),(.c (105,2) 0,.clo (.func 139) [] []),(.c (105,2) 1,.clo (.func 141) [] []),(.c (105,2) 2,.clo (.func 142) [] []),(.c (105,2) 3,.clo (.func 145) [] []),(.c (105,2) 4,.clo (.func 149) [] []),(.c (3,1) 0,.i 0),(.c (2,1) 0,.sl 0 true [] []),(.c (2,1) 1,.sl 0 true [] []),(.c (1,1) 0,.i 2),(.c (1,1) 1,.i a4),(.c (1,1) 2,.i a5),(.c (1,1) 3,.i a6),(.c (1,1) 4,BP a7),(.c (1,1) 5,.i a8),(.c (1,1) 6,.i a9),(.c (1,1) 7,.i ae),(.c (1,1) 8,.i aq),(.c (1,1) 9,.i an),(.c (1,1) 10,.i am),(.c (1,1) 11,.i ak),(.c (1,1) 12,.i aj),(.c (1,1) 13,.i ai),(.c (1,1) 14,.b ah),(.c (0,1) 0,Ap ab),(.c (0,1) 1,AS from2)],z.2.2⟩) (λz=>((z.1,z.2.1):Int×(List (Int×Int×Int×Int×Bool)))) (.x 0) ?_ ?_
    ·refine Bp (λn (y:Int×Int×(List (Int×Int×Int×Int×Bool))×Nat)=>D8 N ae n y.1 y.2.1 y.2.2.1) (λy=>⟨[(0,.own (501,5) y.2.2.1.length),(1,.clo (.func 190) [] [.box (0,16) 0]),(5,.i y.1),(6,.i y.2.1)],[(.c (0,16) 0,.i ae),(.a (501,5),EH y.2.2.1),(.c (503,5) 0,Ap av),(.c (503,5) 1,.own (501,5) y.2.2.1.length),(.c (0,7) 0,.i 2),(.c (0,7) 1,.i a4),(.c (0,7) 2,.i a5),(.c (0,7) 3,.i a6),(.c (0,7) 4,BP a7),(.c (0,7) 5,.i a8),(.c (0,7) 6,.i a9),(.c (0,7) 7,.i ae),(.c (0,7) 8,.i aq),(.c (0,7) 9,.i an),(.c (0,7) 10,.i am),(.c (0,7) 11,.i ak),(.c (0,7) 12,.i aj),(.c (0,7) 13,.i ai),(.c (0,7) 14,.b ah),(.c (105,2) 0,.clo (.func 139) [] []),(.c (105,2) 1,.clo (.func 141) [] []),(.c (105,2) 2,.clo (.func 142) [] []),(.c (105,2) 3,.clo (.func 145) [] []),(.c (105,2) 4,.clo (.func 149) [] []),(.c (3,1) 0,.i 0),(.c (2,1) 0,.sl 0 true [] []),(.c (2,1) 1,.sl 0 true [] []),(.c (1,1) 0,.i 2),(.c (1,1) 1,.i a4),(.c (1,1) 2,.i a5),(.c (1,1) 3,.i a6),(.c (1,1) 4,BP a7),(.c (1,1) 5,.i a8),(.c (1,1) 6,.i a9),(.c (1,1) 7,.i ae),(.c (1,1) 8,.i aq),(.c (1,1) 9,.i an),(.c (1,1) 10,.i am),(.c (1,1) 11,.i ak),(.c (1,1) 12,.i aj),(.c (1,1) 13,.i ai),(.c (1,1) 14,.b ah),(.c (0,1) 0,Ap ab),(.c (0,1) 1,AS from2)],y.2.2.2⟩) (au,au+1,from2,21) ci (Ch F) ?_;rintro n ⟨i53,af,l55,bl⟩ aa;simp only[D8]at aa;refine An hS F aa (λ_ aa=>?_) (λ_ aa=>?_)
     ·obtain⟨⟨x56,x57,x58,x59,x60⟩,bj,aa⟩:=un aa;obtain⟨ce,F⟩:=Cb BZ bj F;obtain⟨bq,az,aa⟩:=un aa;replace F:=fc az F;refine An hS F aa (λ_ aa=>?_) (λ_ aa=>?_)
      ·obtain⟨⟨x70,x71,x72,x73,x74⟩,bi,aa⟩:=un aa;obtain⟨b9,F⟩:=Cb BZ bi F;obtain⟨cn,ck,aa⟩:=un aa;exact Cd hS F (n,i53+1,af+1,l55.set i53.toNat (x56,x57,x58,x59,x60),bl+1+1+1+1+1+1) aa
      ·obtain⟨cj,aa⟩:=un aa;exact Cd hS F (n,i53,af+1,l55,bl+1+1+1+1) aa
     ·exact B4 hS F (i53,l55,bl+1) aa
    ·rintro⟨i81,l82,cu⟩ rfl;obtain⟨bw,h⟩:=un h;refine go hS F ?_;refine Wl (Ctx.fn_ok hS) 2 rfl rfl rfl (ev F) (ev F) (ev F) (ev F) (ev F) (ev F) (by simp only[rC];omega) rfl rfl ?_;replace F:=fc (Wv BZ bw) F;obtain⟨b7,bp,ay,h⟩:=un h;replace F:=fc ay F;refine go hS F ?_;refine BN hS 5 x77.hf x77.hc x77.hn x77.ok rfl (ev F) (ev F) ?_ rfl (ev F) (qZ rfl) λhb=>?_
     ·exact Bl hS F
     dsimp only[x77,Ah];refine An hS F h (λ_ h=>?_) (λ_ h=>?_)
     ·refine go hS F ?_;refine Bf (Ctx.fn_ok hS) 2 rfl rfl (ev F) (ev F) (ev F) ?_
      repeat' (first|with_reducible (first|apply A8|apply A9|apply Bh|apply AR|apply Bx)|((with_reducible apply A4);(·simp)))
      exact IQ hS F h
     ·obtain⟨bm,aw,bz,h⟩:=un h;exact SJ hS (fc aw F) h
end
section
attribute [local irreducible] Ax BO BB Bj BC Bk AY BD BK Cq
attribute [local irreducible] E3
attribute [local go_sem] kF Nj JT JU qU yU oI qv K2 List.map_replicate List.map_set
def D9(N:Nat)(ak:Int):Nat->Int->Int->(List (Int×Int×Int×Int×Bool))->Option (Int×(List (Int×Int×Int×Int×Bool)))|0,_,_,_=>none|n+1,i158,aj,l160=>bif decide (aj<(l160.length:Int))then((A7 l160 aj).bind λ(x161,x162,x163,x164,x165)=>(CF N x161 x162 x163 x164 x165 ak).bind λce=>bif !ce then((A7 l160 i158).bind λ(x175,ee,Ada,x178,x179)=>gd (Af (i158+1))<|gd (Af (aj+1))<|D9 N ak n (i158+1) (aj+1) (l160.set i158.toNat (x161,x162,x163,x164,x165)))else(gd (Af (aj+1))<|D9 N ak n i158 (aj+1) l160))else(some (i158,l160))
def IW(N:Nat)(aa:List (Int×Int×Int×(List (Int×Int))×Int×Int))(from89:List (Int×Int×Int×Int×Bool))(ay:Int)(bm:Int)(bl:Int)(bj:List (Int×Int))(bi:Int)(bh:Int)(ak:Int)(bg:Int)(bf:Int)(av:Int)(au:Int)(aq:Int)(an:Int)(am:Bool):Option (((List (Int×Int×Int×(List (Int×Int))×Int×Int))×(List (Int×Int×Int×Int×Bool)))×Int):=(Fl N ay bm bl bj bi bh ak bg bf av au aq an am).bind λcu=>bif !cu then(some (([],[]),170))else((Ge N aa).bind λbn=>gd (from89.length*40<=140737488355328)<|(Dk N bn ak).bind λ((be,ai,ah,cr,af,ae),bq)=>bif bq then((Id N cr bg bf).bind λ(bb,ba,cq)=>bif !(decide (cq=0))then(some (([],[]),170))else((FY N bn ak).bind λ(az,co)=>bif !(decide (co=0))then(some (([],[]),170))else((Bt N from89 ak).bind λaw=>bif decide (aw=(-1))then((Fd N az be ai ah bb af ae).bind λ(cn,ck)=>bif !(decide (ck=0))then(some (([],[]),170))else((Fd N cn ay ai ah ba af ae).bind λ(bp,cj)=>bif !(decide (cj=0))then(some (([],[]),170))else((CV N bp from89).bind λci=>bif !ci then(some (([],[]),170))else((Ge N bp).bind λbv=>gd (from89.length*40<=140737488355328)<|some ((bv,from89),0)))))else(gd (Af (aw+1))<|(D9 N ak N aw (aw+1) from89).bind λ(i186,l187)=>gd (0<=i186/\i186<=(l187.length:Int))<|gd (0<=0/\0<=i186/\i186<=((l187.take i186.toNat++(List.replicate (l187.length-i186.toNat) (0,0,0,0,false):List (Int×Int×Int×Int×Bool))).length:Int))<|(Fd N az be ai ah bb af ae).bind λ(b9,b7)=>bif !(decide (b7=0))then(some (([],[]),170))else((Fd N b9 ay ai ah ba af ae).bind λ(bo,bz)=>bif !(decide (bz=0))then(some (([],[]),170))else((CV N bo (l187.take i186.toNat)).bind λbw=>bif !bw then(some (([],[]),170))else((Ge N bo).bind λbu=>gd ((l187.take i186.toNat).length*40<=140737488355328)<|some ((bu,l187.take i186.toNat),0))))))))else(some (([],[]),170)))
@[go_sem] def AaN(N:Nat):Spec:=p0<|pG<|pD Ak λaa=>pD AA λfrom89=>pE<|pG<|pC 3<|pI λay=>pI λbm=>pI λbl=>pD Aq λbj=>pI λbi=>pI λbh=>pI λak=>pI λbg=>pI λbf=>pI λav=>pI λau=>pI λaq=>pI λan=>pB λam=>pE<|pE<|pF (IW N aa from89 ay bm bl bj bi bh ak bg bf av au aq an am) (([],[]),0) λr=>.tup [.agg [Ap r.1.1,AS r.1.2],.i r.2]
theorem lH(N:Nat):AG Tryz.prog 57 (AaN N):=by
 refine Ar x57.ok<|Aw<|AM λaa=>AM λfrom89=>Ad<|Aw<|Dn<|Aa λay=>Aa λbm=>Aa λbl=>AM λbj=>Aa λbi=>Aa λbh=>Aa λak=>Aa λbg=>Aa λbf=>Aa λav=>Aa λau=>Aa λaq=>Aa λan=>AX λam=>Ad<|Ad<|As λr h=>SI x57 (BG (Ab (Nn N)<|Ab (yL N)<|Ab (Wn N)<|Ab (Rh N)<|Ab (Wm N)<|Ab (NY N)<|Ab (Wu N)<|Aj) (L3 N) (CP N) H3 (H2 N)) λhb hS F=>?_
 dsimp only[x57,Ah,Aq,AA,Ak];have hOK:=Ctx.fd_ok (nt:=38) (hb:=hb) hS;unfold IW at h;obtain⟨cu,d6,h⟩:=un h;replace F:=fc d6 F;refine An hS F h (λ_ h=>?_) (λ_ h=>?_)
 ·exact Ug hS F h
 ·refine go hS F ?_;refine JH hS 1 rfl rfl (ev F) yT (ev F) (ev F) ?_;obtain⟨bn,d5,fr,h⟩:=un h;replace F:=fc d5 F;refine go hS F ?_;refine BN hS 4 x152.hf x152.hc x152.hn x152.ok rfl (ev F) (ev F) ?_ rfl (ev F) (qZ rfl) λhb=>?_
  ·exact Bl hS F
  dsimp only[x152,Ah];obtain⟨⟨⟨be,ai,ah,cr,af,ae⟩,bq⟩,dz,h⟩:=un h;replace F:=fc dz F;refine go hS F ?_;cases d9:bq with
  |false=>
   replace F:=fc d9 F;replace h:=We d9 h;refine PQ (p:=Qe) (Ctx.fn_ok hS) F 3 ?_
   repeat' (first|with_reducible (first|apply A8|apply A9|apply Bh|apply AR|apply Bx)|((with_reducible apply A4);(·simp)))
   exact IQ hS F h
  |true=>
   replace F:=fc d9 F;replace h:=Wd d9 h;obtain⟨⟨bb,ba,cq⟩,dw,h⟩:=un h;replace F:=fc dw F;refine go hS F ?_;refine AZ hS 2 x77.hf x77.hc x77.hn x77.ok rfl (ev F) (ev F) ?_ rfl (ev F) (qZ rfl) λhb=>?_
   ·exact Bl hS F
   dsimp only[x77,Ah];refine An hS F h (λ_ h=>?_) (λ_ h=>?_)
   ·refine go hS F ?_;refine Bf (Ctx.fn_ok hS) 2 rfl rfl (ev F) (ev F) (ev F) ?_
    repeat' (first|with_reducible (first|apply A8|apply A9|apply Bh|apply AR|apply Bx)|((with_reducible apply A4);(·simp)))
    exact IQ hS F h
   ·refine go hS F ?_;refine AZ hS 3 x143.hf x143.hc x143.hn x143.ok rfl (ev F) (ev F) ?_ rfl (ev F) (qZ rfl) λhb=>?_
    ·exact Bl hS F
    dsimp only[x143,Ah];obtain⟨⟨az,co⟩,du,h⟩:=un h;replace F:=fc du F;refine go hS F ?_;refine AZ hS 2 x77.hf x77.hc x77.hn x77.ok rfl (ev F) (ev F) ?_ rfl (ev F) (qZ rfl) λhb=>?_
    ·exact Bl hS F
    dsimp only[x77,Ah];refine An hS F h (λ_ h=>?_) (λ_ h=>?_)
    ·refine go hS F ?_;refine Bf (Ctx.fn_ok hS) 2 rfl rfl (ev F) (ev F) (ev F) ?_
     repeat' (first|with_reducible (first|apply A8|apply A9|apply Bh|apply AR|apply Bx)|((with_reducible apply A4);(·simp)))
     exact IQ hS F h
    ·refine go hS F ?_;refine AZ hS 3 x144.hf x144.hc x144.hn x144.ok rfl (ev F) (ev F) ?_ rfl (ev F) (qZ rfl) λhb=>?_
     ·exact Bl hS F
     dsimp only[x144,Ah];refine go hS F ?_;refine AZ hS 7 x189.hf x189.hc x189.hn x189.ok rfl (ev F) (ev F) ?_ rfl (ev F) (qZ rfl) λhb=>?_
     ·exact Bl hS F
     dsimp only[x189,Ah];obtain⟨aw,dt,h⟩:=un h;replace F:=fc dt F;refine An hS F h (λ_ h=>?_) (λ_ h=>?_)
     ·refine go hS F ?_;refine AZ hS 2 x134.hf x134.hc x134.hn x134.ok rfl (ev F) (ev F) ?_ rfl (ev F) (qZ rfl) λhb=>?_
      ·exact Bl hS F
      dsimp only[x134,Ah];obtain⟨⟨cn,ck⟩,dq,h⟩:=un h;replace F:=fc dq F;refine go hS F ?_;refine AZ hS 2 x77.hf x77.hc x77.hn x77.ok rfl (ev F) (ev F) ?_ rfl (ev F) (qZ rfl) λhb=>?_
      ·exact Bl hS F
      dsimp only[x77,Ah];refine An hS F h (λ_ h=>?_) (λ_ h=>?_)
      ·refine go hS F ?_;refine Bf (Ctx.fn_ok hS) 2 rfl rfl (ev F) (ev F) (ev F) ?_
       repeat' (first|with_reducible (first|apply A8|apply A9|apply Bh|apply AR|apply Bx)|((with_reducible apply A4);(·simp)))
       exact IQ hS F h
      ·refine go hS F ?_;refine AZ hS 2 x134.hf x134.hc x134.hn x134.ok rfl (ev F) (ev F) ?_ rfl (ev F) (qZ rfl) λhb=>?_
       ·exact Bl hS F
       dsimp only[x134,Ah];obtain⟨⟨bp,cj⟩,dm,h⟩:=un h;replace F:=fc dm F;refine go hS F ?_;refine AZ hS 2 x77.hf x77.hc x77.hn x77.ok rfl (ev F) (ev F) ?_ rfl (ev F) (qZ rfl) λhb=>?_
       ·exact Bl hS F
       dsimp only[x77,Ah];refine An hS F h (λ_ h=>?_) (λ_ h=>?_)
       ·refine go hS F ?_;refine Bf (Ctx.fn_ok hS) 2 rfl rfl (ev F) (ev F) (ev F) ?_
        repeat' (first|with_reducible (first|apply A8|apply A9|apply Bh|apply AR|apply Bx)|((with_reducible apply A4);(·simp)))
        exact IQ hS F h
       ·obtain⟨ci,dl,h⟩:=un h;replace F:=fc dl F;refine go hS F ?_;refine BN hS 5 x77.hf x77.hc x77.hn x77.ok rfl (ev F) (ev F) ?_ rfl (ev F) (qZ rfl) λhb=>?_
        ·exact Bl hS F
        dsimp only[x77,Ah];refine An hS F h (λ_ h=>?_) (λ_ h=>?_)
        ·refine go hS F ?_;refine Bf (Ctx.fn_ok hS) 2 rfl rfl (ev F) (ev F) (ev F) ?_
         repeat' (first|with_reducible (first|apply A8|apply A9|apply Bh|apply AR|apply Bx)|((with_reducible apply A4);(·simp)))
         exact IQ hS F h
        ·obtain⟨bv,dh,fq,h⟩:=un h;exact SJ hS (fc dh F) h
     ·obtain⟨fp,h⟩:=un h;obtain⟨eh,e9,h⟩:=un h;refine go hS F ?_;refine Bz eh (λz:Int×(List (Int×Int×Int×Int×Bool))×Nat=>⟨[(0,.own (501,5) z.2.1.length),(5,.i z.1)],[(.c (0,24) 0,.i ak),(.a (501,5),EH z.2.1),(.c (503,5) 0,Ap az),(.c (503,5) 1,.own (501,5) z.2.1.length),(.c (0,7) 0,.i 3),(.c (0,7) 1,.i ay),(.c (0,7) 2,.i bm),(.c (0,7) 3,.i bl),(.c (0,7) 4,BP bj),(.c (0,7) 5,.i bi),(.c (0,7) 6,.i bh),(.c (0,7) 7,.i ak),(.c (0,7) 8,.i bg),(.c (0,7) 9,.i bf),(.c (0,7) 10,.i av),(.c (0,7) 11,.i au),(.c (0,7) 12,.i aq),(.c (0,7) 13,.i an),(.c (0,7) 14,.b am),(.c (201,9) 0,.i ay),(.c (201,9) 1,.i ai),(.c (201,9) 2,.i ah),(.c (201,9) 3,BP ba),(.c (201,9) 4,.i af),(.c (201,9) 5,.i ae),(.c (104,8) 0,.i be),(.c (104,8) 1,.i ai),(.c (104,8) 2,.i ah),(.c (104,8) 3,BP bb),(.c (104,8) 4,.i af),(.c (104,8) 5,.i ae),(.c (105,2) 0,.clo (.func 150) [] []),(.c (105,2) 1,.clo (.func 151) [] []),(.c (105,2) 2,.clo (.func 152) [] []),(.c (105,2) 3,.v .nilFunc),(.c (105,2) 4,.clo (.func 154) [] []),(.c (3,1) 0,.i 0),(.c (2,1) 0,.sl 0 true [] []),(.c (2,1) 1,.sl 0 true [] []),(.c (1,1) 0,.i 3),(.c (1,1) 1,.i ay),(.c (1,1) 2,.i bm),(.c (1,1) 3,.i bl),(.c (1,1) 4,BP bj),(.c (1,1) 5,.i bi),(.c (1,1) 6,.i bh),(.c (1,1) 7,.i ak),(.c (1,1) 8,.i bg),(.c (1,1) 9,.i bf),(.c (1,1) 10,.i av),(.c (1,1) 11,.i au),(.c (1,1) 12,.i aq),(.c (1,1) 13,.i an),(.c (1,1) 14,.b am),(.c (0,1) 0,Ap aa),(.c (0,1) 1,AS from89)],z.2.2⟩) (λz=>((z.1,z.2.1):Int×(List (Int×Int×Int×Int×Bool)))) (.x 0) ?_ ?_
      ·refine Bp (λn (y:Int×Int×(List (Int×Int×Int×Int×Bool))×Nat)=>D9 N ak n y.1 y.2.1 y.2.2.1) (λy=>⟨[(0,.own (501,5) y.2.2.1.length),(1,.clo (.func 190) [] [.box (0,24) 0]),(5,.i y.1),(6,.i y.2.1)],[(.c (0,24) 0,.i ak),(.a (501,5),EH y.2.2.1),(.c (503,5) 0,Ap az),(.c (503,5) 1,.own (501,5) y.2.2.1.length),(.c (0,7) 0,.i 3),(.c (0,7) 1,.i ay),(.c (0,7) 2,.i bm),(.c (0,7) 3,.i bl),(.c (0,7) 4,BP bj),(.c (0,7) 5,.i bi),(.c (0,7) 6,.i bh),(.c (0,7) 7,.i ak),(.c (0,7) 8,.i bg),(.c (0,7) 9,.i bf),(.c (0,7) 10,.i av),(.c (0,7) 11,.i au),(.c (0,7) 12,.i aq),(.c (0,7) 13,.i an),(.c (0,7) 14,.b am),(.c (201,9) 0,.i ay),(.c (201,9) 1,.i ai),(.c (201,9) 2,.i ah),(.c (201,9) 3,BP ba),(.c (201,9) 4,.i af),(.c (201,9) 5,.i ae),(.c (104,8) 0,.i be),(.c (104,8) 1,.i ai),(.c (104,8) 2,.i ah),(.c (104,8) 3,BP bb),(.c (104,8) 4,.i af),(.c (104,8) 5,.i ae),(.c (105,2) 0,.clo (.func 150) [] []),(.c (105,2) 1,.clo (.func 151) [] []),(.c (105,2) 2,.clo (.func 152) [] []),(.c (105,2) 3,.v .nilFunc),(.c (105,2) 4,.clo (.func 154) [] []),(.c (3,1) 0,.i 0),(.c (2,1) 0,.sl 0 true [] []),(.c (2,1) 1,.sl 0 true [] []),(.c (1,1) 0,.i 3),(.c (1,1) 1,.i ay),(.c (1,1) 2,.i bm),(.c (1,1) 3,.i bl),(.c (1,1) 4,BP bj),(.c (1,1) 5,.i bi),(.c (1,1) 6,.i bh),(.c (1,1) 7,.i ak),(.c (1,1) 8,.i bg),(.c (1,1) 9,.i bf),(.c (1,1) 10,.i av),(.c (1,1) 11,.i au),(.c (1,1) 12,.i aq),(.c (1,1) 13,.i an),(.c (1,1) 14,.b am),(.c (0,1) 0,Ap aa),(.c (0,1) 1,AS from89)],y.2.2.2⟩) (aw,aw+1,from89,29) e9 (Ch F) ?_;rintro n ⟨i158,aj,l160,br⟩ ab;simp only[D9]at ab;refine An hS F ab (λ_ ab=>?_) (λ_ ab=>?_)
       ·obtain⟨⟨x161,x162,x163,x164,x165⟩,d8,ab⟩:=un ab;obtain⟨eu,F⟩:=Cb BZ d8 F;obtain⟨ce,dg,ab⟩:=un ab;replace F:=fc dg F;refine An hS F ab (λ_ ab=>?_) (λ_ ab=>?_)
        ·obtain⟨⟨x175,ee,Ada,x178,x179⟩,d7,ab⟩:=un ab;obtain⟨ej,F⟩:=Cb BZ d7 F;obtain⟨fo,fj,ab⟩:=un ab;exact Cd hS F (n,i158+1,aj+1,l160.set i158.toNat (x161,x162,x163,x164,x165),br+1+1+1+1+1+1) ab
        ·obtain⟨fh,ab⟩:=un ab;exact Cd hS F (n,i158,aj+1,l160,br+1+1+1+1) ab
       ·exact B4 hS F (i158,l160,br+1) ab
      ·rintro⟨i186,l187,fg⟩ rfl;obtain⟨ei,h⟩:=un h;refine go hS F ?_;refine Wl (Ctx.fn_ok hS) 2 rfl rfl rfl (ev F) (ev F) (ev F) (ev F) (ev F) (ev F) (by simp only[rC];omega) rfl rfl ?_;replace F:=fc (Wv BZ ei) F;obtain⟨e8,h⟩:=un h;refine go hS F ?_;refine AZ hS 2 x134.hf x134.hc x134.hn x134.ok rfl (ev F) (ev F) ?_ rfl (ev F) (qZ rfl) λhb=>?_
       ·exact Bl hS F
       dsimp only[x134,Ah];obtain⟨⟨b9,b7⟩,de,h⟩:=un h;replace F:=fc de F;refine go hS F ?_;refine AZ hS 2 x77.hf x77.hc x77.hn x77.ok rfl (ev F) (ev F) ?_ rfl (ev F) (qZ rfl) λhb=>?_
       ·exact Bl hS F
       dsimp only[x77,Ah];refine An hS F h (λ_ h=>?_) (λ_ h=>?_)
       ·refine go hS F ?_;refine Bf (Ctx.fn_ok hS) 2 rfl rfl (ev F) (ev F) (ev F) ?_
        repeat' (first|with_reducible (first|apply A8|apply A9|apply Bh|apply AR|apply Bx)|((with_reducible apply A4);(·simp)))
        exact IQ hS F h
       ·refine go hS F ?_;refine AZ hS 2 x134.hf x134.hc x134.hn x134.ok rfl (ev F) (ev F) ?_ rfl (ev F) (qZ rfl) λhb=>?_
        ·exact Bl hS F
        dsimp only[x134,Ah];obtain⟨⟨bo,bz⟩,db,h⟩:=un h;replace F:=fc db F;refine go hS F ?_;refine AZ hS 2 x77.hf x77.hc x77.hn x77.ok rfl (ev F) (ev F) ?_ rfl (ev F) (qZ rfl) λhb=>?_
        ·exact Bl hS F
        dsimp only[x77,Ah];refine An hS F h (λ_ h=>?_) (λ_ h=>?_)
        ·refine go hS F ?_;refine Bf (Ctx.fn_ok hS) 2 rfl rfl (ev F) (ev F) (ev F) ?_
         repeat' (first|with_reducible (first|apply A8|apply A9|apply Bh|apply AR|apply Bx)|((with_reducible apply A4);(·simp)))
         exact IQ hS F h
        ·obtain⟨bw,da,h⟩:=un h;replace F:=fc da F;refine go hS F ?_;refine BN hS 5 x77.hf x77.hc x77.hn x77.ok rfl (ev F) (ev F) ?_ rfl (ev F) (qZ rfl) λhb=>?_
         ·exact Bl hS F
         dsimp only[x77,Ah];refine An hS F h (λ_ h=>?_) (λ_ h=>?_)
         ·refine go hS F ?_;refine Bf (Ctx.fn_ok hS) 2 rfl rfl (ev F) (ev F) (ev F) ?_
          repeat' (first|with_reducible (first|apply A8|apply A9|apply Bh|apply AR|apply Bx)|((with_reducible apply A4);(·simp)))
          exact IQ hS F h
         ·obtain⟨bu,cy,ez,h⟩:=un h;exact SJ hS (fc cy F) h
end
section
attribute [local irreducible] Ax BO BB Bj BC Bk AY BD BK Cq
attribute [local irreducible] E3
attribute [local go_sem] kF Nj JT JU qU yU oI qv K2 List.map_replicate List.map_set
def IX(N:Nat)(aa:List (Int×Int×Int×(List (Int×Int))×Int×Int))(from228:List (Int×Int×Int×Int×Bool))(ay:Int)(aw:Int)(av:Int)(au:List (Int×Int))(aq:Int)(an:Int)(ab:Int)(af:Int)(ae:Int)(am:Int)(ak:Int)(aj:Int)(ai:Int)(ah:Bool):Option (((List (Int×Int×Int×(List (Int×Int))×Int×Int))×(List (Int×Int×Int×Int×Bool)))×Int):=(Fm N ay aw av au aq an ab af ae am ak aj ai ah).bind λb7=>bif !b7 then(some (([],[]),170))else((Ge N aa).bind λaz=>gd (from228.length*40<=140737488355328)<|(Dk N az ab).bind λ((bz,bw,bv,bu,br,bq),ba)=>bif ba then((FR N bz bw bv bu br bq af ae).bind λ((bp,bo,bn,bm,bl,bj),bi)=>bif !(decide (bi=0))then(some (([],[]),170))else((FY N az ab).bind λ(bh,bg)=>bif !(decide (bg=0))then(some (([],[]),170))else((Fd N bh bp bo bn bm bl bj).bind λ(r267,bf)=>bif !(decide (bf=0))then(some (([],[]),170))else((CV N r267 from228).bind λbe=>bif !be then(some (([],[]),170))else((Ge N r267).bind λbb=>gd (from228.length*40<=140737488355328)<|some ((bb,from228),0))))))else(some (([],[]),170)))
@[go_sem] def AaO(N:Nat):Spec:=p0<|pG<|pD Ak λaa=>pD AA λfrom228=>pE<|pG<|pC 4<|pI λay=>pI λaw=>pI λav=>pD Aq λau=>pI λaq=>pI λan=>pI λab=>pI λaf=>pI λae=>pI λam=>pI λak=>pI λaj=>pI λai=>pB λah=>pE<|pE<|pF (IX N aa from228 ay aw av au aq an ab af ae am ak aj ai ah) (([],[]),0) λr=>.tup [.agg [Ap r.1.1,AS r.1.2],.i r.2]
theorem lI(N:Nat):AG Tryz.prog 57 (AaO N):=by
 refine Ar x57.ok<|Aw<|AM λaa=>AM λfrom228=>Ad<|Aw<|Dn<|Aa λay=>Aa λaw=>Aa λav=>AM λau=>Aa λaq=>Aa λan=>Aa λab=>Aa λaf=>Aa λae=>Aa λam=>Aa λak=>Aa λaj=>Aa λai=>AX λah=>Ad<|Ad<|As λr h=>SI x57 (BG (Ab (No N)<|Ab (nQ N)<|Ab (Wn N)<|Ab (Wm N)<|Ab (NY N)<|Aj) (L3 N) (CP N) H3 (H2 N)) λhb hS F=>?_
 dsimp only[x57,Ah,Aq,AA,Ak];have hOK:=Ctx.fd_ok (nt:=38) (hb:=hb) hS;unfold IX at h;obtain⟨b7,cq,h⟩:=un h;replace F:=fc cq F;refine An hS F h (λ_ h=>?_) (λ_ h=>?_)
 ·exact Ug hS F h
 ·refine go hS F ?_;refine JH hS 1 rfl rfl (ev F) yT (ev F) (ev F) ?_;obtain⟨az,co,cy,h⟩:=un h;replace F:=fc co F;refine go hS F ?_;refine BN hS 4 x157.hf x157.hc x157.hn x157.ok rfl (ev F) (ev F) ?_ rfl (ev F) (qZ rfl) λhb=>?_
  ·exact Bl hS F
  dsimp only[x157,Ah];obtain⟨⟨⟨bz,bw,bv,bu,br,bq⟩,ba⟩,cn,h⟩:=un h;replace F:=fc cn F;refine go hS F ?_;cases cr:ba with
  |false=>
   replace F:=fc cr F;replace h:=We cr h;replace F:=fc (Aad N) F;refine vA (p:=Qe) (Ctx.fn_ok hS) F 3 (.agg [.i 0,.i 0,.i 0,.sl 2 false [] [.i 0,.i 0],.i 0,.i 0]) ?_
   repeat' (first|with_reducible (first|apply A8|apply A9|apply Bh|apply AR|apply Bx)|((with_reducible apply A4);(·simp)))
   exact IQ hS F h
  |true=>
   replace F:=fc cr F;replace h:=Wd cr h;obtain⟨⟨⟨bp,bo,bn,bm,bl,bj⟩,bi⟩,ck,h⟩:=un h;replace F:=fc ck F;refine go hS F ?_;refine AZ hS 2 x77.hf x77.hc x77.hn x77.ok rfl (ev F) (ev F) ?_ rfl (ev F) (qZ rfl) λhb=>?_
   ·exact Bl hS F
   dsimp only[x77,Ah];refine An hS F h (λ_ h=>?_) (λ_ h=>?_)
   ·refine go hS F ?_;refine Bf (Ctx.fn_ok hS) 2 rfl rfl (ev F) (ev F) (ev F) ?_
    repeat' (first|with_reducible (first|apply A8|apply A9|apply Bh|apply AR|apply Bx)|((with_reducible apply A4);(·simp)))
    exact IQ hS F h
   ·refine go hS F ?_;refine AZ hS 3 x143.hf x143.hc x143.hn x143.ok rfl (ev F) (ev F) ?_ rfl (ev F) (qZ rfl) λhb=>?_
    ·exact Bl hS F
    dsimp only[x143,Ah];obtain⟨⟨bh,bg⟩,cj,h⟩:=un h;replace F:=fc cj F;refine go hS F ?_;refine AZ hS 2 x77.hf x77.hc x77.hn x77.ok rfl (ev F) (ev F) ?_ rfl (ev F) (qZ rfl) λhb=>?_
    ·exact Bl hS F
    dsimp only[x77,Ah];refine An hS F h (λ_ h=>?_) (λ_ h=>?_)
    ·refine go hS F ?_;refine Bf (Ctx.fn_ok hS) 2 rfl rfl (ev F) (ev F) (ev F) ?_
     repeat' (first|with_reducible (first|apply A8|apply A9|apply Bh|apply AR|apply Bx)|((with_reducible apply A4);(·simp)))
     exact IQ hS F h
    ·refine go hS F ?_;refine AZ hS 2 x134.hf x134.hc x134.hn x134.ok rfl (ev F) (ev F) ?_ rfl (ev F) (qZ rfl) λhb=>?_
     ·exact Bl hS F
     dsimp only[x134,Ah];obtain⟨⟨r267,bf⟩,ci,h⟩:=un h;replace F:=fc ci F;refine go hS F ?_;refine AZ hS 2 x77.hf x77.hc x77.hn x77.ok rfl (ev F) (ev F) ?_ rfl (ev F) (qZ rfl) λhb=>?_
     ·exact Bl hS F
     dsimp only[x77,Ah];refine An hS F h (λ_ h=>?_) (λ_ h=>?_)
     ·refine go hS F ?_;refine Bf (Ctx.fn_ok hS) 2 rfl rfl (ev F) (ev F) (ev F) ?_
      repeat' (first|with_reducible (first|apply A8|apply A9|apply Bh|apply AR|apply Bx)|((with_reducible apply A4);(·simp)))
      exact IQ hS F h
     ·obtain⟨be,ce,h⟩:=un h;replace F:=fc ce F;refine go hS F ?_;refine BN hS 5 x77.hf x77.hc x77.hn x77.ok rfl (ev F) (ev F) ?_ rfl (ev F) (qZ rfl) λhb=>?_
      ·exact Bl hS F
      dsimp only[x77,Ah];refine An hS F h (λ_ h=>?_) (λ_ h=>?_)
      ·refine go hS F ?_;refine Bf (Ctx.fn_ok hS) 2 rfl rfl (ev F) (ev F) (ev F) ?_
       repeat' (first|with_reducible (first|apply A8|apply A9|apply Bh|apply AR|apply Bx)|((with_reducible apply A4);(·simp)))
       exact IQ hS F h
      ·obtain⟨bb,b9,cu,h⟩:=un h;exact SJ hS (fc b9 F) h
end
section
attribute [local irreducible] Ax BO BB Bj BC Bk AY BD BK Cq
attribute [local irreducible] E3
attribute [local go_sem] kF Nj JT JU qU yU oI qv K2 List.map_replicate List.map_set
def IY(N:Nat)(aa:List (Int×Int×Int×(List (Int×Int))×Int×Int))(from275:List (Int×Int×Int×Int×Bool))(ay:Int)(aw:Int)(av:Int)(au:List (Int×Int))(aq:Int)(an:Int)(am:Int)(ak:Int)(aj:Int)(ab:Int)(ai:Int)(ah:Int)(af:Int)(ae:Bool):Option (((List (Int×Int×Int×(List (Int×Int))×Int×Int))×(List (Int×Int×Int×Int×Bool)))×Int):=(Fo N ay aw av au aq an am ak aj ab ai ah af ae).bind λbf=>bif !bf then(some (([],[]),170))else((Ge N aa).bind λaz=>gd (from275.length*40<=140737488355328)<|(BE N from275 ab).bind λ(r295,be)=>bif !(!be)then(some (([],[]),170))else(gd (0<=r295/\r295<=(from275.length:Int))<|gd ((from275.length+1)*40<=140737488355328)<|(CV N az (from275.take r295.toNat++[(ab,ai,ah,af,ae)]++from275.drop r295.toNat)).bind λbb=>bif !bb then(some (([],[]),170))else((Ge N az).bind λba=>gd ((from275.take r295.toNat++[(ab,ai,ah,af,ae)]++from275.drop r295.toNat).length*40<=140737488355328)<|some ((ba,from275.take r295.toNat++[(ab,ai,ah,af,ae)]++from275.drop r295.toNat),0))))
@[go_sem] def AaP(N:Nat):Spec:=p0<|pG<|pD Ak λaa=>pD AA λfrom275=>pE<|pG<|pC 5<|pI λay=>pI λaw=>pI λav=>pD Aq λau=>pI λaq=>pI λan=>pI λam=>pI λak=>pI λaj=>pI λab=>pI λai=>pI λah=>pI λaf=>pB λae=>pE<|pE<|pF (IY N aa from275 ay aw av au aq an am ak aj ab ai ah af ae) (([],[]),0) λr=>.tup [.agg [Ap r.1.1,AS r.1.2],.i r.2]
theorem lJ(N:Nat):AG Tryz.prog 57 (AaP N):=by
 refine Ar x57.ok<|Aw<|AM λaa=>AM λfrom275=>Ad<|Aw<|Dn<|Aa λay=>Aa λaw=>Aa λav=>AM λau=>Aa λaq=>Aa λan=>Aa λam=>Aa λak=>Aa λaj=>Aa λab=>Aa λai=>Aa λah=>Aa λaf=>AX λae=>Ad<|Ad<|As λr h=>SI x57 (BG (Ab (Np N)<|Ab (XJ N)<|Ab (NY N)<|Aj) (L3 N) (CP N) H3 (H2 N)) λhb hS F=>?_
 dsimp only[x57,Ah,Aq,AA,Ak];have hOK:=Ctx.fd_ok (nt:=38) (hb:=hb) hS;unfold IY at h;obtain⟨bf,bl,h⟩:=un h;replace F:=fc bl F;refine An hS F h (λ_ h=>?_) (λ_ h=>?_)
 ·exact Ug hS F h
 ·refine go hS F ?_;refine JH hS 1 rfl rfl (ev F) yT (ev F) (ev F) ?_;obtain⟨az,bj,bp,h⟩:=un h;replace F:=fc bj F;refine go hS F ?_;refine BN hS 4 x165.hf x165.hc x165.hn x165.ok rfl (ev F) (ev F) ?_ rfl (ev F) (qZ rfl) λhb=>?_
  ·exact Bl hS F
  dsimp only[x165,Ah];obtain⟨⟨r295,be⟩,bi,h⟩:=un h;replace F:=fc bi F;refine go hS F ?_;refine AZ hS 2 x77.hf x77.hc x77.hn x77.ok rfl (ev F) (ev F) ?_ rfl (ev F) (qZ rfl) λhb=>?_
  ·exact Bl hS F
  dsimp only[x77,Ah];refine An hS F h (λ_ h=>?_) (λ_ h=>?_)
  ·refine go hS F ?_;refine Bf (Ctx.fn_ok hS) 2 rfl rfl (ev F) (ev F) (ev F) ?_
   repeat' (first|with_reducible (first|apply A8|apply A9|apply Bh|apply AR|apply Bx)|((with_reducible apply A4);(·simp)))
   exact IQ hS F h
  ·obtain⟨bo,bn,bb,bh,h⟩:=un h;replace F:=fc bh F;refine go hS F ?_;refine BN hS 5 x77.hf x77.hc x77.hn x77.ok rfl (ev F) (ev F) ?_ rfl (ev F) (qZ rfl) λhb=>?_
   ·exact Bl hS F
   dsimp only[x77,Ah];refine An hS F h (λ_ h=>?_) (λ_ h=>?_)
   ·refine go hS F ?_;refine Bf (Ctx.fn_ok hS) 2 rfl rfl (ev F) (ev F) (ev F) ?_
    repeat' (first|with_reducible (first|apply A8|apply A9|apply Bh|apply AR|apply Bx)|((with_reducible apply A4);(·simp)))
    exact IQ hS F h
   ·obtain⟨ba,bg,bm,h⟩:=un h;exact SJ hS (fc bg F) h
end
section
attribute [local irreducible] Ax BO BB Bj BC Bk AY BD BK Cq
attribute [local irreducible] E3
attribute [local go_sem] kF Nj JT JU qU yU oI List.map_replicate List.map_set
def IZ(N:Nat)(aa:List (Int×Int×Int×(List (Int×Int))×Int×Int))(from247:List (Int×Int×Int×Int×Bool))(be:Int)(bb:Int)(ba:Int)(az:List (Int×Int))(ay:Int)(aw:Int)(ab:Int)(av:Int)(au:Int)(aq:Int)(an:Int)(am:Int)(ak:Int)(aj:Bool):Option (((List (Int×Int×Int×(List (Int×Int))×Int×Int))×(List (Int×Int×Int×Int×Bool)))×Int):=(Fp N be bb ba az ay aw ab av au aq an am ak aj).bind λbi=>bif !bi then(some (([],[]),170))else((Ge N aa).bind λbf=>gd (from247.length*40<=140737488355328)<|(Bu N from247 ab).bind λr267=>gd ((decide (0<=r267))=true->(0<=r267/\r267<(from247.length:Int)))<|gd ((decide (0<=r267))=true->(0<=r267/\r267<(from247.length:Int)))<|bif !((decide (0<=r267))&&(((from247.getD r267.toNat (0,0,0,0,false)).2.2.2.2) !=false))then(some (([],[]),170))else((A7 from247 r267).bind λ(ai,ah,af,ae,bq)=>(CV N bf (from247.set r267.toNat (ai,ah,af,ae,false))).bind λbh=>bif !bh then(some (([],[]),170))else((Ge N bf).bind λbg=>gd ((from247.set r267.toNat (ai,ah,af,ae,false)).length*40<=140737488355328)<|some ((bg,from247.set r267.toNat (ai,ah,af,ae,false)),0))))
@[go_sem] def AaQ(N:Nat):Spec:=p0<|pG<|pD Ak λaa=>pD AA λfrom247=>pE<|pG<|pC 6<|pI λbe=>pI λbb=>pI λba=>pD Aq λaz=>pI λay=>pI λaw=>pI λab=>pI λav=>pI λau=>pI λaq=>pI λan=>pI λam=>pI λak=>pB λaj=>pE<|pE<|pF (IZ N aa from247 be bb ba az ay aw ab av au aq an am ak aj) (([],[]),0) λr=>.tup [.agg [Ap r.1.1,AS r.1.2],.i r.2]
theorem lK(N:Nat):AG Tryz.prog 57 (AaQ N):=by
 refine Ar x57.ok<|Aw<|AM λaa=>AM λfrom247=>Ad<|Aw<|Dn<|Aa λbe=>Aa λbb=>Aa λba=>AM λaz=>Aa λay=>Aa λaw=>Aa λab=>Aa λav=>Aa λau=>Aa λaq=>Aa λan=>Aa λam=>Aa λak=>AX λaj=>Ad<|Ad<|As λr h=>SI x57 (BG (Ab (Nq N)<|Ab (Ri N)<|Ab (NY N)<|Aj) (L3 N) (CP N) H3 (H2 N)) λhb hS F=>?_
 dsimp only[x57,Ah,Aq,AA,Ak];have hOK:=Ctx.fd_ok (nt:=38) (hb:=hb) hS;unfold IZ at h;obtain⟨bi,bo,h⟩:=un h;replace F:=fc bo F;refine An hS F h (λ_ h=>?_) (λ_ h=>?_)
 ·exact Ug hS F h
 ·refine go hS F ?_;refine JH hS 1 rfl rfl (ev F) yT (ev F) (ev F) ?_;obtain⟨bf,bn,bz,h⟩:=un h;replace F:=fc bn F;refine go hS F ?_;refine BN hS 4 x170.hf x170.hc x170.hn x170.ok rfl (ev F) (ev F) ?_ rfl (ev F) (qZ rfl) λhb=>?_
  ·exact Bl hS F
  dsimp only[x170,Ah];refine go hS F ?_;refine AZ hS 3 x171.hf x171.hc x171.hn x171.ok rfl (ev F) (ev F) ?_ rfl (ev F) (qZ rfl) λhb=>?_
  ·exact Bl hS F
  dsimp only[x171,Ah];obtain⟨r267,bm,bw,bv,h⟩:=un h;replace F:=fc bm F;refine go hS F ?_;refine AZ hS 15 x77.hf x77.hc x77.hn x77.ok rfl (ev F) (ev F) ?_ rfl (ev F) (qZ rfl) λhb=>?_
  ·exact Bl hS F
  dsimp only[x77,Ah];refine An hS F h (λ_ h=>?_) (λ_ h=>?_)
  ·refine go hS F ?_;refine Bf (Ctx.fn_ok hS) 2 rfl rfl (ev F) (ev F) (ev F) ?_
   repeat' (first|with_reducible (first|apply A8|apply A9|apply Bh|apply AR|apply Bx)|((with_reducible apply A4);(·simp)))
   exact IQ hS F h
  ·obtain⟨⟨ai,ah,af,ae,bq⟩,bp,h⟩:=un h;obtain⟨br,F⟩:=Cb BZ bp F;obtain⟨bh,bl,h⟩:=un h;replace F:=fc bl F;refine go hS F ?_;refine BN hS 5 x77.hf x77.hc x77.hn x77.ok rfl (ev F) (ev F) ?_ rfl (ev F) (qZ rfl) λhb=>?_
   ·exact Bl hS F
   dsimp only[x77,Ah];refine An hS F h (λ_ h=>?_) (λ_ h=>?_)
   ·refine go hS F ?_;refine Bf (Ctx.fn_ok hS) 2 rfl rfl (ev F) (ev F) (ev F) ?_
    repeat' (first|with_reducible (first|apply A8|apply A9|apply Bh|apply AR|apply Bx)|((with_reducible apply A4);(·simp)))
    exact IQ hS F h
   ·obtain⟨bg,bj,bu,h⟩:=un h;exact SJ hS (fc bj F) h
end
attribute [local irreducible] Ax BO BB Bj BC Bk AY BD BK Cq
attribute [local irreducible] E3
attribute [local go_sem] kF Nj JT JU qU yU oI List.map_replicate List.map_set
def I0(N:Nat)(aa:List (Int×Int×Int×(List (Int×Int))×Int×Int))(from280:List (Int×Int×Int×Int×Bool))(be:Int)(bb:Int)(ba:Int)(az:List (Int×Int))(ay:Int)(aw:Int)(ab:Int)(av:Int)(au:Int)(aq:Int)(an:Int)(am:Int)(ak:Int)(aj:Bool):Option (((List (Int×Int×Int×(List (Int×Int))×Int×Int))×(List (Int×Int×Int×Int×Bool)))×Int):=(Fq N be bb ba az ay aw ab av au aq an am ak aj).bind λbi=>bif !bi then(some (([],[]),170))else((Ge N aa).bind λbf=>gd (from280.length*40<=140737488355328)<|(Bu N from280 ab).bind λr300=>gd ((decide (0<=r300))=true->(0<=r300/\r300<(from280.length:Int)))<|gd ((decide (0<=r300))=true->(0<=r300/\r300<(from280.length:Int)))<|bif !((decide (0<=r300))&&(((from280.getD r300.toNat (0,0,0,0,false)).2.2.2.2) !=true))then(some (([],[]),170))else((A7 from280 r300).bind λ(ai,ah,af,ae,bq)=>(CV N bf (from280.set r300.toNat (ai,ah,af,ae,true))).bind λbh=>bif !bh then(some (([],[]),170))else((Ge N bf).bind λbg=>gd ((from280.set r300.toNat (ai,ah,af,ae,true)).length*40<=140737488355328)<|some ((bg,from280.set r300.toNat (ai,ah,af,ae,true)),0))))
@[go_sem] def AaR(N:Nat):Spec:=p0<|pG<|pD Ak λaa=>pD AA λfrom280=>pE<|pG<|pC 7<|pI λbe=>pI λbb=>pI λba=>pD Aq λaz=>pI λay=>pI λaw=>pI λab=>pI λav=>pI λau=>pI λaq=>pI λan=>pI λam=>pI λak=>pB λaj=>pE<|pE<|pF (I0 N aa from280 be bb ba az ay aw ab av au aq an am ak aj) (([],[]),0) λr=>.tup [.agg [Ap r.1.1,AS r.1.2],.i r.2]
theorem lN(N:Nat):AG Tryz.prog 57 (AaR N):=by
 refine Ar x57.ok<|Aw<|AM λaa=>AM λfrom280=>Ad<|Aw<|Dn<|Aa λbe=>Aa λbb=>Aa λba=>AM λaz=>Aa λay=>Aa λaw=>Aa λab=>Aa λav=>Aa λau=>Aa λaq=>Aa λan=>Aa λam=>Aa λak=>AX λaj=>Ad<|Ad<|As λr h=>SI x57 (BG (Ab (Nr N)<|Ab (Ri N)<|Ab (NY N)<|Aj) (L3 N) (CP N) H3 (H2 N)) λhb hS F=>?_
 dsimp only[x57,Ah,Aq,AA,Ak];have hOK:=Ctx.fd_ok (nt:=38) (hb:=hb) hS;unfold I0 at h;obtain⟨bi,bo,h⟩:=un h;replace F:=fc bo F;refine An hS F h (λ_ h=>?_) (λ_ h=>?_)
 ·exact Ug hS F h
 ·refine go hS F ?_;refine JH hS 1 rfl rfl (ev F) yT (ev F) (ev F) ?_;obtain⟨bf,bn,bz,h⟩:=un h;replace F:=fc bn F;refine go hS F ?_;refine BN hS 4 x173.hf x173.hc x173.hn x173.ok rfl (ev F) (ev F) ?_ rfl (ev F) (qZ rfl) λhb=>?_
  ·exact Bl hS F
  dsimp only[x173,Ah];refine go hS F ?_;refine AZ hS 3 x171.hf x171.hc x171.hn x171.ok rfl (ev F) (ev F) ?_ rfl (ev F) (qZ rfl) λhb=>?_
  ·exact Bl hS F
  dsimp only[x171,Ah];obtain⟨r300,bm,bw,bv,h⟩:=un h;replace F:=fc bm F;refine go hS F ?_;refine AZ hS 15 x77.hf x77.hc x77.hn x77.ok rfl (ev F) (ev F) ?_ rfl (ev F) (qZ rfl) λhb=>?_
  ·exact Bl hS F
  dsimp only[x77,Ah];refine An hS F h (λ_ h=>?_) (λ_ h=>?_)
  ·refine go hS F ?_;refine Bf (Ctx.fn_ok hS) 2 rfl rfl (ev F) (ev F) (ev F) ?_
   repeat' (first|with_reducible (first|apply A8|apply A9|apply Bh|apply AR|apply Bx)|((with_reducible apply A4);(·simp)))
   exact IQ hS F h
  ·obtain⟨⟨ai,ah,af,ae,bq⟩,bp,h⟩:=un h;obtain⟨br,F⟩:=Cb BZ bp F;obtain⟨bh,bl,h⟩:=un h;replace F:=fc bl F;refine go hS F ?_;refine BN hS 5 x77.hf x77.hc x77.hn x77.ok rfl (ev F) (ev F) ?_ rfl (ev F) (qZ rfl) λhb=>?_
   ·exact Bl hS F
   dsimp only[x77,Ah];refine An hS F h (λ_ h=>?_) (λ_ h=>?_)
   ·refine go hS F ?_;refine Bf (Ctx.fn_ok hS) 2 rfl rfl (ev F) (ev F) (ev F) ?_
    repeat' (first|with_reducible (first|apply A8|apply A9|apply Bh|apply AR|apply Bx)|((with_reducible apply A4);(·simp)))
    exact IQ hS F h
   ·obtain⟨bg,bj,bu,h⟩:=un h;exact SJ hS (fc bj F) h
