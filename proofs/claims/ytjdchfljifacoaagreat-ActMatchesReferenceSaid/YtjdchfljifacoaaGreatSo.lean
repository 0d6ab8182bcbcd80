import Derived.Test.YtjdchfljifacoaaGreatS1
set_option linter.all false
set_option maxRecDepth 100000
set_option maxHeartbeats 8000000
namespace Go.Proofs.YtjdchfljifacoaaGreat.Am
open Go
section
attribute [local irreducible] Ax BO BB Bj BC Bk AY BD BK Cq
attribute [local irreducible] E3
attribute [local go_sem] kF Nj JT JU qU yU oI qv K2 List.map_replicate List.map_set
def D8(N:Nat)(ab:Int):Nat->Int->Int->(List (Int×Int×Int×Int×Bool))->Option (Int×(List (Int×Int×Int×Int×Bool)))|0,_,_,_=>none|n+1,i53,af,l55=>bif decide (af<(l55.length:Int))then((A7 l55 af).bind λ(x56,x57,x58,x59,x60)=>(CF N x56 x57 x58 x59 x60 ab).bind λbr=>bif !br then((A7 l55 i53).bind λ(x70,x71,x72,x73,x74)=>gd (Af (i53+1))<|gd (Af (af+1))<|D8 N ab n (i53+1) (af+1) (l55.set i53.toNat (x56,x57,x58,x59,x60)))else(gd (Af (af+1))<|D8 N ab n i53 (af+1) l55))else(some (i53,l55))
def IV(N:Nat)(ae:List (Int×Int×Int×(List (Int×Int))×Int×Int))(from2:List (Int×Int×Int×Int×Bool))(a4:Int)(a5:Int)(a6:Int)(a7:List (Int×Int))(a8:Int)(a9:Int)(ab:Int)(av:Int)(au:Int)(aq:Int)(an:Int)(am:Int)(ak:Int)(aj:Bool):Option (((List (Int×Int×Int×(List (Int×Int))×Int×Int))×(List (Int×Int×Int×Int×Bool)))×Int):=(Fk N a4 a5 a6 a7 a8 a9 ab av au aq an am ak aj).bind λbv=>bif !bv then(some (([],[]),170))else((Ge N ae).bind λbp=>gd (from2.length*40<=140737488355328)<|(FY N bp ab).bind λ(ai,bu)=>bif !(decide (bu=0))then(some (([],[]),170))else((Bt N from2 ab).bind λah=>bif decide (ah=(-1))then((CV N ai from2).bind λr27=>bif !r27 then(some (([],[]),170))else((Ge N ai).bind λbo=>gd (from2.length*40<=140737488355328)<|some ((bo,from2),0)))else(gd (Af (ah+1))<|(D8 N ab N ah (ah+1) from2).bind λ(i81,l82)=>gd (0<=i81/\i81<=(l82.length:Int))<|gd (0<=0/\0<=i81/\i81<=((l82.take i81.toNat++(List.replicate (l82.length-i81.toNat) (0,0,0,0,false):List (Int×Int×Int×Int×Bool))).length:Int))<|(CV N ai (l82.take i81.toNat)).bind λbq=>bif !bq then(some (([],[]),170))else((Ge N ai).bind λbn=>gd ((l82.take i81.toNat).length*40<=140737488355328)<|some ((bn,l82.take i81.toNat),0)))))
@[go_sem] def AaM(N:Nat):Spec:=p0<|(Aoh<|qD Ak<|qD AA<|Aof<|Aoh<|Aoe 2<|Aoi<|Aoi<|Aoi<|qD Aq<|Aoi<|Aoi<|Aoi<|Aoi<|Aoi<|Aoi<|Aoi<|Aoi<|Aoi<|Aod<|Aof<|Aof<|Aog (([],[]),0) λr=>.tup [.agg [Ap r.1.1,AS r.1.2],.i r.2]) (IV N)
theorem lG(N:Nat):AG Tryz.prog 57 (AaM N):=by
 refine fk (Aop x57 (BG (Ab (Nl N)<|Ab (Wn N)<|Ab (Rh N)<|Ab (NY N)<|Ab (Wu N)<|Aj) (L3 N) (CP N) H3 (H2 N))) ?_;intro ae from2 a4 a5 a6 a7 a8 a9 ab av au aq an am ak aj r h hb hS F;dsimp only[x57,Ah,Aq,AA,Ak];have hOK:=Ctx.fd_ok (nt:=38) (hb:=hb) hS;unfold IV at h;obtain⟨bv,bi,h⟩:=un h;replace F:=fc bi F;refine An hS F h (λ_ h=>?_) (λ_ h=>?_)
 ·exact Ug hS F h
 ·refine go hS F ?_;refine JH hS 1 rfl rfl (ev F) yT (ev F) (ev F) ?_;obtain⟨bp,bh,cy,h⟩:=un h;replace F:=fc bh F;refine go hS F ?_;refine BN hS 4 x142.hf x142.hc x142.hn x142.ok rfl (ev F) (ev F) ?_ rfl (ev F) (oL rfl) λhb=>?_
  ·exact Bl hS F
  dsimp only[x142,Ah];refine go hS F ?_;refine AZ hS 3 x143.hf x143.hc x143.hn x143.ok rfl (ev F) (ev F) ?_ rfl (ev F) (oL rfl) λhb=>?_
  ·exact Bl hS F
  dsimp only[x143,Ah];obtain⟨⟨ai,bu⟩,bg,h⟩:=un h;replace F:=fc bg F;refine go hS F ?_;refine AZ hS 2 x77.hf x77.hc x77.hn x77.ok rfl (ev F) (ev F) ?_ rfl (ev F) (oL rfl) λhb=>?_
  ·exact Bl hS F
  dsimp only[x77,Ah];refine An hS F h (λ_ h=>?_) (λ_ h=>?_)
  ·refine go hS F ?_;refine Bf (Ctx.fn_ok hS) 2 rfl rfl (ev F) (ev F) (ev F) ?_
   repeat' (first|with_reducible (first|apply A8|apply A9|apply Bh|apply AR|apply Bx)|((with_reducible apply A4);(·simp)))
   exact IQ hS F h
  ·refine go hS F ?_;refine AZ hS 3 x144.hf x144.hc x144.hn x144.ok rfl (ev F) (ev F) ?_ rfl (ev F) (oL rfl) λhb=>?_
   ·exact Bl hS F
   dsimp only[x144,Ah];refine go hS F ?_;refine AZ hS 7 x189.hf x189.hc x189.hn x189.ok rfl (ev F) (ev F) ?_ rfl (ev F) (oL rfl) λhb=>?_
   ·exact Bl hS F
   dsimp only[x189,Ah];obtain⟨ah,bf,h⟩:=un h;replace F:=fc bf F;refine An hS F h (λ_ h=>?_) (λ_ h=>?_)
   ·obtain⟨r27,be,h⟩:=un h;replace F:=fc be F;refine go hS F ?_;refine BN hS 5 x77.hf x77.hc x77.hn x77.ok rfl (ev F) (ev F) ?_ rfl (ev F) (oL rfl) λhb=>?_
    ·exact Bl hS F
    dsimp only[x77,Ah];refine An hS F h (λ_ h=>?_) (λ_ h=>?_)
    ·refine go hS F ?_;refine Bf (Ctx.fn_ok hS) 2 rfl rfl (ev F) (ev F) (ev F) ?_
     repeat' (first|with_reducible (first|apply A8|apply A9|apply Bh|apply AR|apply Bx)|((with_reducible apply A4);(·simp)))
     exact IQ hS F h
    ·obtain⟨bo,bb,cu,h⟩:=un h;exact SJ hS (fc bb F) h
   ·obtain⟨cr,h⟩:=un h;obtain⟨bw,cj,h⟩:=un h;refine go hS F ?_;refine Bz bw (λz:Int×(List (Int×Int×Int×Int×Bool))×Nat=>⟨[(0,.own (501,5) z.2.1.length),(5,.i z.1)],[(.c (0,16) 0,.i ab),(.a (501,5),EH z.2.1),(.c (503,5) 0,Ap ai),(.c (503,5) 1,.own (501,5) z.2.1.length),(.c (0,7) 0,.i 2),(.c (0,7) 1,.i a4),(.c (0,7) 2,.i a5),(.c (0,7) 3,.i a6),(.c (0,7) 4,BP a7),(.c (0,7) 5,.i a8),(.c (0,7) 6,.i a9),(.c (0,7) 7,.i ab),(.c (0,7) 8,.i av),(.c (0,7) 9,.i au),(.c (0,7) 10,.i aq),(.c (0,7) 11,.i an),(.c (0,7) 12,.i am),(.c (0,7) 13,.i ak),(.c (0,7) 14,.b aj),(.c (105,2) 0,.clo (.func 139) [] []),(.c (105,2) 1,.clo (.func 141) [] []),(.c (105,2) 2,.clo (.func 142) [] []),(.c (105,2) 3,.clo (.func 145) [] []),(.c (105,2) 4,.clo (.func 149) [] []),(.c (3,1) 0,.i 0),(.c (2,1) 0,.sl 0 true [] []),(.c (2,1) 1,.sl 0 true [] []),(.c (1,1) 0,.i 2),(.c (1,1) 1,.i a4),(.c (1,1) 2,.i a5),(.c (1,1) 3,.i a6),(.c (1,1) 4,BP a7),(.c (1,1) 5,.i a8),(.c (1,1) 6,.i a9),(.c (1,1) 7,.i ab),(.c (1,1) 8,.i av),(.c (1,1) 9,.i au),(.c (1,1) 10,.i aq),(.c (1,1) 11,.i an),(.c (1,1) 12,.i am),(.c (1,1) 13,.i ak),(.c (1,1) 14,.b aj),(.c (0,1) 0,Ap ae),(.c (0,1) 1,AS from2)],z.2.2⟩) (λz=>((z.1,z.2.1):Int×(List (Int×Int×Int×Int×Bool)))) (.x 0) ?_ ?_
    ·refine Bp (λn (y:Int×Int×(List (Int×Int×Int×Int×Bool))×Nat)=>D8 N ab n y.1 y.2.1 y.2.2.1) (λy=>⟨[(0,.own (501,5) y.2.2.1.length),(1,.clo (.func 190) [] [.box (0,16) 0]),(5,.i y.1),(6,.i y.2.1)],[(.c (0,16) 0,.i ab),(.a (501,5),EH y.2.2.1),(.c (503,5) 0,Ap ai),(.c (503,5) 1,.own (501,5) y.2.2.1.length),(.c (0,7) 0,.i 2),(.c (0,7) 1,.i a4),(.c (0,7) 2,.i a5),(.c (0,7) 3,.i a6),(.c (0,7) 4,BP a7),(.c (0,7) 5,.i a8),(.c (0,7) 6,.i a9),(.c (0,7) 7,.i ab),(.c (0,7) 8,.i av),(.c (0,7) 9,.i au),(.c (0,7) 10,.i aq),(.c (0,7) 11,.i an),(.c (0,7) 12,.i am),(.c (0,7) 13,.i ak),(.c (0,7) 14,.b aj),(.c (105,2) 0,.clo (.func 139) [] []),(.c (105,2) 1,.clo (.func 141) [] []),(.c (105,2) 2,.clo (.func 142) [] []),(.c (105,2) 3,.clo (.func 145) [] []),(.c (105,2) 4,.clo (.func 149) [] []),(.c (3,1) 0,.i 0),(.c (2,1) 0,.sl 0 true [] []),(.c (2,1) 1,.sl 0 true [] []),(.c (1,1) 0,.i 2),(.c (1,1) 1,.i a4),(.c (1,1) 2,.i a5),(.c (1,1) 3,.i a6),(.c (1,1) 4,BP a7),(.c (1,1) 5,.i a8),(.c (1,1) 6,.i a9),(.c (1,1) 7,.i ab),(.c (1,1) 8,.i av),(.c (1,1) 9,.i au),(.c (1,1) 10,.i aq),(.c (1,1) 11,.i an),(.c (1,1) 12,.i am),(.c (1,1) 13,.i ak),(.c (1,1) 14,.b aj),(.c (0,1) 0,Ap ae),(.c (0,1) 1,AS from2)],y.2.2.2⟩) (ah,ah+1,from2,21) cj (Ch F) ?_;rintro n ⟨i53,af,l55,bm⟩ aa;simp only[D8]at aa;refine An hS F aa (λ_ aa=>?_) (λ_ aa=>?_)
     ·obtain⟨⟨x56,x57,x58,x59,x60⟩,bl,aa⟩:=un aa;obtain⟨ci,F⟩:=Cb BZ bl F;obtain⟨br,ba,aa⟩:=un aa;replace F:=fc ba F;refine An hS F aa (λ_ aa=>?_) (λ_ aa=>?_)
      ·obtain⟨⟨x70,x71,x72,x73,x74⟩,bj,aa⟩:=un aa;obtain⟨ce,F⟩:=Cb BZ bj F;obtain⟨cq,co,aa⟩:=un aa;exact Cd hS F (n,i53+1,af+1,l55.set i53.toNat (x56,x57,x58,x59,x60),bm+1+1+1+1+1+1) aa
      ·obtain⟨cn,aa⟩:=un aa;exact Cd hS F (n,i53,af+1,l55,bm+1+1+1+1) aa
     ·exact B4 hS F (i53,l55,bm+1) aa
    ·rintro⟨i81,l82,cz⟩ rfl;obtain⟨bz,h⟩:=un h;refine go hS F ?_;refine Wl (Ctx.fn_ok hS) 2 rfl rfl rfl (ev F) (ev F) (ev F) (ev F) (ev F) (ev F) (by simp only[qI];omega) rfl rfl ?_;replace F:=fc (Wv BZ bz) F;obtain⟨b9,bq,az,h⟩:=un h;replace F:=fc az F;refine go hS F ?_;refine BN hS 5 x77.hf x77.hc x77.hn x77.ok rfl (ev F) (ev F) ?_ rfl (ev F) (oL rfl) λhb=>?_
     ·exact Bl hS F
     dsimp only[x77,Ah];refine An hS F h (λ_ h=>?_) (λ_ h=>?_)
     ·refine go hS F ?_;refine Bf (Ctx.fn_ok hS) 2 rfl rfl (ev F) (ev F) (ev F) ?_
      repeat' (first|with_reducible (first|apply A8|apply A9|apply Bh|apply AR|apply Bx)|((with_reducible apply A4);(·simp)))
      exact IQ hS F h
     ·obtain⟨bn,ay,b7,h⟩:=un h;exact SJ hS (fc ay F) h
end
section
attribute [local irreducible] Ax BO BB Bj BC Bk AY BD BK Cq
attribute [local irreducible] E3
attribute [local go_sem] kF Nj JT JU qU yU oI qv K2 List.map_replicate List.map_set
def D9(N:Nat)(ak:Int):Nat->Int->Int->(List (Int×Int×Int×Int×Bool))->Option (Int×(List (Int×Int×Int×Int×Bool)))|0,_,_,_=>none|n+1,i158,ai,l160=>bif decide (ai<(l160.length:Int))then((A7 l160 ai).bind λ(AjW,Akc,Akd,Ake,x165)=>(CF N AjW Akc Akd Ake x165 ak).bind λci=>bif !ci then((A7 l160 i158).bind λ(x175,ej,Ak2,Ak3,Ak4)=>gd (Af (i158+1))<|gd (Af (ai+1))<|D9 N ak n (i158+1) (ai+1) (l160.set i158.toNat (AjW,Akc,Akd,Ake,x165)))else(gd (Af (ai+1))<|D9 N ak n i158 (ai+1) l160))else(some (i158,l160))
def IW(N:Nat)(aj:List (Int×Int×Int×(List (Int×Int))×Int×Int))(from89:List (Int×Int×Int×Int×Bool))(bf:Int)(bu:Int)(br:Int)(bq:List (Int×Int))(bp:Int)(bo:Int)(ak:Int)(bn:Int)(bm:Int)(ay:Int)(av:Int)(au:Int)(aq:Int)(an:Bool):Option (((List (Int×Int×Int×(List (Int×Int))×Int×Int))×(List (Int×Int×Int×Int×Bool)))×Int):=(Fl N bf bu br bq bp bo ak bn bm ay av au aq an).bind λcz=>bif !cz then(some (([],[]),170))else((Ge N aj).bind λbg=>gd (from89.length*40<=140737488355328)<|(Dk N bg ak).bind λ((be,ah,af,cy,ae,ab),bj)=>bif bj then((Id N cy bn bm).bind λ(bb,ba,cu)=>bif !(decide (cu=0))then(some (([],[]),170))else((FY N bg ak).bind λ(az,cr)=>bif !(decide (cr=0))then(some (([],[]),170))else((Bt N from89 ak).bind λam=>bif decide (am=(-1))then((Fd N az be ah af bb ae ab).bind λ(cq,co)=>bif !(decide (co=0))then(some (([],[]),170))else((Fd N cq bf ah af ba ae ab).bind λ(bi,cn)=>bif !(decide (cn=0))then(some (([],[]),170))else((CV N bi from89).bind λcj=>bif !cj then(some (([],[]),170))else((Ge N bi).bind λbw=>gd (from89.length*40<=140737488355328)<|some ((bw,from89),0)))))else(gd (Af (am+1))<|(D9 N ak N am (am+1) from89).bind λ(i186,l187)=>gd (0<=i186/\i186<=(l187.length:Int))<|gd (0<=0/\0<=i186/\i186<=((l187.take i186.toNat++(List.replicate (l187.length-i186.toNat) (0,0,0,0,false):List (Int×Int×Int×Int×Bool))).length:Int))<|(Fd N az be ah af bb ae ab).bind λ(ce,b9)=>bif !(decide (b9=0))then(some (([],[]),170))else((Fd N ce bf ah af ba ae ab).bind λ(bh,b7)=>bif !(decide (b7=0))then(some (([],[]),170))else((CV N bh (l187.take i186.toNat)).bind λbz=>bif !bz then(some (([],[]),170))else((Ge N bh).bind λbv=>gd ((l187.take i186.toNat).length*40<=140737488355328)<|some ((bv,l187.take i186.toNat),0))))))))else(some (([],[]),170)))
@[go_sem] def AaN(N:Nat):Spec:=p0<|(Aoh<|qD Ak<|qD AA<|Aof<|Aoh<|Aoe 3<|Aoi<|Aoi<|Aoi<|qD Aq<|Aoi<|Aoi<|Aoi<|Aoi<|Aoi<|Aoi<|Aoi<|Aoi<|Aoi<|Aod<|Aof<|Aof<|Aog (([],[]),0) λr=>.tup [.agg [Ap r.1.1,AS r.1.2],.i r.2]) (IW N)
theorem lH(N:Nat):AG Tryz.prog 57 (AaN N):=by
 refine fk (Aop x57 (BG (Ab (Nn N)<|Ab (yL N)<|Ab (Wn N)<|Ab (Rh N)<|Ab (Wm N)<|Ab (NY N)<|Ab (Wu N)<|Aj) (L3 N) (CP N) H3 (H2 N))) ?_;intro aj from89 bf bu br bq bp bo ak bn bm ay av au aq an r h hb hS F;dsimp only[x57,Ah,Aq,AA,Ak];have hOK:=Ctx.fd_ok (nt:=38) (hb:=hb) hS;unfold IW at h;obtain⟨cz,d9,h⟩:=un h;replace F:=fc d9 F;refine An hS F h (λ_ h=>?_) (λ_ h=>?_)
 ·exact Ug hS F h
 ·refine go hS F ?_;refine JH hS 1 rfl rfl (ev F) yT (ev F) (ev F) ?_;obtain⟨bg,d8,gc,h⟩:=un h;replace F:=fc d8 F;refine go hS F ?_;refine BN hS 4 x152.hf x152.hc x152.hn x152.ok rfl (ev F) (ev F) ?_ rfl (ev F) (oL rfl) λhb=>?_
  ·exact Bl hS F
  dsimp only[x152,Ah];obtain⟨⟨⟨be,ah,af,cy,ae,ab⟩,bj⟩,d7,h⟩:=un h;replace F:=fc d7 F;refine go hS F ?_;cases ei:bj with
  |false=>
   replace F:=fc ei F;replace h:=We ei h;refine PQ (p:=Qe) (Ctx.fn_ok hS) F 3 ?_
   repeat' (first|with_reducible (first|apply A8|apply A9|apply Bh|apply AR|apply Bx)|((with_reducible apply A4);(·simp)))
   exact IQ hS F h
  |true=>
   replace F:=fc ei F;replace h:=Wd ei h;obtain⟨⟨bb,ba,cu⟩,dz,h⟩:=un h;replace F:=fc dz F;refine go hS F ?_;refine AZ hS 2 x77.hf x77.hc x77.hn x77.ok rfl (ev F) (ev F) ?_ rfl (ev F) (oL rfl) λhb=>?_
   ·exact Bl hS F
   dsimp only[x77,Ah];refine An hS F h (λ_ h=>?_) (λ_ h=>?_)
   ·refine go hS F ?_;refine Bf (Ctx.fn_ok hS) 2 rfl rfl (ev F) (ev F) (ev F) ?_
    repeat' (first|with_reducible (first|apply A8|apply A9|apply Bh|apply AR|apply Bx)|((with_reducible apply A4);(·simp)))
    exact IQ hS F h
   ·refine go hS F ?_;refine AZ hS 3 x143.hf x143.hc x143.hn x143.ok rfl (ev F) (ev F) ?_ rfl (ev F) (oL rfl) λhb=>?_
    ·exact Bl hS F
    dsimp only[x143,Ah];obtain⟨⟨az,cr⟩,dw,h⟩:=un h;replace F:=fc dw F;refine go hS F ?_;refine AZ hS 2 x77.hf x77.hc x77.hn x77.ok rfl (ev F) (ev F) ?_ rfl (ev F) (oL rfl) λhb=>?_
    ·exact Bl hS F
    dsimp only[x77,Ah];refine An hS F h (λ_ h=>?_) (λ_ h=>?_)
    ·refine go hS F ?_;refine Bf (Ctx.fn_ok hS) 2 rfl rfl (ev F) (ev F) (ev F) ?_
     repeat' (first|with_reducible (first|apply A8|apply A9|apply Bh|apply AR|apply Bx)|((with_reducible apply A4);(·simp)))
     exact IQ hS F h
    ·refine go hS F ?_;refine AZ hS 3 x144.hf x144.hc x144.hn x144.ok rfl (ev F) (ev F) ?_ rfl (ev F) (oL rfl) λhb=>?_
     ·exact Bl hS F
     dsimp only[x144,Ah];refine go hS F ?_;refine AZ hS 7 x189.hf x189.hc x189.hn x189.ok rfl (ev F) (ev F) ?_ rfl (ev F) (oL rfl) λhb=>?_
     ·exact Bl hS F
     dsimp only[x189,Ah];obtain⟨am,du,h⟩:=un h;replace F:=fc du F;refine An hS F h (λ_ h=>?_) (λ_ h=>?_)
     ·refine go hS F ?_;refine AZ hS 2 x134.hf x134.hc x134.hn x134.ok rfl (ev F) (ev F) ?_ rfl (ev F) (oL rfl) λhb=>?_
      ·exact Bl hS F
      dsimp only[x134,Ah];obtain⟨⟨cq,co⟩,dt,h⟩:=un h;replace F:=fc dt F;refine go hS F ?_;refine AZ hS 2 x77.hf x77.hc x77.hn x77.ok rfl (ev F) (ev F) ?_ rfl (ev F) (oL rfl) λhb=>?_
      ·exact Bl hS F
      dsimp only[x77,Ah];refine An hS F h (λ_ h=>?_) (λ_ h=>?_)
      ·refine go hS F ?_;refine Bf (Ctx.fn_ok hS) 2 rfl rfl (ev F) (ev F) (ev F) ?_
       repeat' (first|with_reducible (first|apply A8|apply A9|apply Bh|apply AR|apply Bx)|((with_reducible apply A4);(·simp)))
       exact IQ hS F h
      ·refine go hS F ?_;refine AZ hS 2 x134.hf x134.hc x134.hn x134.ok rfl (ev F) (ev F) ?_ rfl (ev F) (oL rfl) λhb=>?_
       ·exact Bl hS F
       dsimp only[x134,Ah];obtain⟨⟨bi,cn⟩,dq,h⟩:=un h;replace F:=fc dq F;refine go hS F ?_;refine AZ hS 2 x77.hf x77.hc x77.hn x77.ok rfl (ev F) (ev F) ?_ rfl (ev F) (oL rfl) λhb=>?_
       ·exact Bl hS F
       dsimp only[x77,Ah];refine An hS F h (λ_ h=>?_) (λ_ h=>?_)
       ·refine go hS F ?_;refine Bf (Ctx.fn_ok hS) 2 rfl rfl (ev F) (ev F) (ev F) ?_
        repeat' (first|with_reducible (first|apply A8|apply A9|apply Bh|apply AR|apply Bx)|((with_reducible apply A4);(·simp)))
        exact IQ hS F h
       ·obtain⟨cj,dm,h⟩:=un h;replace F:=fc dm F;refine go hS F ?_;refine BN hS 5 x77.hf x77.hc x77.hn x77.ok rfl (ev F) (ev F) ?_ rfl (ev F) (oL rfl) λhb=>?_
        ·exact Bl hS F
        dsimp only[x77,Ah];refine An hS F h (λ_ h=>?_) (λ_ h=>?_)
        ·refine go hS F ?_;refine Bf (Ctx.fn_ok hS) 2 rfl rfl (ev F) (ev F) (ev F) ?_
         repeat' (first|with_reducible (first|apply A8|apply A9|apply Bh|apply AR|apply Bx)|((with_reducible apply A4);(·simp)))
         exact IQ hS F h
        ·obtain⟨bw,dl,fx,h⟩:=un h;exact SJ hS (fc dl F) h
     ·obtain⟨fr,h⟩:=un h;obtain⟨ep,fj,h⟩:=un h;refine go hS F ?_;refine Bz ep (λz:Int×(List (Int×Int×Int×Int×Bool))×Nat=>⟨[(0,.own (501,5) z.2.1.length),(5,.i z.1)],[(.c (0,24) 0,.i ak),(.a (501,5),EH z.2.1),(.c (503,5) 0,Ap az),(.c (503,5) 1,.own (501,5) z.2.1.length),(.c (0,7) 0,.i 3),(.c (0,7) 1,.i bf),(.c (0,7) 2,.i bu),(.c (0,7) 3,.i br),(.c (0,7) 4,BP bq),(.c (0,7) 5,.i bp),(.c (0,7) 6,.i bo),(.c (0,7) 7,.i ak),(.c (0,7) 8,.i bn),(.c (0,7) 9,.i bm),(.c (0,7) 10,.i ay),(.c (0,7) 11,.i av),(.c (0,7) 12,.i au),(.c (0,7) 13,.i aq),(.c (0,7) 14,.b an),(.c (201,9) 0,.i bf),(.c (201,9) 1,.i ah),(.c (201,9) 2,.i af),(.c (201,9) 3,BP ba),(.c (201,9) 4,.i ae),(.c (201,9) 5,.i ab),(.c (104,8) 0,.i be),(.c (104,8) 1,.i ah),(.c (104,8) 2,.i af),(.c (104,8) 3,BP bb),(.c (104,8) 4,.i ae),(.c (104,8) 5,.i ab),(.c (105,2) 0,.clo (.func 150) [] []),(.c (105,2) 1,.clo (.func 151) [] []),(.c (105,2) 2,.clo (.func 152) [] []),(.c (105,2) 3,.v .nilFunc),(.c (105,2) 4,.clo (.func 154) [] []),(.c (3,1) 0,.i 0),(.c (2,1) 0,.sl 0 true [] []),(.c (2,1) 1,.sl 0 true [] []),(.c (1,1) 0,.i 3),(.c (1,1) 1,.i bf),(.c (1,1) 2,.i bu),(.c (1,1) 3,.i br),(.c (1,1) 4,BP bq),(.c (1,1) 5,.i bp),(.c (1,1) 6,.i bo),(.c (1,1) 7,.i ak),(.c (1,1) 8,.i bn),(.c (1,1) 9,.i bm),(.c (1,1) 10,.i ay),(.c (1,1) 11,.i av),(.c (1,1) 12,.i au),(.c (1,1) 13,.i aq),(.c (1,1) 14,.b an),(.c (0,1) 0,Ap aj),(.c (0,1) 1,AS from89)],z.2.2⟩) (λz=>((z.1,z.2.1):Int×(List (Int×Int×Int×Int×Bool)))) (.x 0) ?_ ?_
      ·refine Bp (λn (y:Int×Int×(List (Int×Int×Int×Int×Bool))×Nat)=>D9 N ak n y.1 y.2.1 y.2.2.1) (λy=>⟨[(0,.own (501,5) y.2.2.1.length),(1,.clo (.func 190) [] [.box (0,24) 0]),(5,.i y.1),(6,.i y.2.1)],[(.c (0,24) 0,.i ak),(.a (501,5),EH y.2.2.1),(.c (503,5) 0,Ap az),(.c (503,5) 1,.own (501,5) y.2.2.1.length),(.c (0,7) 0,.i 3),(.c (0,7) 1,.i bf),(.c (0,7) 2,.i bu),(.c (0,7) 3,.i br),(.c (0,7) 4,BP bq),(.c (0,7) 5,.i bp),(.c (0,7) 6,.i bo),(.c (0,7) 7,.i ak),(.c (0,7) 8,.i bn),(.c (0,7) 9,.i bm),(.c (0,7) 10,.i ay),(.c (0,7) 11,.i av),(.c (0,7) 12,.i au),(.c (0,7) 13,.i aq),(.c (0,7) 14,.b an),(.c (201,9) 0,.i bf),(.c (201,9) 1,.i ah),(.c (201,9) 2,.i af),(.c (201,9) 3,BP ba),(.c (201,9) 4,.i ae),(.c (201,9) 5,.i ab),(.c (104,8) 0,.i be),(.c (104,8) 1,.i ah),(.c (104,8) 2,.i af),(.c (104,8) 3,BP bb),(.c (104,8) 4,.i ae),(.c (104,8) 5,.i ab),(.c (105,2) 0,.clo (.func 150) [] []),(.c (105,2) 1,.clo (.func 151) [] []),(.c (105,2) 2,.clo (.func 152) [] []),(.c (105,2) 3,.v .nilFunc),(.c (105,2) 4,.clo (.func 154) [] []),(.c (3,1) 0,.i 0),(.c (2,1) 0,.sl 0 true [] []),(.c (2,1) 1,.sl 0 true [] []),(.c (1,1) 0,.i 3),(.c (1,1) 1,.i bf),(.c (1,1) 2,.i bu),(.c (1,1) 3,.i br),(.c (1,1) 4,BP bq),(.c (1,1) 5,.i bp),(.c (1,1) 6,.i bo),(.c (1,1) 7,.i ak),(.c (1,1) 8,.i bn),(.c (1,1) 9,.i bm),(.c (1,1) 10,.i ay),(.c (1,1) 11,.i av),(.c (1,1) 12,.i au),(.c (1,1) 13,.i aq),(.c (1,1) 14,.b an),(.c (0,1) 0,Ap aj),(.c (0,1) 1,AS from89)],y.2.2.2⟩) (am,am+1,from89,29) fj (Ch F) ?_;rintro n ⟨i158,ai,l160,bl⟩ aa;simp only[D9]at aa;refine An hS F aa (λ_ aa=>?_) (λ_ aa=>?_)
       ·obtain⟨⟨AjW,Akc,Akd,Ake,x165⟩,eh,aa⟩:=un aa;obtain⟨e9,F⟩:=Cb BZ eh F;obtain⟨ci,dh,aa⟩:=un aa;replace F:=fc dh F;refine An hS F aa (λ_ aa=>?_) (λ_ aa=>?_)
        ·obtain⟨⟨x175,ej,Ak2,Ak3,Ak4⟩,ee,aa⟩:=un aa;obtain⟨e8,F⟩:=Cb BZ ee F;obtain⟨fq,fp,aa⟩:=un aa;exact Cd hS F (n,i158+1,ai+1,l160.set i158.toNat (AjW,Akc,Akd,Ake,x165),bl+1+1+1+1+1+1) aa
        ·obtain⟨fo,aa⟩:=un aa;exact Cd hS F (n,i158,ai+1,l160,bl+1+1+1+1) aa
       ·exact B4 hS F (i158,l160,bl+1) aa
      ·rintro⟨i186,l187,fm⟩ rfl;obtain⟨ez,h⟩:=un h;refine go hS F ?_;refine Wl (Ctx.fn_ok hS) 2 rfl rfl rfl (ev F) (ev F) (ev F) (ev F) (ev F) (ev F) (by simp only[qI];omega) rfl rfl ?_;replace F:=fc (Wv BZ ez) F;obtain⟨fh,h⟩:=un h;refine go hS F ?_;refine AZ hS 2 x134.hf x134.hc x134.hn x134.ok rfl (ev F) (ev F) ?_ rfl (ev F) (oL rfl) λhb=>?_
       ·exact Bl hS F
       dsimp only[x134,Ah];obtain⟨⟨ce,b9⟩,dg,h⟩:=un h;replace F:=fc dg F;refine go hS F ?_;refine AZ hS 2 x77.hf x77.hc x77.hn x77.ok rfl (ev F) (ev F) ?_ rfl (ev F) (oL rfl) λhb=>?_
       ·exact Bl hS F
       dsimp only[x77,Ah];refine An hS F h (λ_ h=>?_) (λ_ h=>?_)
       ·refine go hS F ?_;refine Bf (Ctx.fn_ok hS) 2 rfl rfl (ev F) (ev F) (ev F) ?_
        repeat' (first|with_reducible (first|apply A8|apply A9|apply Bh|apply AR|apply Bx)|((with_reducible apply A4);(·simp)))
        exact IQ hS F h
       ·refine go hS F ?_;refine AZ hS 2 x134.hf x134.hc x134.hn x134.ok rfl (ev F) (ev F) ?_ rfl (ev F) (oL rfl) λhb=>?_
        ·exact Bl hS F
        dsimp only[x134,Ah];obtain⟨⟨bh,b7⟩,de,h⟩:=un h;replace F:=fc de F;refine go hS F ?_;refine AZ hS 2 x77.hf x77.hc x77.hn x77.ok rfl (ev F) (ev F) ?_ rfl (ev F) (oL rfl) λhb=>?_
        ·exact Bl hS F
        dsimp only[x77,Ah];refine An hS F h (λ_ h=>?_) (λ_ h=>?_)
        ·refine go hS F ?_;refine Bf (Ctx.fn_ok hS) 2 rfl rfl (ev F) (ev F) (ev F) ?_
         repeat' (first|with_reducible (first|apply A8|apply A9|apply Bh|apply AR|apply Bx)|((with_reducible apply A4);(·simp)))
         exact IQ hS F h
        ·obtain⟨bz,db,h⟩:=un h;replace F:=fc db F;refine go hS F ?_;refine BN hS 5 x77.hf x77.hc x77.hn x77.ok rfl (ev F) (ev F) ?_ rfl (ev F) (oL rfl) λhb=>?_
         ·exact Bl hS F
         dsimp only[x77,Ah];refine An hS F h (λ_ h=>?_) (λ_ h=>?_)
         ·refine go hS F ?_;refine Bf (Ctx.fn_ok hS) 2 rfl rfl (ev F) (ev F) (ev F) ?_
          repeat' (first|with_reducible (first|apply A8|apply A9|apply Bh|apply AR|apply Bx)|((with_reducible apply A4);(·simp)))
          exact IQ hS F h
         ·obtain⟨bv,da,fg,h⟩:=un h;exact SJ hS (fc da F) h
end
section
attribute [local irreducible] Ax BO BB Bj BC Bk AY BD BK Cq
attribute [local irreducible] E3
attribute [local go_sem] kF Nj JT JU qU yU oI qv K2 List.map_replicate List.map_set
def IX(N:Nat)(aa:List (Int×Int×Int×(List (Int×Int))×Int×Int))(from228:List (Int×Int×Int×Int×Bool))(cu:Int)(cr:Int)(cq:Int)(co:List (Int×Int))(cn:Int)(cj:Int)(ab:Int)(ai:Int)(ah:Int)(ci:Int)(ce:Int)(b9:Int)(b7:Int)(bz:Bool):Option (((List (Int×Int×Int×(List (Int×Int))×Int×Int))×(List (Int×Int×Int×Int×Bool)))×Int):=(Fm N cu cr cq co cn cj ab ai ah ci ce b9 b7 bz).bind λbm=>bif !bm then(some (([],[]),170))else((Ge N aa).bind λae=>gd (from228.length*40<=140737488355328)<|(Dk N ae ab).bind λ((bl,bj,bi,bh,bg,bf),af)=>bif af then((FR N bl bj bi bh bg bf ai ah).bind λ((be,bb,ba,az,ay,av),au)=>bif !(decide (au=0))then(some (([],[]),170))else((FY N ae ab).bind λ(aq,an)=>bif !(decide (an=0))then(some (([],[]),170))else((Fd N aq be bb ba az ay av).bind λ(r267,am)=>bif !(decide (am=0))then(some (([],[]),170))else((CV N r267 from228).bind λak=>bif !ak then(some (([],[]),170))else((Ge N r267).bind λaj=>gd (from228.length*40<=140737488355328)<|some ((aj,from228),0))))))else(some (([],[]),170)))
@[go_sem] def AaO(N:Nat):Spec:=p0<|(Aoh<|qD Ak<|qD AA<|Aof<|Aoh<|Aoe 4<|Aoi<|Aoi<|Aoi<|qD Aq<|Aoi<|Aoi<|Aoi<|Aoi<|Aoi<|Aoi<|Aoi<|Aoi<|Aoi<|Aod<|Aof<|Aof<|Aog (([],[]),0) λr=>.tup [.agg [Ap r.1.1,AS r.1.2],.i r.2]) (IX N)
theorem lI(N:Nat):AG Tryz.prog 57 (AaO N):=by
 refine fk (Aop x57 (BG (Ab (No N)<|Ab (nQ N)<|Ab (Wn N)<|Ab (Wm N)<|Ab (NY N)<|Aj) (L3 N) (CP N) H3 (H2 N))) ?_;intro aa from228 cu cr cq co cn cj ab ai ah ci ce b9 b7 bz r h hb hS F;dsimp only[x57,Ah,Aq,AA,Ak];have hOK:=Ctx.fd_ok (nt:=38) (hb:=hb) hS;unfold IX at h;obtain⟨bm,bw,h⟩:=un h;replace F:=fc bw F;refine An hS F h (λ_ h=>?_) (λ_ h=>?_)
 ·exact Ug hS F h
 ·refine go hS F ?_;refine JH hS 1 rfl rfl (ev F) yT (ev F) (ev F) ?_;obtain⟨ae,bv,da,h⟩:=un h;replace F:=fc bv F;refine go hS F ?_;refine BN hS 4 x157.hf x157.hc x157.hn x157.ok rfl (ev F) (ev F) ?_ rfl (ev F) (oL rfl) λhb=>?_
  ·exact Bl hS F
  dsimp only[x157,Ah];obtain⟨⟨⟨bl,bj,bi,bh,bg,bf⟩,af⟩,bu,h⟩:=un h;replace F:=fc bu F;refine go hS F ?_;cases cy:af with
  |false=>
   replace F:=fc cy F;replace h:=We cy h;replace F:=fc (Aad N) F;refine vA (p:=Qe) (Ctx.fn_ok hS) F 3 (.agg [.i 0,.i 0,.i 0,.sl 2 false [] [.i 0,.i 0],.i 0,.i 0]) ?_
   repeat' (first|with_reducible (first|apply A8|apply A9|apply Bh|apply AR|apply Bx)|((with_reducible apply A4);(·simp)))
   exact IQ hS F h
  |true=>
   replace F:=fc cy F;replace h:=Wd cy h;obtain⟨⟨⟨be,bb,ba,az,ay,av⟩,au⟩,br,h⟩:=un h;replace F:=fc br F;refine go hS F ?_;refine AZ hS 2 x77.hf x77.hc x77.hn x77.ok rfl (ev F) (ev F) ?_ rfl (ev F) (oL rfl) λhb=>?_
   ·exact Bl hS F
   dsimp only[x77,Ah];refine An hS F h (λ_ h=>?_) (λ_ h=>?_)
   ·refine go hS F ?_;refine Bf (Ctx.fn_ok hS) 2 rfl rfl (ev F) (ev F) (ev F) ?_
    repeat' (first|with_reducible (first|apply A8|apply A9|apply Bh|apply AR|apply Bx)|((with_reducible apply A4);(·simp)))
    exact IQ hS F h
   ·refine go hS F ?_;refine AZ hS 3 x143.hf x143.hc x143.hn x143.ok rfl (ev F) (ev F) ?_ rfl (ev F) (oL rfl) λhb=>?_
    ·exact Bl hS F
    dsimp only[x143,Ah];obtain⟨⟨aq,an⟩,bq,h⟩:=un h;replace F:=fc bq F;refine go hS F ?_;refine AZ hS 2 x77.hf x77.hc x77.hn x77.ok rfl (ev F) (ev F) ?_ rfl (ev F) (oL rfl) λhb=>?_
    ·exact Bl hS F
    dsimp only[x77,Ah];refine An hS F h (λ_ h=>?_) (λ_ h=>?_)
    ·refine go hS F ?_;refine Bf (Ctx.fn_ok hS) 2 rfl rfl (ev F) (ev F) (ev F) ?_
     repeat' (first|with_reducible (first|apply A8|apply A9|apply Bh|apply AR|apply Bx)|((with_reducible apply A4);(·simp)))
     exact IQ hS F h
    ·refine go hS F ?_;refine AZ hS 2 x134.hf x134.hc x134.hn x134.ok rfl (ev F) (ev F) ?_ rfl (ev F) (oL rfl) λhb=>?_
     ·exact Bl hS F
     dsimp only[x134,Ah];obtain⟨⟨r267,am⟩,bp,h⟩:=un h;replace F:=fc bp F;refine go hS F ?_;refine AZ hS 2 x77.hf x77.hc x77.hn x77.ok rfl (ev F) (ev F) ?_ rfl (ev F) (oL rfl) λhb=>?_
     ·exact Bl hS F
     dsimp only[x77,Ah];refine An hS F h (λ_ h=>?_) (λ_ h=>?_)
     ·refine go hS F ?_;refine Bf (Ctx.fn_ok hS) 2 rfl rfl (ev F) (ev F) (ev F) ?_
      repeat' (first|with_reducible (first|apply A8|apply A9|apply Bh|apply AR|apply Bx)|((with_reducible apply A4);(·simp)))
      exact IQ hS F h
     ·obtain⟨ak,bo,h⟩:=un h;replace F:=fc bo F;refine go hS F ?_;refine BN hS 5 x77.hf x77.hc x77.hn x77.ok rfl (ev F) (ev F) ?_ rfl (ev F) (oL rfl) λhb=>?_
      ·exact Bl hS F
      dsimp only[x77,Ah];refine An hS F h (λ_ h=>?_) (λ_ h=>?_)
      ·refine go hS F ?_;refine Bf (Ctx.fn_ok hS) 2 rfl rfl (ev F) (ev F) (ev F) ?_
       repeat' (first|with_reducible (first|apply A8|apply A9|apply Bh|apply AR|apply Bx)|((with_reducible apply A4);(·simp)))
       exact IQ hS F h
      ·obtain⟨aj,bn,cz,h⟩:=un h;exact SJ hS (fc bn F) h
end
section
attribute [local irreducible] Ax BO BB Bj BC Bk AY BD BK Cq
attribute [local irreducible] E3
attribute [local go_sem] kF Nj JT JU qU yU oI qv K2 List.map_replicate List.map_set
def IY(N:Nat)(aa:List (Int×Int×Int×(List (Int×Int))×Int×Int))(from275:List (Int×Int×Int×Int×Bool))(bm:Int)(bl:Int)(bj:Int)(bi:List (Int×Int))(bh:Int)(bg:Int)(bf:Int)(be:Int)(bb:Int)(ab:Int)(ai:Int)(ah:Int)(af:Int)(ae:Bool):Option (((List (Int×Int×Int×(List (Int×Int))×Int×Int))×(List (Int×Int×Int×Int×Bool)))×Int):=(Fo N bm bl bj bi bh bg bf be bb ab ai ah af ae).bind λaq=>bif !aq then(some (([],[]),170))else((Ge N aa).bind λaj=>gd (from275.length*40<=140737488355328)<|(BE N from275 ab).bind λ(r295,an)=>bif !(!an)then(some (([],[]),170))else(gd (0<=r295/\r295<=(from275.length:Int))<|gd ((from275.length+1)*40<=140737488355328)<|(CV N aj (from275.take r295.toNat++[(ab,ai,ah,af,ae)]++from275.drop r295.toNat)).bind λam=>bif !am then(some (([],[]),170))else((Ge N aj).bind λak=>gd ((from275.take r295.toNat++[(ab,ai,ah,af,ae)]++from275.drop r295.toNat).length*40<=140737488355328)<|some ((ak,from275.take r295.toNat++[(ab,ai,ah,af,ae)]++from275.drop r295.toNat),0))))
@[go_sem] def AaP(N:Nat):Spec:=p0<|(Aoh<|qD Ak<|qD AA<|Aof<|Aoh<|Aoe 5<|Aoi<|Aoi<|Aoi<|qD Aq<|Aoi<|Aoi<|Aoi<|Aoi<|Aoi<|Aoi<|Aoi<|Aoi<|Aoi<|Aod<|Aof<|Aof<|Aog (([],[]),0) λr=>.tup [.agg [Ap r.1.1,AS r.1.2],.i r.2]) (IY N)
theorem lJ(N:Nat):AG Tryz.prog 57 (AaP N):=by
 refine fk (Aop x57 (BG (Ab (Np N)<|Ab (XJ N)<|Ab (NY N)<|Aj) (L3 N) (CP N) H3 (H2 N))) ?_;intro aa from275 bm bl bj bi bh bg bf be bb ab ai ah af ae r h hb hS F;dsimp only[x57,Ah,Aq,AA,Ak];have hOK:=Ctx.fd_ok (nt:=38) (hb:=hb) hS;unfold IY at h;obtain⟨aq,ba,h⟩:=un h;replace F:=fc ba F;refine An hS F h (λ_ h=>?_) (λ_ h=>?_)
 ·exact Ug hS F h
 ·refine go hS F ?_;refine JH hS 1 rfl rfl (ev F) yT (ev F) (ev F) ?_;obtain⟨aj,az,bq,h⟩:=un h;replace F:=fc az F;refine go hS F ?_;refine BN hS 4 x165.hf x165.hc x165.hn x165.ok rfl (ev F) (ev F) ?_ rfl (ev F) (oL rfl) λhb=>?_
  ·exact Bl hS F
  dsimp only[x165,Ah];obtain⟨⟨r295,an⟩,ay,h⟩:=un h;replace F:=fc ay F;refine go hS F ?_;refine AZ hS 2 x77.hf x77.hc x77.hn x77.ok rfl (ev F) (ev F) ?_ rfl (ev F) (oL rfl) λhb=>?_
  ·exact Bl hS F
  dsimp only[x77,Ah];refine An hS F h (λ_ h=>?_) (λ_ h=>?_)
  ·refine go hS F ?_;refine Bf (Ctx.fn_ok hS) 2 rfl rfl (ev F) (ev F) (ev F) ?_
   repeat' (first|with_reducible (first|apply A8|apply A9|apply Bh|apply AR|apply Bx)|((with_reducible apply A4);(·simp)))
   exact IQ hS F h
  ·obtain⟨bp,bo,am,av,h⟩:=un h;replace F:=fc av F;refine go hS F ?_;refine BN hS 5 x77.hf x77.hc x77.hn x77.ok rfl (ev F) (ev F) ?_ rfl (ev F) (oL rfl) λhb=>?_
   ·exact Bl hS F
   dsimp only[x77,Ah];refine An hS F h (λ_ h=>?_) (λ_ h=>?_)
   ·refine go hS F ?_;refine Bf (Ctx.fn_ok hS) 2 rfl rfl (ev F) (ev F) (ev F) ?_
    repeat' (first|with_reducible (first|apply A8|apply A9|apply Bh|apply AR|apply Bx)|((with_reducible apply A4);(·simp)))
    exact IQ hS F h
   ·obtain⟨ak,au,bn,h⟩:=un h;exact SJ hS (fc au F) h
end
section
attribute [local irreducible] Ax BO BB Bj BC Bk AY BD BK Cq
attribute [local irreducible] E3
attribute [local go_sem] kF Nj JT JU qU yU oI List.map_replicate List.map_set
def IZ(N:Nat)(aa:List (Int×Int×Int×(List (Int×Int))×Int×Int))(from247:List (Int×Int×Int×Int×Bool))(bq:Int)(bp:Int)(bo:Int)(bn:List (Int×Int))(bm:Int)(bl:Int)(aj:Int)(bj:Int)(bi:Int)(bh:Int)(bg:Int)(bf:Int)(be:Int)(bb:Bool):Option (((List (Int×Int×Int×(List (Int×Int))×Int×Int))×(List (Int×Int×Int×Int×Bool)))×Int):=(Fp N bq bp bo bn bm bl aj bj bi bh bg bf be bb).bind λan=>bif !an then(some (([],[]),170))else((Ge N aa).bind λai=>gd (from247.length*40<=140737488355328)<|(Bu N from247 aj).bind λr267=>gd ((decide (0<=r267))=true->(0<=r267/\r267<(from247.length:Int)))<|gd ((decide (0<=r267))=true->(0<=r267/\r267<(from247.length:Int)))<|bif !((decide (0<=r267))&&(((from247.getD r267.toNat (0,0,0,0,false)).2.2.2.2) !=false))then(some (([],[]),170))else((A7 from247 r267).bind λ(ah,af,ae,ab,br)=>(CV N ai (from247.set r267.toNat (ah,af,ae,ab,false))).bind λam=>bif !am then(some (([],[]),170))else((Ge N ai).bind λak=>gd ((from247.set r267.toNat (ah,af,ae,ab,false)).length*40<=140737488355328)<|some ((ak,from247.set r267.toNat (ah,af,ae,ab,false)),0))))
@[go_sem] def AaQ(N:Nat):Spec:=p0<|(Aoh<|qD Ak<|qD AA<|Aof<|Aoh<|Aoe 6<|Aoi<|Aoi<|Aoi<|qD Aq<|Aoi<|Aoi<|Aoi<|Aoi<|Aoi<|Aoi<|Aoi<|Aoi<|Aoi<|Aod<|Aof<|Aof<|Aog (([],[]),0) λr=>.tup [.agg [Ap r.1.1,AS r.1.2],.i r.2]) (IZ N)
theorem lK(N:Nat):AG Tryz.prog 57 (AaQ N):=by
 refine fk (Aop x57 (BG (Ab (Nq N)<|Ab (Ri N)<|Ab (NY N)<|Aj) (L3 N) (CP N) H3 (H2 N))) ?_;intro aa from247 bq bp bo bn bm bl aj bj bi bh bg bf be bb r h hb hS F;dsimp only[x57,Ah,Aq,AA,Ak];have hOK:=Ctx.fd_ok (nt:=38) (hb:=hb) hS;unfold IZ at h;obtain⟨an,az,h⟩:=un h;replace F:=fc az F;refine An hS F h (λ_ h=>?_) (λ_ h=>?_)
 ·exact Ug hS F h
 ·refine go hS F ?_;refine JH hS 1 rfl rfl (ev F) yT (ev F) (ev F) ?_;obtain⟨ai,ay,b7,h⟩:=un h;replace F:=fc ay F;refine go hS F ?_;refine BN hS 4 x170.hf x170.hc x170.hn x170.ok rfl (ev F) (ev F) ?_ rfl (ev F) (oL rfl) λhb=>?_
  ·exact Bl hS F
  dsimp only[x170,Ah];refine go hS F ?_;refine AZ hS 3 x171.hf x171.hc x171.hn x171.ok rfl (ev F) (ev F) ?_ rfl (ev F) (oL rfl) λhb=>?_
  ·exact Bl hS F
  dsimp only[x171,Ah];obtain⟨r267,av,bz,bw,h⟩:=un h;replace F:=fc av F;refine go hS F ?_;refine AZ hS 15 x77.hf x77.hc x77.hn x77.ok rfl (ev F) (ev F) ?_ rfl (ev F) (oL rfl) λhb=>?_
  ·exact Bl hS F
  dsimp only[x77,Ah];refine An hS F h (λ_ h=>?_) (λ_ h=>?_)
  ·refine go hS F ?_;refine Bf (Ctx.fn_ok hS) 2 rfl rfl (ev F) (ev F) (ev F) ?_
   repeat' (first|with_reducible (first|apply A8|apply A9|apply Bh|apply AR|apply Bx)|((with_reducible apply A4);(·simp)))
   exact IQ hS F h
  ·obtain⟨⟨ah,af,ae,ab,br⟩,ba,h⟩:=un h;obtain⟨bu,F⟩:=Cb BZ ba F;obtain⟨am,au,h⟩:=un h;replace F:=fc au F;refine go hS F ?_;refine BN hS 5 x77.hf x77.hc x77.hn x77.ok rfl (ev F) (ev F) ?_ rfl (ev F) (oL rfl) λhb=>?_
   ·exact Bl hS F
   dsimp only[x77,Ah];refine An hS F h (λ_ h=>?_) (λ_ h=>?_)
   ·refine go hS F ?_;refine Bf (Ctx.fn_ok hS) 2 rfl rfl (ev F) (ev F) (ev F) ?_
    repeat' (first|with_reducible (first|apply A8|apply A9|apply Bh|apply AR|apply Bx)|((with_reducible apply A4);(·simp)))
    exact IQ hS F h
   ·obtain⟨ak,aq,bv,h⟩:=un h;exact SJ hS (fc aq F) h
end
section
attribute [local irreducible] Ax BO BB Bj BC Bk AY BD BK Cq
attribute [local irreducible] E3
attribute [local go_sem] kF Nj JT JU qU yU oI List.map_replicate List.map_set
def I0(N:Nat)(aa:List (Int×Int×Int×(List (Int×Int))×Int×Int))(from280:List (Int×Int×Int×Int×Bool))(bq:Int)(bp:Int)(bo:Int)(bn:List (Int×Int))(bm:Int)(bl:Int)(aj:Int)(bj:Int)(bi:Int)(bh:Int)(bg:Int)(bf:Int)(be:Int)(bb:Bool):Option (((List (Int×Int×Int×(List (Int×Int))×Int×Int))×(List (Int×Int×Int×Int×Bool)))×Int):=(Fq N bq bp bo bn bm bl aj bj bi bh bg bf be bb).bind λan=>bif !an then(some (([],[]),170))else((Ge N aa).bind λai=>gd (from280.length*40<=140737488355328)<|(Bu N from280 aj).bind λr300=>gd ((decide (0<=r300))=true->(0<=r300/\r300<(from280.length:Int)))<|gd ((decide (0<=r300))=true->(0<=r300/\r300<(from280.length:Int)))<|bif !((decide (0<=r300))&&(((from280.getD r300.toNat (0,0,0,0,false)).2.2.2.2) !=true))then(some (([],[]),170))else((A7 from280 r300).bind λ(ah,af,ae,ab,br)=>(CV N ai (from280.set r300.toNat (ah,af,ae,ab,true))).bind λam=>bif !am then(some (([],[]),170))else((Ge N ai).bind λak=>gd ((from280.set r300.toNat (ah,af,ae,ab,true)).length*40<=140737488355328)<|some ((ak,from280.set r300.toNat (ah,af,ae,ab,true)),0))))
@[go_sem] def AaR(N:Nat):Spec:=p0<|(Aoh<|qD Ak<|qD AA<|Aof<|Aoh<|Aoe 7<|Aoi<|Aoi<|Aoi<|qD Aq<|Aoi<|Aoi<|Aoi<|Aoi<|Aoi<|Aoi<|Aoi<|Aoi<|Aoi<|Aod<|Aof<|Aof<|Aog (([],[]),0) λr=>.tup [.agg [Ap r.1.1,AS r.1.2],.i r.2]) (I0 N)
theorem lN(N:Nat):AG Tryz.prog 57 (AaR N):=by
 refine fk (Aop x57 (BG (Ab (Nr N)<|Ab (Ri N)<|Ab (NY N)<|Aj) (L3 N) (CP N) H3 (H2 N))) ?_;intro aa from280 bq bp bo bn bm bl aj bj bi bh bg bf be bb r h hb hS F;dsimp only[x57,Ah,Aq,AA,Ak];have hOK:=Ctx.fd_ok (nt:=38) (hb:=hb) hS;unfold I0 at h;obtain⟨an,az,h⟩:=un h;replace F:=fc az F;refine An hS F h (λ_ h=>?_) (λ_ h=>?_)
 ·exact Ug hS F h
 ·refine go hS F ?_;refine JH hS 1 rfl rfl (ev F) yT (ev F) (ev F) ?_;obtain⟨ai,ay,b7,h⟩:=un h;replace F:=fc ay F;refine go hS F ?_;refine BN hS 4 x173.hf x173.hc x173.hn x173.ok rfl (ev F) (ev F) ?_ rfl (ev F) (oL rfl) λhb=>?_
  ·exact Bl hS F
  dsimp only[x173,Ah];refine go hS F ?_;refine AZ hS 3 x171.hf x171.hc x171.hn x171.ok rfl (ev F) (ev F) ?_ rfl (ev F) (oL rfl) λhb=>?_
  ·exact Bl hS F
  dsimp only[x171,Ah];obtain⟨r300,av,bz,bw,h⟩:=un h;replace F:=fc av F;refine go hS F ?_;refine AZ hS 15 x77.hf x77.hc x77.hn x77.ok rfl (ev F) (ev F) ?_ rfl (ev F) (oL rfl) λhb=>?_
  ·exact Bl hS F
  dsimp only[x77,Ah];refine An hS F h (λ_ h=>?_) (λ_ h=>?_)
  ·refine go hS F ?_;refine Bf (Ctx.fn_ok hS) 2 rfl rfl (ev F) (ev F) (ev F) ?_
   repeat' (first|with_reducible (first|apply A8|apply A9|apply Bh|apply AR|apply Bx)|((with_reducible apply A4);(·simp)))
   exact IQ hS F h
  ·obtain⟨⟨ah,af,ae,ab,br⟩,ba,h⟩:=un h;obtain⟨bu,F⟩:=Cb BZ ba F;obtain⟨am,au,h⟩:=un h;replace F:=fc au F;refine go hS F ?_;refine BN hS 5 x77.hf x77.hc x77.hn x77.ok rfl (ev F) (ev F) ?_ rfl (ev F) (oL rfl) λhb=>?_
   ·exact Bl hS F
   dsimp only[x77,Ah];refine An hS F h (λ_ h=>?_) (λ_ h=>?_)
   ·refine go hS F ?_;refine Bf (Ctx.fn_ok hS) 2 rfl rfl (ev F) (ev F) (ev F) ?_
    repeat' (first|with_reducible (first|apply A8|apply A9|apply Bh|apply AR|apply Bx)|((with_reducible apply A4);(·simp)))
    exact IQ hS F h
   ·obtain⟨ak,aq,bv,h⟩:=un h;exact SJ hS (fc aq F) h
end
attribute [local irreducible] Ax BO BB Bj BC Bk AY BD BK Cq
attribute [local irreducible] E3
attribute [local go_sem] kF Nj JT JU qU yU oI qv K2 List.map_replicate List.map_set
def Kz(N:Nat)(aa:List (Int×Int×Int×(List (Int×Int))×Int×Int))(from2:List (Int×Int×Int×Int×Bool))(a3:Int)(a4:Int)(a5:Int)(a6:Int)(a7:List (Int×Int))(a8:Int)(a9:Int)(aq:Int)(an:Int)(am:Int)(ak:Int)(aj:Int)(ai:Int)(ah:Int)(af:Bool):Option (((List (Int×Int×Int×(List (Int×Int))×Int×Int))×(List (Int×Int×Int×Int×Bool)))×Int):=(Fr N a3 a4 a5 a6 a7 a8 a9 aq an am ak aj ai ah af).bind λae=>gd (ae=false)<|some (([],[]),170)
@[go_sem] def AaS(N:Nat):Spec:=p0<|(Aoh<|qD Ak<|qD AA<|Aof<|Aoh<|Aoi<|Aoi<|Aoi<|Aoi<|qD Aq<|Aoi<|Aoi<|Aoi<|Aoi<|Aoi<|Aoi<|Aoi<|Aoi<|Aoi<|Aod<|Aof<|Aof<|Aog (([],[]),0) λr=>.tup [.agg [Ap r.1.1,AS r.1.2],.i r.2]) (Kz N)
theorem lO(N:Nat):AG Tryz.prog 57 (AaS N):=by refine fk (Aop x57 (BG (Ab (Ns N)<|Aj) (L3 N) (CP N) H3 (H2 N))) ?_;intro aa from2 a3 a4 a5 a6 a7 a8 a9 aq an am ak aj ai ah af r h hb hS F;dsimp only[x57,Ah,Aq,AA,Ak];have hOK:=Ctx.fd_ok (nt:=38) (hb:=hb) hS;unfold Kz at h;obtain⟨ae,ab,au,h⟩:=un h;replace F:=fc au (fc ab F);refine Om hS F ?_;exact Ug hS F h
