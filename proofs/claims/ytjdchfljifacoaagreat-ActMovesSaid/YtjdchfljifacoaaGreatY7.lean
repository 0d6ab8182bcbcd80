import Derived.Test.YtjdchfljifacoaaGreatDh
set_option linter.all false
set_option maxRecDepth 100000
set_option maxHeartbeats 8000000
namespace Go.Proofs.YtjdchfljifacoaaGreat.Am
section
open Go
attribute [local irreducible] Ax BO BB Bj BC Bk AY BD BK Cq
attribute [local irreducible] E3
def Nh(N:Nat)(s1:List UInt8):Option ((Int×(Int×Int×Int×(List (Int×Int))×Int×Int)×Int×Int×Int×(Int×Int×Int×Int×Bool))×Int):=(B3 N s1 0).bind λ(r2,r3,r4)=>bif !(decide (r4=0))then(some ((0,(0,0,0,[],0,0),0,0,0,(0,0,0,0,false)),170))else(bif decide (r2=1)then((Mp N s1 r3).bind λ(ei,co,eh)=>bif !(decide (eh=0))then(some ((0,(0,0,0,[],0,0),0,0,0,(0,0,0,0,false)),170))else((Ed N ei).bind λ((bi,bh,bg,bf,be,bb),ee)=>bif !(decide (ee=0))then(some ((0,(0,0,0,[],0,0),0,0,0,(0,0,0,0,false)),170))else(gd ((decide (co=(s1.length:Int)))=true->((BF N r2 bi bh bg bf be bb 0 0 0 0 0 0 0 false).isSome=true))<|bif !((decide (co=(s1.length:Int)))&&((BF N r2 bi bh bg bf be bb 0 0 0 0 0 0 0 false).getD false))then(some ((0,(0,0,0,[],0,0),0,0,0,(0,0,0,0,false)),170))else(some ((r2,(bi,bh,bg,bf,be,bb),0,0,0,(0,0,0,0,false)),0)))))else(bif decide (r2=2)then((B3 N s1 r3).bind λ(ba,cn,d9)=>bif !(decide (d9=0))then(some ((0,(0,0,0,[],0,0),0,0,0,(0,0,0,0,false)),170))else(gd ((decide (cn=(s1.length:Int)))=true->((BF N r2 0 0 0 [] 0 0 ba 0 0 0 0 0 0 false).isSome=true))<|bif !((decide (cn=(s1.length:Int)))&&((BF N r2 0 0 0 [] 0 0 ba 0 0 0 0 0 0 false).getD false))then(some ((0,(0,0,0,[],0,0),0,0,0,(0,0,0,0,false)),170))else(some ((r2,(0,0,0,[],0,0),ba,0,0,(0,0,0,0,false)),0))))else(bif decide (r2=6)then((B3 N s1 r3).bind λ(az,ck,d8)=>bif !(decide (d8=0))then(some ((0,(0,0,0,[],0,0),0,0,0,(0,0,0,0,false)),170))else(gd ((decide (ck=(s1.length:Int)))=true->((BF N r2 0 0 0 [] 0 0 az 0 0 0 0 0 0 false).isSome=true))<|bif !((decide (ck=(s1.length:Int)))&&((BF N r2 0 0 0 [] 0 0 az 0 0 0 0 0 0 false).getD false))then(some ((0,(0,0,0,[],0,0),0,0,0,(0,0,0,0,false)),170))else(some ((r2,(0,0,0,[],0,0),az,0,0,(0,0,0,0,false)),0))))else(bif decide (r2=7)then((B3 N s1 r3).bind λ(ay,cj,d7)=>bif !(decide (d7=0))then(some ((0,(0,0,0,[],0,0),0,0,0,(0,0,0,0,false)),170))else(gd ((decide (cj=(s1.length:Int)))=true->((BF N r2 0 0 0 [] 0 0 ay 0 0 0 0 0 0 false).isSome=true))<|bif !((decide (cj=(s1.length:Int)))&&((BF N r2 0 0 0 [] 0 0 ay 0 0 0 0 0 0 false).getD false))then(some ((0,(0,0,0,[],0,0),0,0,0,(0,0,0,0,false)),170))else(some ((r2,(0,0,0,[],0,0),ay,0,0,(0,0,0,0,false)),0))))else(bif decide (r2=3)then((B3 N s1 r3).bind λ(aw,d6,d5)=>bif !(decide (d5=0))then(some ((0,(0,0,0,[],0,0),0,0,0,(0,0,0,0,false)),170))else((B3 N s1 d6).bind λ(av,dz,dw)=>bif !(decide (dw=0))then(some ((0,(0,0,0,[],0,0),0,0,0,(0,0,0,0,false)),170))else((B3 N s1 dz).bind λ(au,du,dt)=>bif !(decide (dt=0))then(some ((0,(0,0,0,[],0,0),0,0,0,(0,0,0,0,false)),170))else((B3 N s1 du).bind λ(aq,ci,dq)=>bif !(decide (dq=0))then(some ((0,(0,0,0,[],0,0),0,0,0,(0,0,0,0,false)),170))else(gd ((decide (ci=(s1.length:Int)))=true->((BF N r2 aq 0 0 [] 0 0 aw av au 0 0 0 0 false).isSome=true))<|bif !((decide (ci=(s1.length:Int)))&&((BF N r2 aq 0 0 [] 0 0 aw av au 0 0 0 0 false).getD false))then(some ((0,(0,0,0,[],0,0),0,0,0,(0,0,0,0,false)),170))else(some ((r2,(aq,0,0,[],0,0),aw,av,au,(0,0,0,0,false)),0)))))))else(bif decide (r2=4)then((B3 N s1 r3).bind λ(ak,ce,b9)=>bif !(decide (b9=0))then(some ((0,(0,0,0,[],0,0),0,0,0,(0,0,0,0,false)),170))else((B3 N s1 ce).bind λ(aj,b7,bz)=>bif !(decide (bz=0))then(some ((0,(0,0,0,[],0,0),0,0,0,(0,0,0,0,false)),170))else((B3 N s1 b7).bind λ(ai,an,bw)=>bif !(decide (bw=0))then(some ((0,(0,0,0,[],0,0),0,0,0,(0,0,0,0,false)),170))else(gd ((decide (an=(s1.length:Int)))=true->((BF N r2 0 0 0 [] 0 0 ak aj ai 0 0 0 0 false).isSome=true))<|bif !((decide (an=(s1.length:Int)))&&((BF N r2 0 0 0 [] 0 0 ak aj ai 0 0 0 0 false).getD false))then(some ((0,(0,0,0,[],0,0),0,0,0,(0,0,0,0,false)),170))else(some ((r2,(0,0,0,[],0,0),ak,aj,ai,(0,0,0,0,false)),0))))))else(bif decide (r2=5)then((B3 N s1 r3).bind λ(ah,bv,bu)=>bif !(decide (bu=0))then(some ((0,(0,0,0,[],0,0),0,0,0,(0,0,0,0,false)),170))else((B3 N s1 bv).bind λ(af,br,bq)=>bif !(decide (bq=0))then(some ((0,(0,0,0,[],0,0),0,0,0,(0,0,0,0,false)),170))else((B3 N s1 br).bind λ(ae,bp,bo)=>bif !(decide (bo=0))then(some ((0,(0,0,0,[],0,0),0,0,0,(0,0,0,0,false)),170))else((B3 N s1 bp).bind λ(ab,bn,bm)=>bif !(decide (bm=0))then(some ((0,(0,0,0,[],0,0),0,0,0,(0,0,0,0,false)),170))else((B3 N s1 bn).bind λ(aa,am,bl)=>bif !(decide (bl=0))then(some ((0,(0,0,0,[],0,0),0,0,0,(0,0,0,0,false)),170))else((BM N aa 0 1).bind λbj=>bif !bj then(some ((0,(0,0,0,[],0,0),0,0,0,(0,0,0,0,false)),170))else(gd ((decide (am=(s1.length:Int)))=true->((BF N r2 0 0 0 [] 0 0 0 0 0 ah af ae ab (decide (aa=1))).isSome=true))<|bif !((decide (am=(s1.length:Int)))&&((BF N r2 0 0 0 [] 0 0 0 0 0 ah af ae ab (decide (aa=1))).getD false))then(some ((0,(0,0,0,[],0,0),0,0,0,(0,0,0,0,false)),170))else(some ((r2,(0,0,0,[],0,0),0,0,0,(ah,af,ae,ab,decide (aa=1))),0)))))))))else(gd ((decide (r3=(s1.length:Int)))=true->((BF N r2 0 0 0 [] 0 0 0 0 0 0 0 0 0 false).isSome=true))<|bif !((decide (r3=(s1.length:Int)))&&((BF N r2 0 0 0 [] 0 0 0 0 0 0 0 0 0 false).getD false))then(some ((0,(0,0,0,[],0,0),0,0,0,(0,0,0,0,false)),170))else(some ((r2,(0,0,0,[],0,0),0,0,0,(0,0,0,0,false)),0))))))))))
@[go_sem] def s35(N:Nat):Spec:=p0<|pT λs1=>pE<|pF (Nh N s1) ((0,(0,0,0,[],0,0),0,0,0,(0,0,0,0,false)),0) λr=>.tup [.agg [.i r.1.1,.i r.1.2.1.1,.i r.1.2.1.2.1,.i r.1.2.1.2.2.1,BP r.1.2.1.2.2.2.1,.i r.1.2.1.2.2.2.2.1,.i r.1.2.1.2.2.2.2.2,.i r.1.2.2.1,.i r.1.2.2.2.1,.i r.1.2.2.2.2.1,.i r.1.2.2.2.2.2.1,.i r.1.2.2.2.2.2.2.1,.i r.1.2.2.2.2.2.2.2.1,.i r.1.2.2.2.2.2.2.2.2.1,.b r.1.2.2.2.2.2.2.2.2.2],.i r.2]
theorem AbZ(N:Nat):AG Tryz.prog 35 (s35 N):=by
 refine Ar x35.ok<|L1 λs1=>Ad<|As λr h=>SI x35 (Ab (Zx N)<|Ab (Acb N)<|Ab (AcK N)<|Ab (QT N)<|Ab (pX N)<|Aj) λhb hS F=>?_
 dsimp only[x35,Ah];have hOK:=Ctx.fd_ok (nt:=104) (hb:=hb) hS;unfold Nh at h;refine go hS F ?_;refine JH hS 1 rfl rfl (ev F) yT (ev F) (ev F) ?_;refine go hS F ?_;refine BN hS 1 x75.hf x75.hc x75.hn x75.ok rfl (ev F) (ev F) ?_ rfl (ev F) (qZ rfl) λhb=>?_
 ·exact Bl hS F
 dsimp only[x75,Ah];obtain⟨⟨r2,r3,r4⟩,gr,h⟩:=un h;replace F:=fc gr F;refine go hS F ?_;refine AZ hS 2 x77.hf x77.hc x77.hn x77.ok rfl (ev F) (ev F) ?_ rfl (ev F) (qZ rfl) λhb=>?_
 ·exact Bl hS F
 dsimp only[x77,Ah];refine An hS F h (λ_ h=>?_) (λ_ h=>?_)
 ·refine go hS F ?_;refine Bf (Ctx.fn_ok hS) 2 rfl rfl (ev F) (ev F) (ev F) ?_
  repeat' (first|with_reducible (first|apply A8|apply A9|apply Bh|apply AR|apply Bx)|((with_reducible apply A4);(·simp)))
  exact Gk hS F h
 ·refine An hS F h (λgg h=>?_) (λgg h=>?_)
  ·replace F:=fc gg F;obtain⟨⟨ei,co,eh⟩,fo,h⟩:=un h;replace F:=fc fo F;refine go hS F ?_;refine BN hS 2 x77.hf x77.hc x77.hn x77.ok rfl (ev F) (ev F) ?_ rfl (ev F) (qZ rfl) λhb=>?_
   ·exact Bl hS F
   dsimp only[x77,Ah];refine An hS F h (λ_ h=>?_) (λ_ h=>?_)
   ·refine go hS F ?_;refine Bf (Ctx.fn_ok hS) 2 rfl rfl (ev F) (ev F) (ev F) ?_
    repeat' (first|with_reducible (first|apply A8|apply A9|apply Bh|apply AR|apply Bx)|((with_reducible apply A4);(·simp)))
    exact Gk hS F h
   ·obtain⟨⟨⟨bi,bh,bg,bf,be,bb⟩,ee⟩,fj,h⟩:=un h;replace F:=fc fj F;refine go hS F ?_;refine BN hS 2 x77.hf x77.hc x77.hn x77.ok rfl (ev F) (ev F) ?_ rfl (ev F) (qZ rfl) λhb=>?_
    ·exact Bl hS F
    dsimp only[x77,Ah];refine An hS F h (λ_ h=>?_) (λ_ h=>?_)
    ·refine go hS F ?_;refine Bf (Ctx.fn_ok hS) 2 rfl rfl (ev F) (ev F) (ev F) ?_
     repeat' (first|with_reducible (first|apply A8|apply A9|apply Bh|apply AR|apply Bx)|((with_reducible apply A4);(·simp)))
     exact Gk hS F h
    ·obtain⟨gw,h⟩:=un h;refine go hS F ?_;refine BN hS 8 x77.hf x77.hc x77.hn x77.ok rfl (ev F) (ev F) ?_ rfl (ev F) (qZ rfl) λhb=>?_
     ·exact Bl hS F
     dsimp only[x77,Ah];refine An hS F h (λ_ h=>?_) (λ_ h=>?_)
     ·refine go hS F ?_;refine Bf (Ctx.fn_ok hS) 2 rfl rfl (ev F) (ev F) (ev F) ?_
      repeat' (first|with_reducible (first|apply A8|apply A9|apply Bh|apply AR|apply Bx)|((with_reducible apply A4);(·simp)))
      exact Gk hS F h
     ·exact P9 hS F h
  ·replace F:=fc gg F;refine An hS F h (λgc h=>?_) (λgc h=>?_)
   ·replace F:=fc gc F;refine Om hS F ?_;refine go hS F ?_;refine BN hS 1 x75.hf x75.hc x75.hn x75.ok rfl (ev F) (ev F) ?_ rfl (ev F) (qZ rfl) λhb=>?_
    ·exact Bl hS F
    dsimp only[x75,Ah];obtain⟨⟨ba,cn,d9⟩,fh,h⟩:=un h;replace F:=fc fh F;refine go hS F ?_;refine AZ hS 2 x77.hf x77.hc x77.hn x77.ok rfl (ev F) (ev F) ?_ rfl (ev F) (qZ rfl) λhb=>?_
    ·exact Bl hS F
    dsimp only[x77,Ah];refine An hS F h (λ_ h=>?_) (λ_ h=>?_)
    ·refine go hS F ?_;refine Bf (Ctx.fn_ok hS) 2 rfl rfl (ev F) (ev F) (ev F) ?_
     repeat' (first|with_reducible (first|apply A8|apply A9|apply Bh|apply AR|apply Bx)|((with_reducible apply A4);(·simp)))
     exact Gk hS F h
    ·obtain⟨gv,h⟩:=un h;refine go hS F ?_;refine BN hS 8 x77.hf x77.hc x77.hn x77.ok rfl (ev F) (ev F) ?_ rfl (ev F) (qZ rfl) λhb=>?_
     ·exact Bl hS F
     dsimp only[x77,Ah];refine An hS F h (λ_ h=>?_) (λ_ h=>?_)
     ·refine go hS F ?_;refine Bf (Ctx.fn_ok hS) 2 rfl rfl (ev F) (ev F) (ev F) ?_
      repeat' (first|with_reducible (first|apply A8|apply A9|apply Bh|apply AR|apply Bx)|((with_reducible apply A4);(·simp)))
      exact Gk hS F h
     ·exact P9 hS F h
   ·replace F:=fc gc F;refine An hS F h (λfr h=>?_) (λfr h=>?_)
    ·replace F:=fc fr F;refine Om hS F ?_;refine go hS F ?_;refine BN hS 1 x75.hf x75.hc x75.hn x75.ok rfl (ev F) (ev F) ?_ rfl (ev F) (qZ rfl) λhb=>?_
     ·exact Bl hS F
     dsimp only[x75,Ah];obtain⟨⟨az,ck,d8⟩,fg,h⟩:=un h;replace F:=fc fg F;refine go hS F ?_;refine AZ hS 2 x77.hf x77.hc x77.hn x77.ok rfl (ev F) (ev F) ?_ rfl (ev F) (qZ rfl) λhb=>?_
     ·exact Bl hS F
     dsimp only[x77,Ah];refine An hS F h (λ_ h=>?_) (λ_ h=>?_)
     ·refine go hS F ?_;refine Bf (Ctx.fn_ok hS) 2 rfl rfl (ev F) (ev F) (ev F) ?_
      repeat' (first|with_reducible (first|apply A8|apply A9|apply Bh|apply AR|apply Bx)|((with_reducible apply A4);(·simp)))
      exact Gk hS F h
     ·obtain⟨gu,h⟩:=un h;refine go hS F ?_;refine BN hS 8 x77.hf x77.hc x77.hn x77.ok rfl (ev F) (ev F) ?_ rfl (ev F) (qZ rfl) λhb=>?_
      ·exact Bl hS F
      dsimp only[x77,Ah];refine An hS F h (λ_ h=>?_) (λ_ h=>?_)
      ·refine go hS F ?_;refine Bf (Ctx.fn_ok hS) 2 rfl rfl (ev F) (ev F) (ev F) ?_
       repeat' (first|with_reducible (first|apply A8|apply A9|apply Bh|apply AR|apply Bx)|((with_reducible apply A4);(·simp)))
       exact Gk hS F h
      ·exact P9 hS F h
    ·replace F:=fc fr F;refine An hS F h (λfq h=>?_) (λfq h=>?_)
     ·replace F:=fc fq F;refine go hS F ?_;refine BN hS 1 x75.hf x75.hc x75.hn x75.ok rfl (ev F) (ev F) ?_ rfl (ev F) (qZ rfl) λhb=>?_
      ·exact Bl hS F
      dsimp only[x75,Ah];obtain⟨⟨ay,cj,d7⟩,e9,h⟩:=un h;replace F:=fc e9 F;refine go hS F ?_;refine AZ hS 2 x77.hf x77.hc x77.hn x77.ok rfl (ev F) (ev F) ?_ rfl (ev F) (qZ rfl) λhb=>?_
      ·exact Bl hS F
      dsimp only[x77,Ah];refine An hS F h (λ_ h=>?_) (λ_ h=>?_)
      ·refine go hS F ?_;refine Bf (Ctx.fn_ok hS) 2 rfl rfl (ev F) (ev F) (ev F) ?_
       repeat' (first|with_reducible (first|apply A8|apply A9|apply Bh|apply AR|apply Bx)|((with_reducible apply A4);(·simp)))
       exact Gk hS F h
      ·obtain⟨gt,h⟩:=un h;refine go hS F ?_;refine BN hS 8 x77.hf x77.hc x77.hn x77.ok rfl (ev F) (ev F) ?_ rfl (ev F) (qZ rfl) λhb=>?_
       ·exact Bl hS F
       dsimp only[x77,Ah];refine An hS F h (λ_ h=>?_) (λ_ h=>?_)
       ·refine go hS F ?_;refine Bf (Ctx.fn_ok hS) 2 rfl rfl (ev F) (ev F) (ev F) ?_
        repeat' (first|with_reducible (first|apply A8|apply A9|apply Bh|apply AR|apply Bx)|((with_reducible apply A4);(·simp)))
        exact Gk hS F h
       ·exact P9 hS F h
     ·replace F:=fc fq F;refine An hS F h (λfp h=>?_) (λfp h=>?_)
      ·replace F:=fc fp F;refine go hS F ?_;refine Qr hS 2 1 x75.hf x75.hc x75.hn x75.ok rfl (ev F) (ev F) ?_ rfl (ev F) (qZ rfl) λhb=>?_
       ·exact Bl hS F
       dsimp only[x75,Ah];obtain⟨⟨aw,d6,d5⟩,e8,h⟩:=un h;replace F:=fc e8 F;refine go hS F ?_;refine AZ hS 2 x77.hf x77.hc x77.hn x77.ok rfl (ev F) (ev F) ?_ rfl (ev F) (qZ rfl) λhb=>?_
       ·exact Bl hS F
       dsimp only[x77,Ah];refine An hS F h (λ_ h=>?_) (λ_ h=>?_)
       ·refine go hS F ?_;refine Bf (Ctx.fn_ok hS) 2 rfl rfl (ev F) (ev F) (ev F) ?_
        repeat' (first|with_reducible (first|apply A8|apply A9|apply Bh|apply AR|apply Bx)|((with_reducible apply A4);(·simp)))
        exact Gk hS F h
       ·refine go hS F ?_;refine Qs 1 1 x75.hf x75.hc x75.hn x75.ok (ev F) ?_ rfl (ev F) (ev F) ?_ rfl (ev F) (qZ rfl) λhb=>?_
        ·exact Bl hS F
        ·exact Bl hS F
        dsimp only[x75,Ah];obtain⟨⟨av,dz,dw⟩,ez,h⟩:=un h;replace F:=fc ez F;refine go hS F ?_;refine AZ hS 2 x77.hf x77.hc x77.hn x77.ok rfl (ev F) (ev F) ?_ rfl (ev F) (qZ rfl) λhb=>?_
        ·exact Bl hS F
        dsimp only[x77,Ah];refine An hS F h (λ_ h=>?_) (λ_ h=>?_)
        ·refine go hS F ?_;refine Bf (Ctx.fn_ok hS) 2 rfl rfl (ev F) (ev F) (ev F) ?_
         repeat' (first|with_reducible (first|apply A8|apply A9|apply Bh|apply AR|apply Bx)|((with_reducible apply A4);(·simp)))
         exact Gk hS F h
        ·refine go hS F ?_;refine Qs 0 1 x75.hf x75.hc x75.hn x75.ok (ev F) ?_ rfl (ev F) (ev F) ?_ rfl (ev F) (qZ rfl) λhb=>?_
         ·exact Bl hS F
         ·exact Bl hS F
         dsimp only[x75,Ah];obtain⟨⟨au,du,dt⟩,eu,h⟩:=un h;replace F:=fc eu F;refine go hS F ?_;refine AZ hS 2 x77.hf x77.hc x77.hn x77.ok rfl (ev F) (ev F) ?_ rfl (ev F) (qZ rfl) λhb=>?_
         ·exact Bl hS F
         dsimp only[x77,Ah];refine An hS F h (λ_ h=>?_) (λ_ h=>?_)
         ·refine go hS F ?_;refine Bf (Ctx.fn_ok hS) 2 rfl rfl (ev F) (ev F) (ev F) ?_
          repeat' (first|with_reducible (first|apply A8|apply A9|apply Bh|apply AR|apply Bx)|((with_reducible apply A4);(·simp)))
          exact Gk hS F h
         ·refine go hS F ?_;refine Xf 1 x75.hf x75.hc x75.hn x75.ok (ev F) ?_ rfl (ev F) (ev F) ?_ rfl (ev F) (qZ rfl) λhb=>?_
          ·exact Bl hS F
          ·exact Bl hS F
          dsimp only[x75,Ah];obtain⟨⟨aq,ci,dq⟩,ej,h⟩:=un h;replace F:=fc ej F;refine go hS F ?_;refine AZ hS 2 x77.hf x77.hc x77.hn x77.ok rfl (ev F) (ev F) ?_ rfl (ev F) (qZ rfl) λhb=>?_
          ·exact Bl hS F
          dsimp only[x77,Ah];refine An hS F h (λ_ h=>?_) (λ_ h=>?_)
          ·refine go hS F ?_;refine Bf (Ctx.fn_ok hS) 2 rfl rfl (ev F) (ev F) (ev F) ?_
           repeat' (first|with_reducible (first|apply A8|apply A9|apply Bh|apply AR|apply Bx)|((with_reducible apply A4);(·simp)))
           exact Gk hS F h
          ·obtain⟨gm,h⟩:=un h;refine go hS F ?_;refine BN hS 8 x77.hf x77.hc x77.hn x77.ok rfl (ev F) (ev F) ?_ rfl (ev F) (qZ rfl) λhb=>?_
           ·exact Bl hS F
           dsimp only[x77,Ah];refine An hS F h (λ_ h=>?_) (λ_ h=>?_)
           ·refine go hS F ?_;refine Bf (Ctx.fn_ok hS) 2 rfl rfl (ev F) (ev F) (ev F) ?_
            repeat' (first|with_reducible (first|apply A8|apply A9|apply Bh|apply AR|apply Bx)|((with_reducible apply A4);(·simp)))
            exact Gk hS F h
           ·exact P9 hS F h
      ·replace F:=fc fp F;refine An hS F h (λdm h=>?_) (λdm h=>?_)
       ·replace F:=fc dm F;refine go hS F ?_;refine Qr hS 1 1 x75.hf x75.hc x75.hn x75.ok rfl (ev F) (ev F) ?_ rfl (ev F) (qZ rfl) λhb=>?_
        ·exact Bl hS F
        dsimp only[x75,Ah];obtain⟨⟨ak,ce,b9⟩,dh,h⟩:=un h;replace F:=fc dh F;refine go hS F ?_;refine AZ hS 2 x77.hf x77.hc x77.hn x77.ok rfl (ev F) (ev F) ?_ rfl (ev F) (qZ rfl) λhb=>?_
        ·exact Bl hS F
        dsimp only[x77,Ah];refine An hS F h (λ_ h=>?_) (λ_ h=>?_)
        ·refine go hS F ?_;refine Bf (Ctx.fn_ok hS) 2 rfl rfl (ev F) (ev F) (ev F) ?_
         repeat' (first|with_reducible (first|apply A8|apply A9|apply Bh|apply AR|apply Bx)|((with_reducible apply A4);(·simp)))
         exact Gk hS F h
        ·refine go hS F ?_;refine Qs 0 1 x75.hf x75.hc x75.hn x75.ok (ev F) ?_ rfl (ev F) (ev F) ?_ rfl (ev F) (qZ rfl) λhb=>?_
         ·exact Bl hS F
         ·exact Bl hS F
         dsimp only[x75,Ah];obtain⟨⟨aj,b7,bz⟩,dg,h⟩:=un h;replace F:=fc dg F;refine go hS F ?_;refine AZ hS 2 x77.hf x77.hc x77.hn x77.ok rfl (ev F) (ev F) ?_ rfl (ev F) (qZ rfl) λhb=>?_
         ·exact Bl hS F
         dsimp only[x77,Ah];refine An hS F h (λ_ h=>?_) (λ_ h=>?_)
         ·refine go hS F ?_;refine Bf (Ctx.fn_ok hS) 2 rfl rfl (ev F) (ev F) (ev F) ?_
          repeat' (first|with_reducible (first|apply A8|apply A9|apply Bh|apply AR|apply Bx)|((with_reducible apply A4);(·simp)))
          exact Gk hS F h
         ·refine go hS F ?_;refine Xf 1 x75.hf x75.hc x75.hn x75.ok (ev F) ?_ rfl (ev F) (ev F) ?_ rfl (ev F) (qZ rfl) λhb=>?_
          ·exact Bl hS F
          ·exact Bl hS F
          dsimp only[x75,Ah];obtain⟨⟨ai,an,bw⟩,de,h⟩:=un h;replace F:=fc de F;refine go hS F ?_;refine AZ hS 2 x77.hf x77.hc x77.hn x77.ok rfl (ev F) (ev F) ?_ rfl (ev F) (qZ rfl) λhb=>?_
          ·exact Bl hS F
          dsimp only[x77,Ah];refine An hS F h (λ_ h=>?_) (λ_ h=>?_)
          ·refine go hS F ?_;refine Bf (Ctx.fn_ok hS) 2 rfl rfl (ev F) (ev F) (ev F) ?_
           repeat' (first|with_reducible (first|apply A8|apply A9|apply Bh|apply AR|apply Bx)|((with_reducible apply A4);(·simp)))
           exact Gk hS F h
          ·obtain⟨gj,h⟩:=un h;refine go hS F ?_;refine BN hS 8 x77.hf x77.hc x77.hn x77.ok rfl (ev F) (ev F) ?_ rfl (ev F) (qZ rfl) λhb=>?_
           ·exact Bl hS F
           dsimp only[x77,Ah];refine An hS F h (λ_ h=>?_) (λ_ h=>?_)
           ·refine go hS F ?_;refine Bf (Ctx.fn_ok hS) 2 rfl rfl (ev F) (ev F) (ev F) ?_
            repeat' (first|with_reducible (first|apply A8|apply A9|apply Bh|apply AR|apply Bx)|((with_reducible apply A4);(·simp)))
            exact Gk hS F h
           ·exact P9 hS F h
       ·replace F:=fc dm F;refine An hS F h (λdl h=>?_) (λdl h=>?_)
        ·replace F:=fc dl F;refine go hS F ?_;refine Qr hS 2 1 x75.hf x75.hc x75.hn x75.ok rfl (ev F) (ev F) ?_ rfl (ev F) (qZ rfl) λhb=>?_
         ·exact Bl hS F
         dsimp only[x75,Ah];obtain⟨⟨ah,bv,bu⟩,db,h⟩:=un h;replace F:=fc db F;refine go hS F ?_;refine AZ hS 2 x77.hf x77.hc x77.hn x77.ok rfl (ev F) (ev F) ?_ rfl (ev F) (qZ rfl) λhb=>?_
         ·exact Bl hS F
         dsimp only[x77,Ah];refine An hS F h (λ_ h=>?_) (λ_ h=>?_)
         ·refine go hS F ?_;refine Bf (Ctx.fn_ok hS) 2 rfl rfl (ev F) (ev F) (ev F) ?_
          repeat' (first|with_reducible (first|apply A8|apply A9|apply Bh|apply AR|apply Bx)|((with_reducible apply A4);(·simp)))
          exact Gk hS F h
         ·refine go hS F ?_;refine Qs 1 1 x75.hf x75.hc x75.hn x75.ok (ev F) ?_ rfl (ev F) (ev F) ?_ rfl (ev F) (qZ rfl) λhb=>?_
          ·exact Bl hS F
          ·exact Bl hS F
          dsimp only[x75,Ah];obtain⟨⟨af,br,bq⟩,da,h⟩:=un h;replace F:=fc da F;refine go hS F ?_;refine AZ hS 2 x77.hf x77.hc x77.hn x77.ok rfl (ev F) (ev F) ?_ rfl (ev F) (qZ rfl) λhb=>?_
          ·exact Bl hS F
          dsimp only[x77,Ah];refine An hS F h (λ_ h=>?_) (λ_ h=>?_)
          ·refine go hS F ?_;refine Bf (Ctx.fn_ok hS) 2 rfl rfl (ev F) (ev F) (ev F) ?_
           repeat' (first|with_reducible (first|apply A8|apply A9|apply Bh|apply AR|apply Bx)|((with_reducible apply A4);(·simp)))
           exact Gk hS F h
          ·refine go hS F ?_;refine Qs 0 1 x75.hf x75.hc x75.hn x75.ok (ev F) ?_ rfl (ev F) (ev F) ?_ rfl (ev F) (qZ rfl) λhb=>?_
           ·exact Bl hS F
           ·exact Bl hS F
           dsimp only[x75,Ah];obtain⟨⟨ae,bp,bo⟩,cy,h⟩:=un h;replace F:=fc cy F;refine go hS F ?_;refine AZ hS 2 x77.hf x77.hc x77.hn x77.ok rfl (ev F) (ev F) ?_ rfl (ev F) (qZ rfl) λhb=>?_
           ·exact Bl hS F
           dsimp only[x77,Ah];refine An hS F h (λ_ h=>?_) (λ_ h=>?_)
           ·refine go hS F ?_;refine Bf (Ctx.fn_ok hS) 2 rfl rfl (ev F) (ev F) (ev F) ?_
            repeat' (first|with_reducible (first|apply A8|apply A9|apply Bh|apply AR|apply Bx)|((with_reducible apply A4);(·simp)))
            exact Gk hS F h
           ·refine go hS F ?_;refine Xf 1 x75.hf x75.hc x75.hn x75.ok (ev F) ?_ rfl (ev F) (ev F) ?_ rfl (ev F) (qZ rfl) λhb=>?_
            ·exact Bl hS F
            ·exact Bl hS F
            dsimp only[x75,Ah];obtain⟨⟨ab,bn,bm⟩,cu,h⟩:=un h;replace F:=fc cu F;refine go hS F ?_;refine AZ hS 2 x77.hf x77.hc x77.hn x77.ok rfl (ev F) (ev F) ?_ rfl (ev F) (qZ rfl) λhb=>?_
            ·exact Bl hS F
            dsimp only[x77,Ah];refine An hS F h (λ_ h=>?_) (λ_ h=>?_)
            ·refine go hS F ?_;refine Bf (Ctx.fn_ok hS) 2 rfl rfl (ev F) (ev F) (ev F) ?_
             repeat' (first|with_reducible (first|apply A8|apply A9|apply Bh|apply AR|apply Bx)|((with_reducible apply A4);(·simp)))
             exact Gk hS F h
            ·refine go hS F ?_;refine BN hS 1 x75.hf x75.hc x75.hn x75.ok rfl (ev F) (ev F) ?_ rfl (ev F) (qZ rfl) λhb=>?_
             ·exact Bl hS F
             dsimp only[x75,Ah];obtain⟨⟨aa,am,bl⟩,cr,h⟩:=un h;replace F:=fc cr F;refine go hS F ?_;refine AZ hS 2 x77.hf x77.hc x77.hn x77.ok rfl (ev F) (ev F) ?_ rfl (ev F) (qZ rfl) λhb=>?_
             ·exact Bl hS F
             dsimp only[x77,Ah];refine An hS F h (λ_ h=>?_) (λ_ h=>?_)
             ·refine go hS F ?_;refine Bf (Ctx.fn_ok hS) 2 rfl rfl (ev F) (ev F) (ev F) ?_
              repeat' (first|with_reducible (first|apply A8|apply A9|apply Bh|apply AR|apply Bx)|((with_reducible apply A4);(·simp)))
              exact Gk hS F h
             ·obtain⟨bj,cq,h⟩:=un h;replace F:=fc cq F;refine go hS F ?_;refine BN hS 2 x77.hf x77.hc x77.hn x77.ok rfl (ev F) (ev F) ?_ rfl (ev F) (qZ rfl) λhb=>?_
              ·exact Bl hS F
              dsimp only[x77,Ah];refine An hS F h (λ_ h=>?_) (λ_ h=>?_)
              ·refine go hS F ?_;refine Bf (Ctx.fn_ok hS) 2 rfl rfl (ev F) (ev F) (ev F) ?_
               repeat' (first|with_reducible (first|apply A8|apply A9|apply Bh|apply AR|apply Bx)|((with_reducible apply A4);(·simp)))
               exact Gk hS F h
              ·obtain⟨gi,h⟩:=un h;refine go hS F ?_;refine BN hS 8 x77.hf x77.hc x77.hn x77.ok rfl (ev F) (ev F) ?_ rfl (ev F) (qZ rfl) λhb=>?_
               ·exact Bl hS F
               dsimp only[x77,Ah];refine An hS F h (λ_ h=>?_) (λ_ h=>?_)
               ·refine go hS F ?_;refine Bf (Ctx.fn_ok hS) 2 rfl rfl (ev F) (ev F) (ev F) ?_
                repeat' (first|with_reducible (first|apply A8|apply A9|apply Bh|apply AR|apply Bx)|((with_reducible apply A4);(·simp)))
                exact Gk hS F h
               ·exact P9 hS F h
        ·replace F:=fc dl F;obtain⟨gh,h⟩:=un h;refine go hS F ?_;refine BN hS 8 x77.hf x77.hc x77.hn x77.ok rfl (ev F) (ev F) ?_ rfl (ev F) (qZ rfl) λhb=>?_
         ·exact Bl hS F
         dsimp only[x77,Ah];refine An hS F h (λ_ h=>?_) (λ_ h=>?_)
         ·refine go hS F ?_;refine Bf (Ctx.fn_ok hS) 2 rfl rfl (ev F) (ev F) (ev F) ?_
          repeat' (first|with_reducible (first|apply A8|apply A9|apply Bh|apply AR|apply Bx)|((with_reducible apply A4);(·simp)))
          exact Gk hS F h
         ·exact P9 hS F h
end
section
open Go
attribute [local irreducible] Ax BO BB Bj BC Bk AY BD BK Cq
end
section
open Go
attribute [local irreducible] Ax BO BB Bj BC Bk AY BD BK Cq
end
section
open Go
attribute [local irreducible] Ax BO BB Bj BC Bk AY BD BK Cq
def H5(N:Nat):Option Bool:=(Cu N 0).bind λ(r1,r2)=>(CZ N r1 r2 3 8 0 0 [] 0 0 3 0 2 0 0 0 0 false).bind λ((r4,r5),r6)=>(CZ N r1 r2 4 0 0 0 [] 0 0 3 5 0 0 0 0 0 false).bind λ((r8,r9),d7)=>(MX N r1 r2 4 0 0 0 [] 0 0 3 5 0 0 0 0 0 false).bind λ(d6,d5)=>(CZ N r1 r2 4 0 0 0 [] 0 0 3 (-1) 0 0 0 0 0 false).bind λ((e8,ez),dz)=>(CZ N r1 r2 6 0 0 0 [] 0 0 1 0 0 0 0 0 0 false).bind λ((dw,r20),du)=>(CZ N dw r20 6 0 0 0 [] 0 0 1 0 0 0 0 0 0 false).bind λ((eu,ej),dt)=>(CZ N r1 r2 2 0 0 0 [] 0 0 3 0 0 0 0 0 0 false).bind λ((r27,r28),dq)=>(MX N r1 r2 2 0 0 0 [] 0 0 3 0 0 0 0 0 0 false).bind λ(ei,dm)=>(CZ N r1 r2 5 0 0 0 [] 0 0 0 0 0 2 3 4 1 false).bind λ((eh,ee),dl)=>(ND N 4 0 0 0 [] 0 0 3 5 0 0 0 0 0 false).bind λ(ae,dh)=>(Nh N ae).bind λ((bh,(bg,bf,be,bb,ba,az),ay,aw,av,(au,aq,an,am,ak)),dg)=>(Hb N r1 r2 [(4,(0,0,0,[],0,0),3,5,0,(0,0,0,0,false)),(6,(0,0,0,[],0,0),1,0,0,(0,0,0,0,false))]).bind λ((d9,r59),de,db)=>(Kk N 5 0 0 0 [] 0 0 0 0 0 2 3 0 1 false).bind λ(da,cy)=>bif ((((((((((decide (r6≠0))||(decide (d7≠0)))||(decide (dz≠170)))||(decide (du≠0)))||(decide (dt≠170)))||(decide (dq≠0)))||(decide (dl≠170)))||(decide (dh≠0)))||(decide (dg≠0)))||(decide (db≠0)))||(decide ((r4.length:Int)≠2))then(some false)else((HA N 0).bind λ(cu,aj,ai,d8,ah,af)=>(A7 r4 0).bind λ(x73,x74,x75,x76,x77,x78)=>(C2 N x73 x74 x75 x76 x77 x78 cu aj ai [(0,0),(4,0),(4,4)] ah af).bind λcr=>gd (cr=true)<|(A7 r4 1).bind λ(gM,pK,pV,x85,x86,x87)=>(C2 N gM pK pV x85 x86 x87 8 aj ai [(4,4),(0,4),(0,0)] ah af).bind λab=>gd ((ab&&(decide ((r5.length:Int)=0)))=true->((Cu N 5).isSome=true))<|gd ((ab&&(decide ((r5.length:Int)=0)))=true->((CG N r8 r9 (((Cu N 5).getD ([],[])).1) (((Cu N 5).getD ([],[])).2)).isSome=true))<|gd (((ab&&(decide ((r5.length:Int)=0)))&&((CG N r8 r9 (((Cu N 5).getD ([],[])).1) (((Cu N 5).getD ([],[])).2)).getD false))=true->(0<=0/\0<(r20.length:Int)))<|gd (d5=true)<|(Ie N d6 [(4,(0,0,0,[],0,0),3,(-5),0,(0,0,0,0,false))]).bind λcq=>gd ((decide (ae=[8,6,10,0]))=true->((FG N bh bg bf be bb ba az ay aw av au aq an am ak 4 0 0 0 [] 0 0 3 5 0 0 0 0 0 false).isSome=true))<|gd ((((((((((ab&&(decide ((r5.length:Int)=0)))&&((CG N r8 r9 (((Cu N 5).getD ([],[])).1) (((Cu N 5).getD ([],[])).2)).getD false))&&(!((r20.getD 0 (0,0,0,0,false)).2.2.2.2)))&&(decide ((r27.length:Int)=0)))&&(decide ((r28.length:Int)=0)))&&(cq&&(!dm)))&&((decide (ae=[8,6,10,0]))&&((FG N bh bg bf be bb ba az ay aw av au aq an am ak 4 0 0 0 [] 0 0 3 5 0 0 0 0 0 false).getD false)))&&(decide (de=2)))&&(decide ((r59.length:Int)=1)))=true)<|(H0 N da [3]).bind λco=>gd (co=true)<|(H0 N cy [2]).bind λaa=>gd (aa=true->((Dw N r1 r2).isSome=true))<|gd ((aa&&((Dw N r1 r2).getD false))=true->((Dw N [] r2).isSome=true))<|gd (((aa&&((Dw N r1 r2).getD false))&&(!((Dw N [] r2).getD false)))=true->((BF N 4 0 0 0 [] 0 0 3 5 0 0 0 0 0 false).isSome=true))<|gd ((((aa&&((Dw N r1 r2).getD false))&&(!((Dw N [] r2).getD false)))&&((BF N 4 0 0 0 [] 0 0 3 5 0 0 0 0 0 false).getD false))=true->((BF N 0 0 0 0 [] 0 0 0 0 0 0 0 0 0 false).isSome=true))<|some ((((aa&&((Dw N r1 r2).getD false))&&(!((Dw N [] r2).getD false)))&&((BF N 4 0 0 0 [] 0 0 3 5 0 0 0 0 0 false).getD false))&&(!((BF N 0 0 0 0 [] 0 0 0 0 0 0 0 0 0 false).getD false))))
@[go_sem] def s10(N:Nat):Spec:=p0<|pE<|pF (H5 N) false λr=>.b r
theorem Acu(N:Nat):AG Tryz.prog 10 (s10 N):=by
 refine Ar x10.ok<|Ad<|As λr h=>wx x10 (Ab (Acl N)<|Ab (MW N)<|Ab (AcO N)<|Ab (AcP N)<|Ab (AbZ N)<|Ab (pY N)<|Ab (AcN N)<|Ab (oE N)<|Ab (Zw N)<|Ab (oC N)<|Ab (Acr N)<|Ab (oG N)<|Ab (Ab9 N)<|Ab (ZG N)<|Ab (pX N)<|Aj) λ_ hS F=>?_
 dsimp only[x10,Ah,BW];unfold H5 at h;obtain⟨⟨r1,r2⟩,gc,h⟩:=un h;obtain⟨⟨⟨r4,r5⟩,r6⟩,fr,h⟩:=un h;obtain⟨⟨⟨r8,r9⟩,d7⟩,cj,h⟩:=un h;obtain⟨⟨d6,d5⟩,ci,h⟩:=un h;obtain⟨⟨⟨e8,ez⟩,dz⟩,ce,h⟩:=un h;obtain⟨⟨⟨dw,r20⟩,du⟩,b9,h⟩:=un h;obtain⟨⟨⟨eu,ej⟩,dt⟩,b7,h⟩:=un h;obtain⟨⟨⟨r27,r28⟩,dq⟩,bz,h⟩:=un h;obtain⟨⟨ei,dm⟩,bw,h⟩:=un h;obtain⟨⟨⟨eh,ee⟩,dl⟩,bv,h⟩:=un h;obtain⟨⟨ae,dh⟩,bu,h⟩:=un h;obtain⟨⟨⟨bh,⟨bg,bf,be,bb,ba,az⟩,ay,aw,av,⟨au,aq,an,am,ak⟩⟩,dg⟩,br,h⟩:=un h;obtain⟨⟨⟨d9,r59⟩,de,db⟩,bq,h⟩:=un h;obtain⟨⟨da,cy⟩,bp,h⟩:=un h;replace F:=fc bp (fc bq (fc br (fc bu (fc bv (fc bw (fc bz (fc b7 (fc b9 (fc ce (fc ci (fc cj (fc fr (fc gc F)))))))))))));refine An hS F h (λ_ h=>?_) (λ_ h=>?_)
 ·exact Ai hS F h
 ·obtain⟨⟨cu,aj,ai,d8,ah,af⟩,bo,h⟩:=un h;obtain⟨⟨x73,x74,x75,x76,x77,x78⟩,cn,h⟩:=un h;obtain⟨gh,F⟩:=KQ 0 Au cn (fc bo F);obtain⟨cr,bn,fq,⟨gM,pK,pV,x85,x86,x87⟩,ck,h⟩:=un h;obtain⟨gg,F⟩:=KQ 1 Au ck (fc fq (fc bn F));obtain⟨ab,bm,gt,gr,gm,fh,cq,bl,gj,fg,co,bj,e9,aa,bi,gi,fp,fo,fj,h⟩:=un h;exact Ai hS (fc bi (fc e9 (fc bj (fc fg (fc bl (fc fh (fc bm F))))))) h
end
theorem AbD:H5 2000=some true:=by decide+kernel
