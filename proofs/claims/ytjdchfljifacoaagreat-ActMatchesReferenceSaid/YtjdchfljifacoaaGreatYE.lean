import Derived.Test.YtjdchfljifacoaaGreatDh
set_option linter.all false
set_option maxRecDepth 100000
set_option maxHeartbeats 8000000
noncomputable section
namespace Go.Proofs.YtjdchfljifacoaaGreat.Am
section
open Go
attribute [local irreducible] Ax BO BB Bj BC Bk AY BD BK Cq
attribute [local irreducible] E3
def Nh(N:Nat)(s1:List UInt8):Option ((Int×(Int×Int×Int×(List (Int×Int))×Int×Int)×Int×Int×Int×(Int×Int×Int×Int×Bool))×Int):=(B3 N s1 0).bind λ(r2,r3,r4)=>bif !(decide (r4=0))then(some ((0,(0,0,0,[],0,0),0,0,0,(0,0,0,0,false)),170))else(bif decide (r2=1)then((Mp N s1 r3).bind λ(ez,cr,ep)=>bif !(decide (ep=0))then(some ((0,(0,0,0,[],0,0),0,0,0,(0,0,0,0,false)),170))else((Ed N ez).bind λ((bj,bi,bh,bg,bf,be),ej)=>bif !(decide (ej=0))then(some ((0,(0,0,0,[],0,0),0,0,0,(0,0,0,0,false)),170))else(gd ((decide (cr=(s1.length:Int)))=true->((BF N r2 bj bi bh bg bf be 0 0 0 0 0 0 0 false).isSome=true))<|bif !((decide (cr=(s1.length:Int)))&&((BF N r2 bj bi bh bg bf be 0 0 0 0 0 0 0 false).getD false))then(some ((0,(0,0,0,[],0,0),0,0,0,(0,0,0,0,false)),170))else(some ((r2,(bj,bi,bh,bg,bf,be),0,0,0,(0,0,0,0,false)),0)))))else(bif decide (r2=2)then((B3 N s1 r3).bind λ(bb,cq,ei)=>bif !(decide (ei=0))then(some ((0,(0,0,0,[],0,0),0,0,0,(0,0,0,0,false)),170))else(gd ((decide (cq=(s1.length:Int)))=true->((BF N r2 0 0 0 [] 0 0 bb 0 0 0 0 0 0 false).isSome=true))<|bif !((decide (cq=(s1.length:Int)))&&((BF N r2 0 0 0 [] 0 0 bb 0 0 0 0 0 0 false).getD false))then(some ((0,(0,0,0,[],0,0),0,0,0,(0,0,0,0,false)),170))else(some ((r2,(0,0,0,[],0,0),bb,0,0,(0,0,0,0,false)),0))))else(bif decide (r2=6)then((B3 N s1 r3).bind λ(ba,co,eh)=>bif !(decide (eh=0))then(some ((0,(0,0,0,[],0,0),0,0,0,(0,0,0,0,false)),170))else(gd ((decide (co=(s1.length:Int)))=true->((BF N r2 0 0 0 [] 0 0 ba 0 0 0 0 0 0 false).isSome=true))<|bif !((decide (co=(s1.length:Int)))&&((BF N r2 0 0 0 [] 0 0 ba 0 0 0 0 0 0 false).getD false))then(some ((0,(0,0,0,[],0,0),0,0,0,(0,0,0,0,false)),170))else(some ((r2,(0,0,0,[],0,0),ba,0,0,(0,0,0,0,false)),0))))else(bif decide (r2=7)then((B3 N s1 r3).bind λ(az,cn,ee)=>bif !(decide (ee=0))then(some ((0,(0,0,0,[],0,0),0,0,0,(0,0,0,0,false)),170))else(gd ((decide (cn=(s1.length:Int)))=true->((BF N r2 0 0 0 [] 0 0 az 0 0 0 0 0 0 false).isSome=true))<|bif !((decide (cn=(s1.length:Int)))&&((BF N r2 0 0 0 [] 0 0 az 0 0 0 0 0 0 false).getD false))then(some ((0,(0,0,0,[],0,0),0,0,0,(0,0,0,0,false)),170))else(some ((r2,(0,0,0,[],0,0),az,0,0,(0,0,0,0,false)),0))))else(bif decide (r2=3)then((B3 N s1 r3).bind λ(ay,d9,d8)=>bif !(decide (d8=0))then(some ((0,(0,0,0,[],0,0),0,0,0,(0,0,0,0,false)),170))else((B3 N s1 d9).bind λ(av,d7,dz)=>bif !(decide (dz=0))then(some ((0,(0,0,0,[],0,0),0,0,0,(0,0,0,0,false)),170))else((B3 N s1 d7).bind λ(au,dw,du)=>bif !(decide (du=0))then(some ((0,(0,0,0,[],0,0),0,0,0,(0,0,0,0,false)),170))else((B3 N s1 dw).bind λ(aq,cj,dt)=>bif !(decide (dt=0))then(some ((0,(0,0,0,[],0,0),0,0,0,(0,0,0,0,false)),170))else(gd ((decide (cj=(s1.length:Int)))=true->((BF N r2 aq 0 0 [] 0 0 ay av au 0 0 0 0 false).isSome=true))<|bif !((decide (cj=(s1.length:Int)))&&((BF N r2 aq 0 0 [] 0 0 ay av au 0 0 0 0 false).getD false))then(some ((0,(0,0,0,[],0,0),0,0,0,(0,0,0,0,false)),170))else(some ((r2,(aq,0,0,[],0,0),ay,av,au,(0,0,0,0,false)),0)))))))else(bif decide (r2=4)then((B3 N s1 r3).bind λ(ak,ci,ce)=>bif !(decide (ce=0))then(some ((0,(0,0,0,[],0,0),0,0,0,(0,0,0,0,false)),170))else((B3 N s1 ci).bind λ(aj,b9,b7)=>bif !(decide (b7=0))then(some ((0,(0,0,0,[],0,0),0,0,0,(0,0,0,0,false)),170))else((B3 N s1 b9).bind λ(ai,an,bz)=>bif !(decide (bz=0))then(some ((0,(0,0,0,[],0,0),0,0,0,(0,0,0,0,false)),170))else(gd ((decide (an=(s1.length:Int)))=true->((BF N r2 0 0 0 [] 0 0 ak aj ai 0 0 0 0 false).isSome=true))<|bif !((decide (an=(s1.length:Int)))&&((BF N r2 0 0 0 [] 0 0 ak aj ai 0 0 0 0 false).getD false))then(some ((0,(0,0,0,[],0,0),0,0,0,(0,0,0,0,false)),170))else(some ((r2,(0,0,0,[],0,0),ak,aj,ai,(0,0,0,0,false)),0))))))else(bif decide (r2=5)then((B3 N s1 r3).bind λ(ah,bw,bv)=>bif !(decide (bv=0))then(some ((0,(0,0,0,[],0,0),0,0,0,(0,0,0,0,false)),170))else((B3 N s1 bw).bind λ(af,bu,br)=>bif !(decide (br=0))then(some ((0,(0,0,0,[],0,0),0,0,0,(0,0,0,0,false)),170))else((B3 N s1 bu).bind λ(ae,bq,bp)=>bif !(decide (bp=0))then(some ((0,(0,0,0,[],0,0),0,0,0,(0,0,0,0,false)),170))else((B3 N s1 bq).bind λ(ab,bo,bn)=>bif !(decide (bn=0))then(some ((0,(0,0,0,[],0,0),0,0,0,(0,0,0,0,false)),170))else((B3 N s1 bo).bind λ(aa,am,bm)=>bif !(decide (bm=0))then(some ((0,(0,0,0,[],0,0),0,0,0,(0,0,0,0,false)),170))else((BM N aa 0 1).bind λbl=>bif !bl then(some ((0,(0,0,0,[],0,0),0,0,0,(0,0,0,0,false)),170))else(gd ((decide (am=(s1.length:Int)))=true->((BF N r2 0 0 0 [] 0 0 0 0 0 ah af ae ab (decide (aa=1))).isSome=true))<|bif !((decide (am=(s1.length:Int)))&&((BF N r2 0 0 0 [] 0 0 0 0 0 ah af ae ab (decide (aa=1))).getD false))then(some ((0,(0,0,0,[],0,0),0,0,0,(0,0,0,0,false)),170))else(some ((r2,(0,0,0,[],0,0),0,0,0,(ah,af,ae,ab,decide (aa=1))),0)))))))))else(gd ((decide (r3=(s1.length:Int)))=true->((BF N r2 0 0 0 [] 0 0 0 0 0 0 0 0 0 false).isSome=true))<|bif !((decide (r3=(s1.length:Int)))&&((BF N r2 0 0 0 [] 0 0 0 0 0 0 0 0 0 false).getD false))then(some ((0,(0,0,0,[],0,0),0,0,0,(0,0,0,0,false)),170))else(some ((r2,(0,0,0,[],0,0),0,0,0,(0,0,0,0,false)),0))))))))))
@[go_sem] def s35(N:Nat):Spec:=p0<|(Aoo<|Aof<|Aog ((0,(0,0,0,[],0,0),0,0,0,(0,0,0,0,false)),0) λr=>.tup [.agg [.i r.1.1,.i r.1.2.1.1,.i r.1.2.1.2.1,.i r.1.2.1.2.2.1,BP r.1.2.1.2.2.2.1,.i r.1.2.1.2.2.2.2.1,.i r.1.2.1.2.2.2.2.2,.i r.1.2.2.1,.i r.1.2.2.2.1,.i r.1.2.2.2.2.1,.i r.1.2.2.2.2.2.1,.i r.1.2.2.2.2.2.2.1,.i r.1.2.2.2.2.2.2.2.1,.i r.1.2.2.2.2.2.2.2.2.1,.b r.1.2.2.2.2.2.2.2.2.2],.i r.2]) (Nh N)
theorem AbZ(N:Nat):AG Tryz.prog 35 (s35 N):=by
 refine fk (Aop x35 (Ab (Zx N)<|Ab (Acb N)<|Ab (AcK N)<|Ab (QT N)<|Ab (pX N)<|Aj)) ?_;intro s1 r h hb hS F;dsimp only[x35,Ah];have hOK:=Ctx.fd_ok (nt:=104) (hb:=hb) hS;unfold Nh at h;refine go hS F ?_;refine JH hS 1 rfl rfl (ev F) yT (ev F) (ev F) ?_;refine go hS F ?_;refine BN hS 1 x75.hf x75.hc x75.hn x75.ok rfl (ev F) (ev F) ?_ rfl (ev F) (oL rfl) λhb=>?_
 ·exact Bl hS F
 dsimp only[x75,Ah];obtain⟨⟨r2,r3,r4⟩,gr,h⟩:=un h;replace F:=fc gr F;refine go hS F ?_;refine AZ hS 2 x77.hf x77.hc x77.hn x77.ok rfl (ev F) (ev F) ?_ rfl (ev F) (oL rfl) λhb=>?_
 ·exact Bl hS F
 dsimp only[x77,Ah];refine An hS F h (λ_ h=>?_) (λ_ h=>?_)
 ·refine go hS F ?_;refine Bf (Ctx.fn_ok hS) 2 rfl rfl (ev F) (ev F) (ev F) ?_
  repeat' (first|with_reducible (first|apply A8|apply A9|apply Bh|apply AR|apply Bx)|((with_reducible apply A4);(·simp)))
  exact Gk hS F h
 ·refine An hS F h (λgg h=>?_) (λgg h=>?_)
  ·replace F:=fc gg F;obtain⟨⟨ez,cr,ep⟩,fq,h⟩:=un h;replace F:=fc fq F;refine go hS F ?_;refine BN hS 2 x77.hf x77.hc x77.hn x77.ok rfl (ev F) (ev F) ?_ rfl (ev F) (oL rfl) λhb=>?_
   ·exact Bl hS F
   dsimp only[x77,Ah];refine An hS F h (λ_ h=>?_) (λ_ h=>?_)
   ·refine go hS F ?_;refine Bf (Ctx.fn_ok hS) 2 rfl rfl (ev F) (ev F) (ev F) ?_
    repeat' (first|with_reducible (first|apply A8|apply A9|apply Bh|apply AR|apply Bx)|((with_reducible apply A4);(·simp)))
    exact Gk hS F h
   ·obtain⟨⟨⟨bj,bi,bh,bg,bf,be⟩,ej⟩,fp,h⟩:=un h;replace F:=fc fp F;refine go hS F ?_;refine BN hS 2 x77.hf x77.hc x77.hn x77.ok rfl (ev F) (ev F) ?_ rfl (ev F) (oL rfl) λhb=>?_
    ·exact Bl hS F
    dsimp only[x77,Ah];refine An hS F h (λ_ h=>?_) (λ_ h=>?_)
    ·refine go hS F ?_;refine Bf (Ctx.fn_ok hS) 2 rfl rfl (ev F) (ev F) (ev F) ?_
     repeat' (first|with_reducible (first|apply A8|apply A9|apply Bh|apply AR|apply Bx)|((with_reducible apply A4);(·simp)))
     exact Gk hS F h
    ·obtain⟨gw,h⟩:=un h;refine go hS F ?_;refine BN hS 8 x77.hf x77.hc x77.hn x77.ok rfl (ev F) (ev F) ?_ rfl (ev F) (oL rfl) λhb=>?_
     ·exact Bl hS F
     dsimp only[x77,Ah];refine An hS F h (λ_ h=>?_) (λ_ h=>?_)
     ·refine go hS F ?_;refine Bf (Ctx.fn_ok hS) 2 rfl rfl (ev F) (ev F) (ev F) ?_
      repeat' (first|with_reducible (first|apply A8|apply A9|apply Bh|apply AR|apply Bx)|((with_reducible apply A4);(·simp)))
      exact Gk hS F h
     ·exact P9 hS F h
  ·replace F:=fc gg F;refine An hS F h (λge h=>?_) (λge h=>?_)
   ·replace F:=fc ge F;refine Om hS F ?_;refine go hS F ?_;refine BN hS 1 x75.hf x75.hc x75.hn x75.ok rfl (ev F) (ev F) ?_ rfl (ev F) (oL rfl) λhb=>?_
    ·exact Bl hS F
    dsimp only[x75,Ah];obtain⟨⟨bb,cq,ei⟩,fo,h⟩:=un h;replace F:=fc fo F;refine go hS F ?_;refine AZ hS 2 x77.hf x77.hc x77.hn x77.ok rfl (ev F) (ev F) ?_ rfl (ev F) (oL rfl) λhb=>?_
    ·exact Bl hS F
    dsimp only[x77,Ah];refine An hS F h (λ_ h=>?_) (λ_ h=>?_)
    ·refine go hS F ?_;refine Bf (Ctx.fn_ok hS) 2 rfl rfl (ev F) (ev F) (ev F) ?_
     repeat' (first|with_reducible (first|apply A8|apply A9|apply Bh|apply AR|apply Bx)|((with_reducible apply A4);(·simp)))
     exact Gk hS F h
    ·obtain⟨gv,h⟩:=un h;refine go hS F ?_;refine BN hS 8 x77.hf x77.hc x77.hn x77.ok rfl (ev F) (ev F) ?_ rfl (ev F) (oL rfl) λhb=>?_
     ·exact Bl hS F
     dsimp only[x77,Ah];refine An hS F h (λ_ h=>?_) (λ_ h=>?_)
     ·refine go hS F ?_;refine Bf (Ctx.fn_ok hS) 2 rfl rfl (ev F) (ev F) (ev F) ?_
      repeat' (first|with_reducible (first|apply A8|apply A9|apply Bh|apply AR|apply Bx)|((with_reducible apply A4);(·simp)))
      exact Gk hS F h
     ·exact P9 hS F h
   ·replace F:=fc ge F;refine An hS F h (λgc h=>?_) (λgc h=>?_)
    ·replace F:=fc gc F;refine Om hS F ?_;refine go hS F ?_;refine BN hS 1 x75.hf x75.hc x75.hn x75.ok rfl (ev F) (ev F) ?_ rfl (ev F) (oL rfl) λhb=>?_
     ·exact Bl hS F
     dsimp only[x75,Ah];obtain⟨⟨ba,co,eh⟩,fm,h⟩:=un h;replace F:=fc fm F;refine go hS F ?_;refine AZ hS 2 x77.hf x77.hc x77.hn x77.ok rfl (ev F) (ev F) ?_ rfl (ev F) (oL rfl) λhb=>?_
     ·exact Bl hS F
     dsimp only[x77,Ah];refine An hS F h (λ_ h=>?_) (λ_ h=>?_)
     ·refine go hS F ?_;refine Bf (Ctx.fn_ok hS) 2 rfl rfl (ev F) (ev F) (ev F) ?_
      repeat' (first|with_reducible (first|apply A8|apply A9|apply Bh|apply AR|apply Bx)|((with_reducible apply A4);(·simp)))
      exact Gk hS F h
     ·obtain⟨gu,h⟩:=un h;refine go hS F ?_;refine BN hS 8 x77.hf x77.hc x77.hn x77.ok rfl (ev F) (ev F) ?_ rfl (ev F) (oL rfl) λhb=>?_
      ·exact Bl hS F
      dsimp only[x77,Ah];refine An hS F h (λ_ h=>?_) (λ_ h=>?_)
      ·refine go hS F ?_;refine Bf (Ctx.fn_ok hS) 2 rfl rfl (ev F) (ev F) (ev F) ?_
       repeat' (first|with_reducible (first|apply A8|apply A9|apply Bh|apply AR|apply Bx)|((with_reducible apply A4);(·simp)))
       exact Gk hS F h
      ·exact P9 hS F h
    ·replace F:=fc gc F;refine An hS F h (λfx h=>?_) (λfx h=>?_)
     ·replace F:=fc fx F;refine go hS F ?_;refine BN hS 1 x75.hf x75.hc x75.hn x75.ok rfl (ev F) (ev F) ?_ rfl (ev F) (oL rfl) λhb=>?_
      ·exact Bl hS F
      dsimp only[x75,Ah];obtain⟨⟨az,cn,ee⟩,fj,h⟩:=un h;replace F:=fc fj F;refine go hS F ?_;refine AZ hS 2 x77.hf x77.hc x77.hn x77.ok rfl (ev F) (ev F) ?_ rfl (ev F) (oL rfl) λhb=>?_
      ·exact Bl hS F
      dsimp only[x77,Ah];refine An hS F h (λ_ h=>?_) (λ_ h=>?_)
      ·refine go hS F ?_;refine Bf (Ctx.fn_ok hS) 2 rfl rfl (ev F) (ev F) (ev F) ?_
       repeat' (first|with_reducible (first|apply A8|apply A9|apply Bh|apply AR|apply Bx)|((with_reducible apply A4);(·simp)))
       exact Gk hS F h
      ·obtain⟨gt,h⟩:=un h;refine go hS F ?_;refine BN hS 8 x77.hf x77.hc x77.hn x77.ok rfl (ev F) (ev F) ?_ rfl (ev F) (oL rfl) λhb=>?_
       ·exact Bl hS F
       dsimp only[x77,Ah];refine An hS F h (λ_ h=>?_) (λ_ h=>?_)
       ·refine go hS F ?_;refine Bf (Ctx.fn_ok hS) 2 rfl rfl (ev F) (ev F) (ev F) ?_
        repeat' (first|with_reducible (first|apply A8|apply A9|apply Bh|apply AR|apply Bx)|((with_reducible apply A4);(·simp)))
        exact Gk hS F h
       ·exact P9 hS F h
     ·replace F:=fc fx F;refine An hS F h (λfr h=>?_) (λfr h=>?_)
      ·replace F:=fc fr F;refine go hS F ?_;refine Qr hS 2 1 x75.hf x75.hc x75.hn x75.ok rfl (ev F) (ev F) ?_ rfl (ev F) (oL rfl) λhb=>?_
       ·exact Bl hS F
       dsimp only[x75,Ah];obtain⟨⟨ay,d9,d8⟩,fh,h⟩:=un h;replace F:=fc fh F;refine go hS F ?_;refine AZ hS 2 x77.hf x77.hc x77.hn x77.ok rfl (ev F) (ev F) ?_ rfl (ev F) (oL rfl) λhb=>?_
       ·exact Bl hS F
       dsimp only[x77,Ah];refine An hS F h (λ_ h=>?_) (λ_ h=>?_)
       ·refine go hS F ?_;refine Bf (Ctx.fn_ok hS) 2 rfl rfl (ev F) (ev F) (ev F) ?_
        repeat' (first|with_reducible (first|apply A8|apply A9|apply Bh|apply AR|apply Bx)|((with_reducible apply A4);(·simp)))
        exact Gk hS F h
       ·refine go hS F ?_;refine Qs 1 1 x75.hf x75.hc x75.hn x75.ok (ev F) ?_ rfl (ev F) (ev F) ?_ rfl (ev F) (oL rfl) λhb=>?_
        ·exact Bl hS F
        ·exact Bl hS F
        dsimp only[x75,Ah];obtain⟨⟨av,d7,dz⟩,fg,h⟩:=un h;replace F:=fc fg F;refine go hS F ?_;refine AZ hS 2 x77.hf x77.hc x77.hn x77.ok rfl (ev F) (ev F) ?_ rfl (ev F) (oL rfl) λhb=>?_
        ·exact Bl hS F
        dsimp only[x77,Ah];refine An hS F h (λ_ h=>?_) (λ_ h=>?_)
        ·refine go hS F ?_;refine Bf (Ctx.fn_ok hS) 2 rfl rfl (ev F) (ev F) (ev F) ?_
         repeat' (first|with_reducible (first|apply A8|apply A9|apply Bh|apply AR|apply Bx)|((with_reducible apply A4);(·simp)))
         exact Gk hS F h
        ·refine go hS F ?_;refine Qs 0 1 x75.hf x75.hc x75.hn x75.ok (ev F) ?_ rfl (ev F) (ev F) ?_ rfl (ev F) (oL rfl) λhb=>?_
         ·exact Bl hS F
         ·exact Bl hS F
         dsimp only[x75,Ah];obtain⟨⟨au,dw,du⟩,e9,h⟩:=un h;replace F:=fc e9 F;refine go hS F ?_;refine AZ hS 2 x77.hf x77.hc x77.hn x77.ok rfl (ev F) (ev F) ?_ rfl (ev F) (oL rfl) λhb=>?_
         ·exact Bl hS F
         dsimp only[x77,Ah];refine An hS F h (λ_ h=>?_) (λ_ h=>?_)
         ·refine go hS F ?_;refine Bf (Ctx.fn_ok hS) 2 rfl rfl (ev F) (ev F) (ev F) ?_
          repeat' (first|with_reducible (first|apply A8|apply A9|apply Bh|apply AR|apply Bx)|((with_reducible apply A4);(·simp)))
          exact Gk hS F h
         ·refine go hS F ?_;refine Xf 1 x75.hf x75.hc x75.hn x75.ok (ev F) ?_ rfl (ev F) (ev F) ?_ rfl (ev F) (oL rfl) λhb=>?_
          ·exact Bl hS F
          ·exact Bl hS F
          dsimp only[x75,Ah];obtain⟨⟨aq,cj,dt⟩,e8,h⟩:=un h;replace F:=fc e8 F;refine go hS F ?_;refine AZ hS 2 x77.hf x77.hc x77.hn x77.ok rfl (ev F) (ev F) ?_ rfl (ev F) (oL rfl) λhb=>?_
          ·exact Bl hS F
          dsimp only[x77,Ah];refine An hS F h (λ_ h=>?_) (λ_ h=>?_)
          ·refine go hS F ?_;refine Bf (Ctx.fn_ok hS) 2 rfl rfl (ev F) (ev F) (ev F) ?_
           repeat' (first|with_reducible (first|apply A8|apply A9|apply Bh|apply AR|apply Bx)|((with_reducible apply A4);(·simp)))
           exact Gk hS F h
          ·obtain⟨gm,h⟩:=un h;refine go hS F ?_;refine BN hS 8 x77.hf x77.hc x77.hn x77.ok rfl (ev F) (ev F) ?_ rfl (ev F) (oL rfl) λhb=>?_
           ·exact Bl hS F
           dsimp only[x77,Ah];refine An hS F h (λ_ h=>?_) (λ_ h=>?_)
           ·refine go hS F ?_;refine Bf (Ctx.fn_ok hS) 2 rfl rfl (ev F) (ev F) (ev F) ?_
            repeat' (first|with_reducible (first|apply A8|apply A9|apply Bh|apply AR|apply Bx)|((with_reducible apply A4);(·simp)))
            exact Gk hS F h
           ·exact P9 hS F h
      ·replace F:=fc fr F;refine An hS F h (λdq h=>?_) (λdq h=>?_)
       ·replace F:=fc dq F;refine go hS F ?_;refine Qr hS 1 1 x75.hf x75.hc x75.hn x75.ok rfl (ev F) (ev F) ?_ rfl (ev F) (oL rfl) λhb=>?_
        ·exact Bl hS F
        dsimp only[x75,Ah];obtain⟨⟨ak,ci,ce⟩,dl,h⟩:=un h;replace F:=fc dl F;refine go hS F ?_;refine AZ hS 2 x77.hf x77.hc x77.hn x77.ok rfl (ev F) (ev F) ?_ rfl (ev F) (oL rfl) λhb=>?_
        ·exact Bl hS F
        dsimp only[x77,Ah];refine An hS F h (λ_ h=>?_) (λ_ h=>?_)
        ·refine go hS F ?_;refine Bf (Ctx.fn_ok hS) 2 rfl rfl (ev F) (ev F) (ev F) ?_
         repeat' (first|with_reducible (first|apply A8|apply A9|apply Bh|apply AR|apply Bx)|((with_reducible apply A4);(·simp)))
         exact Gk hS F h
        ·refine go hS F ?_;refine Qs 0 1 x75.hf x75.hc x75.hn x75.ok (ev F) ?_ rfl (ev F) (ev F) ?_ rfl (ev F) (oL rfl) λhb=>?_
         ·exact Bl hS F
         ·exact Bl hS F
         dsimp only[x75,Ah];obtain⟨⟨aj,b9,b7⟩,dh,h⟩:=un h;replace F:=fc dh F;refine go hS F ?_;refine AZ hS 2 x77.hf x77.hc x77.hn x77.ok rfl (ev F) (ev F) ?_ rfl (ev F) (oL rfl) λhb=>?_
         ·exact Bl hS F
         dsimp only[x77,Ah];refine An hS F h (λ_ h=>?_) (λ_ h=>?_)
         ·refine go hS F ?_;refine Bf (Ctx.fn_ok hS) 2 rfl rfl (ev F) (ev F) (ev F) ?_
          repeat' (first|with_reducible (first|apply A8|apply A9|apply Bh|apply AR|apply Bx)|((with_reducible apply A4);(·simp)))
          exact Gk hS F h
         ·refine go hS F ?_;refine Xf 1 x75.hf x75.hc x75.hn x75.ok (ev F) ?_ rfl (ev F) (ev F) ?_ rfl (ev F) (oL rfl) λhb=>?_
          ·exact Bl hS F
          ·exact Bl hS F
          dsimp only[x75,Ah];obtain⟨⟨ai,an,bz⟩,dg,h⟩:=un h;replace F:=fc dg F;refine go hS F ?_;refine AZ hS 2 x77.hf x77.hc x77.hn x77.ok rfl (ev F) (ev F) ?_ rfl (ev F) (oL rfl) λhb=>?_
          ·exact Bl hS F
          dsimp only[x77,Ah];refine An hS F h (λ_ h=>?_) (λ_ h=>?_)
          ·refine go hS F ?_;refine Bf (Ctx.fn_ok hS) 2 rfl rfl (ev F) (ev F) (ev F) ?_
           repeat' (first|with_reducible (first|apply A8|apply A9|apply Bh|apply AR|apply Bx)|((with_reducible apply A4);(·simp)))
           exact Gk hS F h
          ·obtain⟨gj,h⟩:=un h;refine go hS F ?_;refine BN hS 8 x77.hf x77.hc x77.hn x77.ok rfl (ev F) (ev F) ?_ rfl (ev F) (oL rfl) λhb=>?_
           ·exact Bl hS F
           dsimp only[x77,Ah];refine An hS F h (λ_ h=>?_) (λ_ h=>?_)
           ·refine go hS F ?_;refine Bf (Ctx.fn_ok hS) 2 rfl rfl (ev F) (ev F) (ev F) ?_
            repeat' (first|with_reducible (first|apply A8|apply A9|apply Bh|apply AR|apply Bx)|((with_reducible apply A4);(·simp)))
            exact Gk hS F h
           ·exact P9 hS F h
       ·replace F:=fc dq F;refine An hS F h (λdm h=>?_) (λdm h=>?_)
        ·replace F:=fc dm F;refine go hS F ?_;refine Qr hS 2 1 x75.hf x75.hc x75.hn x75.ok rfl (ev F) (ev F) ?_ rfl (ev F) (oL rfl) λhb=>?_
         ·exact Bl hS F
         dsimp only[x75,Ah];obtain⟨⟨ah,bw,bv⟩,de,h⟩:=un h;replace F:=fc de F;refine go hS F ?_;refine AZ hS 2 x77.hf x77.hc x77.hn x77.ok rfl (ev F) (ev F) ?_ rfl (ev F) (oL rfl) λhb=>?_
         ·exact Bl hS F
         dsimp only[x77,Ah];refine An hS F h (λ_ h=>?_) (λ_ h=>?_)
         ·refine go hS F ?_;refine Bf (Ctx.fn_ok hS) 2 rfl rfl (ev F) (ev F) (ev F) ?_
          repeat' (first|with_reducible (first|apply A8|apply A9|apply Bh|apply AR|apply Bx)|((with_reducible apply A4);(·simp)))
          exact Gk hS F h
         ·refine go hS F ?_;refine Qs 1 1 x75.hf x75.hc x75.hn x75.ok (ev F) ?_ rfl (ev F) (ev F) ?_ rfl (ev F) (oL rfl) λhb=>?_
          ·exact Bl hS F
          ·exact Bl hS F
          dsimp only[x75,Ah];obtain⟨⟨af,bu,br⟩,db,h⟩:=un h;replace F:=fc db F;refine go hS F ?_;refine AZ hS 2 x77.hf x77.hc x77.hn x77.ok rfl (ev F) (ev F) ?_ rfl (ev F) (oL rfl) λhb=>?_
          ·exact Bl hS F
          dsimp only[x77,Ah];refine An hS F h (λ_ h=>?_) (λ_ h=>?_)
          ·refine go hS F ?_;refine Bf (Ctx.fn_ok hS) 2 rfl rfl (ev F) (ev F) (ev F) ?_
           repeat' (first|with_reducible (first|apply A8|apply A9|apply Bh|apply AR|apply Bx)|((with_reducible apply A4);(·simp)))
           exact Gk hS F h
          ·refine go hS F ?_;refine Qs 0 1 x75.hf x75.hc x75.hn x75.ok (ev F) ?_ rfl (ev F) (ev F) ?_ rfl (ev F) (oL rfl) λhb=>?_
           ·exact Bl hS F
           ·exact Bl hS F
           dsimp only[x75,Ah];obtain⟨⟨ae,bq,bp⟩,da,h⟩:=un h;replace F:=fc da F;refine go hS F ?_;refine AZ hS 2 x77.hf x77.hc x77.hn x77.ok rfl (ev F) (ev F) ?_ rfl (ev F) (oL rfl) λhb=>?_
           ·exact Bl hS F
           dsimp only[x77,Ah];refine An hS F h (λ_ h=>?_) (λ_ h=>?_)
           ·refine go hS F ?_;refine Bf (Ctx.fn_ok hS) 2 rfl rfl (ev F) (ev F) (ev F) ?_
            repeat' (first|with_reducible (first|apply A8|apply A9|apply Bh|apply AR|apply Bx)|((with_reducible apply A4);(·simp)))
            exact Gk hS F h
           ·refine go hS F ?_;refine Xf 1 x75.hf x75.hc x75.hn x75.ok (ev F) ?_ rfl (ev F) (ev F) ?_ rfl (ev F) (oL rfl) λhb=>?_
            ·exact Bl hS F
            ·exact Bl hS F
            dsimp only[x75,Ah];obtain⟨⟨ab,bo,bn⟩,cz,h⟩:=un h;replace F:=fc cz F;refine go hS F ?_;refine AZ hS 2 x77.hf x77.hc x77.hn x77.ok rfl (ev F) (ev F) ?_ rfl (ev F) (oL rfl) λhb=>?_
            ·exact Bl hS F
            dsimp only[x77,Ah];refine An hS F h (λ_ h=>?_) (λ_ h=>?_)
            ·refine go hS F ?_;refine Bf (Ctx.fn_ok hS) 2 rfl rfl (ev F) (ev F) (ev F) ?_
             repeat' (first|with_reducible (first|apply A8|apply A9|apply Bh|apply AR|apply Bx)|((with_reducible apply A4);(·simp)))
             exact Gk hS F h
            ·refine go hS F ?_;refine BN hS 1 x75.hf x75.hc x75.hn x75.ok rfl (ev F) (ev F) ?_ rfl (ev F) (oL rfl) λhb=>?_
             ·exact Bl hS F
             dsimp only[x75,Ah];obtain⟨⟨aa,am,bm⟩,cy,h⟩:=un h;replace F:=fc cy F;refine go hS F ?_;refine AZ hS 2 x77.hf x77.hc x77.hn x77.ok rfl (ev F) (ev F) ?_ rfl (ev F) (oL rfl) λhb=>?_
             ·exact Bl hS F
             dsimp only[x77,Ah];refine An hS F h (λ_ h=>?_) (λ_ h=>?_)
             ·refine go hS F ?_;refine Bf (Ctx.fn_ok hS) 2 rfl rfl (ev F) (ev F) (ev F) ?_
              repeat' (first|with_reducible (first|apply A8|apply A9|apply Bh|apply AR|apply Bx)|((with_reducible apply A4);(·simp)))
              exact Gk hS F h
             ·obtain⟨bl,cu,h⟩:=un h;replace F:=fc cu F;refine go hS F ?_;refine BN hS 2 x77.hf x77.hc x77.hn x77.ok rfl (ev F) (ev F) ?_ rfl (ev F) (oL rfl) λhb=>?_
              ·exact Bl hS F
              dsimp only[x77,Ah];refine An hS F h (λ_ h=>?_) (λ_ h=>?_)
              ·refine go hS F ?_;refine Bf (Ctx.fn_ok hS) 2 rfl rfl (ev F) (ev F) (ev F) ?_
               repeat' (first|with_reducible (first|apply A8|apply A9|apply Bh|apply AR|apply Bx)|((with_reducible apply A4);(·simp)))
               exact Gk hS F h
              ·obtain⟨gi,h⟩:=un h;refine go hS F ?_;refine BN hS 8 x77.hf x77.hc x77.hn x77.ok rfl (ev F) (ev F) ?_ rfl (ev F) (oL rfl) λhb=>?_
               ·exact Bl hS F
               dsimp only[x77,Ah];refine An hS F h (λ_ h=>?_) (λ_ h=>?_)
               ·refine go hS F ?_;refine Bf (Ctx.fn_ok hS) 2 rfl rfl (ev F) (ev F) (ev F) ?_
                repeat' (first|with_reducible (first|apply A8|apply A9|apply Bh|apply AR|apply Bx)|((with_reducible apply A4);(·simp)))
                exact Gk hS F h
               ·exact P9 hS F h
        ·replace F:=fc dm F;obtain⟨gh,h⟩:=un h;refine go hS F ?_;refine BN hS 8 x77.hf x77.hc x77.hn x77.ok rfl (ev F) (ev F) ?_ rfl (ev F) (oL rfl) λhb=>?_
         ·exact Bl hS F
         dsimp only[x77,Ah];refine An hS F h (λ_ h=>?_) (λ_ h=>?_)
         ·refine go hS F ?_;refine Bf (Ctx.fn_ok hS) 2 rfl rfl (ev F) (ev F) (ev F) ?_
          repeat' (first|with_reducible (first|apply A8|apply A9|apply Bh|apply AR|apply Bx)|((with_reducible apply A4);(·simp)))
          exact Gk hS F h
         ·exact P9 hS F h
end
def Aki(u:Un):List UInt8:=kW u.1 u.2.1 u.2.2.1 u.2.2.2.1 u.2.2.2.2.1 u.2.2.2.2.2
def Ahm(t:List UInt8):List UInt8:=Lp (t.length:Int)++t
def rdT(l:List UInt8):Option (List UInt8×Nat):=(xP l).bind λnm=>if(0<=nm.1/\nm.1<=65536)/\nm.2+nm.1.toNat<=l.length then some ((l.drop nm.2).take nm.1.toNat,nm.2+nm.1.toNat)else none
theorem Aig{t:List UInt8}(ht:t.length<=65536)(w:List UInt8):rdT (Ahm t++w)=some (t,(Ahm t).length):=by
 have hw:Akh (t.length):=by unfold Akh;omega
 unfold rdT Ahm;rw[qZ,AhC hw,pK,dW]
 ·rw[List.drop_append_of_le_length (by omega),tM,pA,tK,List.take_append_of_le_length (by omega),KJ,jT]
 grind
theorem AhJ{l t:List UInt8}{k:Nat}(h:rdT l=some (t,k)):t.length<=65536/\l.take k=Ahm t/\k<=l.length:=by
 unfold rdT at h;cases hr:xP l with
 |none=>rw[hr]at h;cases h
 |some nm=>
  obtain⟨n,m⟩:=nm;rw[hr,pK]at h;simp only at h;split at h
  ·rename_i hc;obtain⟨_,h2,h3,_⟩:=Ahp hr;obtain⟨rfl,rfl⟩:=h;have hl:((l.drop m).take n.toNat).length=n.toNat:=by rw[tW,sG];omega
   refine⟨by omega,?_,hc.2⟩;unfold Ahm;rw[hl,CY hc.1.1,<-h2,List.take_add]
  ·cases h
theorem AiO{N:Nat}(hN:100<=N){a b c:Int}{l:List Pt}{p q:Int}(h:UP a b c l p q):HL N a b c l p q=some (kW a b c l p q,0):=by have:=h.l.l8;grind[HL,mT,Ae]
theorem Aih{N:Nat}(hN:100<=N){s:List UInt8}(hs:s.length<=1000000000):Ed N s=some (match Ahs s with|some x=>(x,0)|none=>((0,0,0,[],0,0),80)):=by grind[Ed,Aie]
theorem Aii{a b c:Int}{l:List Pt}{p q:Int}(h:UP a b c l p q):0<(kW a b c l p q).length/\(kW a b c l p q).length<=1000:=by
 have l8:=h.l.l8;have h1:=TC l;have h2:=NC [a,b,c,p,q,(l.length)];have h3:=uC (n:=a) (by have:=h.a;omega) (by have:=h.a;omega);have h4:0<(Lp a).length:=by grind
 have h5:(Lp a).length<=(E0 [a,b,c,p,q,(l.length)]).length:=by simp[E0]
 grind[kW,pN]
theorem AiP{u:Un}(h:UV u):Ahs (Aki u)=some u:=AhY h
theorem AhK{u:Un}(h:UV u):(Aki u).length<=1000:=(Aii h).2
section
variable{N:Nat}(hN:1001<=N)
include hN
theorem Aij{s:List UInt8}{p:Nat}(hs:s.length<=1000000000)(hp:p<=s.length):(∃t k,rdT (s.drop p)=some (t,k)/\p+k<=s.length/\Mp N s p=some (t,((p+k:Nat):Int),0))\/(rdT (s.drop p)=none/\∃e,e≠0/\Mp N s p=some ([],0,e)):=by
 unfold Mp rdT;rw[AhH (by omega) hs hp,bS];cases hr:xP (s.drop p)with
 |none=>grind
 |some nm=>
  obtain⟨n,m⟩:=nm;obtain⟨wn,_,h3,_⟩:=Ahp hr;rw[sG]at h3;simp only;rw[A1 _ (by rfl),BR (by omega),pK];rw[sG];by_cases c:(0<=n/\n<=65536)/\m+n.toNat<=s.length-p
  ·left;rw[dW c];refine⟨_,_,rfl,by omega,?_⟩;rw[A1 _ (by rw[y8,y8,cY,cY,cY];omega),Ae (by omega),Ae (by omega),Ae (by omega)];have e1:(((p+m:Nat))+n).toNat-((p+m:Nat):Int).toNat=n.toNat:=by omega
   have e2:((p+m:Nat))+n=((p+(m+n.toNat):Nat)):=by omega
   rw[e1,e2,tK,w7]
  ·right;rw[dQ c];refine⟨rfl,10,by omega,?_⟩;rw[AU _ (by rw[sW,sW,bK,bK,bK];omega)]
end
def zS(s:List UInt8)(p:Nat):Option (Int×Nat):=(xP (s.drop p)).map λnm=>(nm.1,p+nm.2)
theorem Agn{s w:List UInt8}{p:Nat}{n:Int}(h:Akh n)(e:s.drop p=Lp n++w):zS s p=some (n,p+(Lp n).length)/\s.drop (p+(Lp n).length)=w:=by unfold zS;rw[e,AhC h];refine⟨rfl,?_⟩;rw[<-w7,e,List.drop_left]
theorem AfX{s:List UInt8}{p q:Nat}{n:Int}(hp:p<=s.length)(h:zS s p=some (n,q)):Akh n/\s.drop p=Lp n++s.drop q/\q<=s.length:=by
 unfold zS at h;cases hr:xP (s.drop p)with
 |none=>rw[hr]at h;cases h
 |some nm=>
  rw[hr]at h;cases h
  obtain⟨w,h1,h2,_⟩:=Ahp hr;rw[sG]at h2;refine⟨w,?_,by omega⟩;rw[<-h1,<-w7,y9]
def Ahg(s:List UInt8)(a:Ac)(p:Nat):Option Ac:=if p=s.length/\FA a then some a else none
def AhA(s:List UInt8):Option Ac:=(zS s 0).bind λx1=>if x1.1=1 then((rdT (s.drop x1.2)).bind λt=>(Ahs t.1).bind λu=>Ahg s (1,u,0,0,0,Xg) (x1.2+t.2))else if x1.1=2 then((zS s x1.2).bind λy=>Ahg s (2,PE,y.1,0,0,Xg) y.2)else if x1.1=6 then((zS s x1.2).bind λy=>Ahg s (6,PE,y.1,0,0,Xg) y.2)else if x1.1=7 then((zS s x1.2).bind λy=>Ahg s (7,PE,y.1,0,0,Xg) y.2)else if x1.1=3 then((zS s x1.2).bind λy1=>(zS s y1.2).bind λy2=>(zS s y2.2).bind λy3=>(zS s y3.2).bind λy4=>Ahg s (3,(y4.1,0,0,[],0,0),y1.1,y2.1,y3.1,Xg) y4.2)else if x1.1=4 then((zS s x1.2).bind λy1=>(zS s y1.2).bind λy2=>(zS s y2.2).bind λy3=>Ahg s (4,PE,y1.1,y2.1,y3.1,Xg) y3.2)else if x1.1=5 then((zS s x1.2).bind λy1=>(zS s y1.2).bind λy2=>(zS s y2.2).bind λy3=>(zS s y3.2).bind λy4=>(zS s y4.2).bind λy5=>if y5.1=0\/y5.1=1 then Ahg s (5,PE,0,0,0,(y1.1,y2.1,y3.1,y4.1,decide (y5.1=1))) y5.2 else none)else none
def AhN(o:Option Ac):Ac×Int:=match o with|some a=>(a,0)|none=>((0,PE,0,0,0,Xg),170)
def Ahh(a:Ac):List Int:=if a.1=3 then[a.2.2.1,a.2.2.2.1,a.2.2.2.2.1,a.2.1.1]else if a.1=4 then[a.2.2.1,a.2.2.2.1,a.2.2.2.2.1]else if a.1=5 then[a.2.2.2.2.2.1,a.2.2.2.2.2.2.1,a.2.2.2.2.2.2.2.1,a.2.2.2.2.2.2.2.2.1,if a.2.2.2.2.2.2.2.2.2 then 1 else 0]else[a.2.2.1]
def Agq(a:Ac):List UInt8:=if a.1=1 then Lp 1++Ahm (Aki a.2.1)else Lp a.1++E0 (Ahh a)
theorem Agr{n:Int}(h: -1000<=n/\n<=1000):Akh n:=by unfold Akh;omega
theorem AiQ(n:Int)(l:List Int):E0 (n::l)=Lp n++E0 l:=rfl
theorem Aik{s t:List UInt8}{p k:Nat}(hp:p<=s.length)(h:rdT (s.drop p)=some (t,k)):s.drop p=Ahm t++s.drop (p+k)/\p+k<=s.length:=by obtain⟨_,h2,h3⟩:=AhJ h;rw[sG]at h3;refine⟨?_,by omega⟩;rw[<-h2,<-w7,y9]
theorem AhZ{s:List UInt8}{p:Nat}(h:p=s.length):s.drop p=[]:=by rw[h,tM]
theorem Ah0{s:List UInt8}{p:Nat}(hp:p<=s.length)(h:s.drop p=[]):p=s.length:=by have:=congrArg List.length h;grind
theorem Ahk{s:List UInt8}{a b:Ac}{p:Nat}(h:Ahg s a p=some b):b=a/\FA a/\s.drop p=[]:=by unfold Ahg at h;grind
theorem AhV{s:List UInt8}{a:Ac}(h:AhA s=some a):FA a/\s=Agq a:=by
 unfold AhA at h;obtain⟨⟨k,p1⟩,h1,h⟩:=yB.1 h;obtain⟨w1,e1,l1⟩:=AfX (tD _) h1;rw[tJ]at e1;simp only at h;have one:∀{n:Int},k=n->(zS s p1).bind (λy=>Ahg s (n,PE,y.1,0,0,Xg) y.2)=some a->(n=2\/n=6\/n=7)->FA a/\s=Agq a:=λ{n} hk h hn=>by obtain⟨⟨y,p2⟩,h2,h⟩:=yB.1 h;obtain⟨w2,e2,l2⟩:=AfX l1 h2;obtain⟨rfl,fa,e3⟩:=Ahk h;simp only at e3;refine⟨fa,?_⟩;unfold Agq Ahh;rw[e1,e2,e3,hk,dQ (by simp only;omega),dQ (by simp only;omega),dQ (by simp only;omega),dQ (by simp only;omega)];simp[E0]
 by_cases k1:k=1
 ·rw[dW k1]at h;obtain⟨⟨t,j⟩,h2,h⟩:=yB.1 h;obtain⟨u,h3,h⟩:=yB.1 h;obtain⟨e2,l2⟩:=Aik l1 h2;obtain⟨rfl,fa,e3⟩:=Ahk h;obtain⟨u1,u2,u3,u4,u5,u6⟩:=u;obtain⟨hu,et⟩:=AhU h3;refine⟨fa,?_⟩;unfold Agq;rw[dW rfl,e1,e2,e3,k1,qO];simp only at et;rw[et];rfl
 rw[dQ k1]at h;by_cases k2:k=2
 ·rw[dW k2]at h;exact one k2 h (by omega)
 rw[dQ k2]at h;by_cases k6:k=6
 ·rw[dW k6]at h;exact one k6 h (by omega)
 rw[dQ k6]at h;by_cases k7:k=7
 ·rw[dW k7]at h;exact one k7 h (by omega)
 rw[dQ k7]at h;by_cases k3:k=3
 ·rw[dW k3]at h;obtain⟨⟨y1,p2⟩,h2,h⟩:=yB.1 h;obtain⟨_,e2,l2⟩:=AfX l1 h2;obtain⟨⟨y2,p3⟩,h3,h⟩:=yB.1 h;obtain⟨_,e3,l3⟩:=AfX l2 h3;obtain⟨⟨y3,p4⟩,h4,h⟩:=yB.1 h;obtain⟨_,e4,l4⟩:=AfX l3 h4;obtain⟨⟨y4,p5⟩,h5,h⟩:=yB.1 h;obtain⟨_,e5,l5⟩:=AfX l4 h5;obtain⟨rfl,fa,e6⟩:=Ahk h;simp only at e6;refine⟨fa,?_⟩;unfold Agq Ahh;rw[e1,e2,e3,e4,e5,e6,k3];simp[E0]
 rw[dQ k3]at h;by_cases k4:k=4
 ·rw[dW k4]at h;obtain⟨⟨y1,p2⟩,h2,h⟩:=yB.1 h;obtain⟨_,e2,l2⟩:=AfX l1 h2;obtain⟨⟨y2,p3⟩,h3,h⟩:=yB.1 h;obtain⟨_,e3,l3⟩:=AfX l2 h3;obtain⟨⟨y3,p4⟩,h4,h⟩:=yB.1 h;obtain⟨_,e4,l4⟩:=AfX l3 h4;obtain⟨rfl,fa,e6⟩:=Ahk h;refine⟨fa,?_⟩;unfold Agq Ahh;rw[e1,e2,e3,e4,e6,k4];simp[E0]
 rw[dQ k4]at h;by_cases k5:k=5
 ·rw[dW k5]at h;obtain⟨⟨y1,p2⟩,h2,h⟩:=yB.1 h;obtain⟨_,e2,l2⟩:=AfX l1 h2;obtain⟨⟨y2,p3⟩,h3,h⟩:=yB.1 h;obtain⟨_,e3,l3⟩:=AfX l2 h3;obtain⟨⟨y3,p4⟩,h4,h⟩:=yB.1 h;obtain⟨_,e4,l4⟩:=AfX l3 h4;obtain⟨⟨y4,p5⟩,h5,h⟩:=yB.1 h;obtain⟨_,e5,l5⟩:=AfX l4 h5;obtain⟨⟨y5,p6⟩,h6,h⟩:=yB.1 h;obtain⟨_,e6,l6⟩:=AfX l5 h6;by_cases c:y5=0\/y5=1
  ·rw[dW c]at h;obtain⟨rfl,fa,e7⟩:=Ahk h;refine⟨fa,?_⟩;unfold Agq Ahh;rw[e1,e2,e3,e4,e5,e6,e7,k5];rcases c with rfl|rfl<;>simp[E0]
  ·rw[dQ c]at h;cases h
 rw[dQ k5]at h;cases h
theorem Ah1{a:Ac}(fa:FA a):AhA (Agq a)=some a:=by
 have fin:∀(s:List UInt8)(p:Nat),p<=s.length->s.drop p=[]->Ahg s a p=some a:=λs p hp e=>dW ⟨Ah0 hp e,fa⟩
 have st:∀(s w:List UInt8)(p:Nat)(n:Int),p<=s.length->s.drop p=Lp n++w->p+(Lp n).length<=s.length:=λs w p n hp e=>by have:=congrArg List.length e;rw[sG,jT]at this;omega
 obtain⟨s,hs⟩:∃s,s=Agq a:=⟨_,rfl⟩
 rw[<-hs];unfold AhA;cases fa with
 |build hu=>rename_i u;have e0:s.drop 0=Lp 1++Ahm (Aki u):=hs;obtain⟨r1,d1⟩:=Agn (Agr (by omega)) e0;have l1:=st _ _ _ _ (tD _) e0;rw[r1,pK];simp only;rw[dW trivial,d1];have t1:=Aig (t:=Aki u) (by have:=AhK hu;omega) [];rw[qO]at t1;rw[t1,pK];simp only;rw[AiP hu,pK];have ll:=congrArg List.length d1;rw[sG]at ll;exact fin _ _ (by omega) (by rw[<-w7,d1,tM])
 |remove hi=>rename_i id;have e0:s.drop 0=Lp 2++(Lp id++[]):=hs;obtain⟨r1,d1⟩:=Agn (Agr (by omega)) e0;have l1:=st _ _ _ _ (tD _) e0;obtain⟨r2,d2⟩:=Agn (Agr (by omega)) d1;have l2:=st _ _ _ _ l1 d1;rw[r1,pK];simp only;rw[dQ (by decide),dW trivial,r2,pK];exact fin _ _ l2 d2
 |close hi=>rename_i id;have e0:s.drop 0=Lp 6++(Lp id++[]):=hs;obtain⟨r1,d1⟩:=Agn (Agr (by omega)) e0;have l1:=st _ _ _ _ (tD _) e0;obtain⟨r2,d2⟩:=Agn (Agr (by omega)) d1;have l2:=st _ _ _ _ l1 d1;rw[r1,pK];simp only;rw[dQ (by decide),dQ (by decide),dW trivial,r2,pK];exact fin _ _ l2 d2
 |opn hi=>rename_i id;have e0:s.drop 0=Lp 7++(Lp id++[]):=hs;obtain⟨r1,d1⟩:=Agn (Agr (by omega)) e0;have l1:=st _ _ _ _ (tD _) e0;obtain⟨r2,d2⟩:=Agn (Agr (by omega)) d1;have l2:=st _ _ _ _ l1 d1;rw[r1,pK];simp only;rw[dQ (by decide),dQ (by decide),dQ (by decide),dW trivial,r2,pK];exact fin _ _ l2 d2
 |cut hi hj hd hx hy he=>rename_i id i k j;have e0:s.drop 0=Lp 3++(Lp id++(Lp i++(Lp k++(Lp j++[])))):=hs;obtain⟨r1,d1⟩:=Agn (Agr (by omega)) e0;have l1:=st _ _ _ _ (tD _) e0;obtain⟨r2,d2⟩:=Agn (Agr (by omega)) d1;have l2:=st _ _ _ _ l1 d1;obtain⟨r3,d3⟩:=Agn (Agr (by omega)) d2;have l3:=st _ _ _ _ l2 d2;obtain⟨r4,d4⟩:=Agn (Agr (by omega)) d3;have l4:=st _ _ _ _ l3 d3;obtain⟨r5,d5⟩:=Agn (Agr (by omega)) d4;have l5:=st _ _ _ _ l4 d4;rw[r1,pK];simp only;rw[dQ (by decide),dQ (by decide),dQ (by decide),dQ (by decide),dW trivial,r2,pK,r3,pK,r4,pK,r5,pK];exact fin _ _ l5 d5
 |move hi hx hy hd=>rename_i id x y;have e0:s.drop 0=Lp 4++(Lp id++(Lp x++(Lp y++[]))):=hs;obtain⟨r1,d1⟩:=Agn (Agr (by omega)) e0;have l1:=st _ _ _ _ (tD _) e0;obtain⟨r2,d2⟩:=Agn (Agr (by omega)) d1;have l2:=st _ _ _ _ l1 d1;obtain⟨r3,d3⟩:=Agn (Agr (by omega)) d2;have l3:=st _ _ _ _ l2 d2;obtain⟨r4,d4⟩:=Agn (Agr (by omega)) d3;have l4:=st _ _ _ _ l3 d3;rw[r1,pK];simp only;rw[dQ (by decide),dQ (by decide),dQ (by decide),dQ (by decide),dQ (by decide),dW trivial,r2,pK,r3,pK,r4,pK];exact fin _ _ l4 d4
 |mark hm=>
  rename_i m;have ho:=S3.1 hm;obtain⟨m1,m2,m3,m4,o⟩:=m;simp only at ho;have e0:s.drop 0=Lp 5++(Lp m1++(Lp m2++(Lp m3++(Lp m4++(Lp (if o then 1 else 0)++[]))))):=hs;obtain⟨r1,d1⟩:=Agn (Agr (by omega)) e0;have l1:=st _ _ _ _ (tD _) e0;obtain⟨r2,d2⟩:=Agn (Agr (by omega)) d1;have l2:=st _ _ _ _ l1 d1;obtain⟨r3,d3⟩:=Agn (Agr (by omega)) d2;have l3:=st _ _ _ _ l2 d2;obtain⟨r4,d4⟩:=Agn (Agr (by omega)) d3;have l4:=st _ _ _ _ l3 d3;obtain⟨r5,d5⟩:=Agn (Agr (by omega)) d4;have l5:=st _ _ _ _ l4 d4;obtain⟨r6,d6⟩:=Agn (Agr (by cases o<;>simp)) d5;have l6:=st _ _ _ _ l5 d5;rw[r1,pK]
  simp_all
