import Derived.Test.YtjdchfljifacoaaGreatD9
set_option linter.all false
set_option maxRecDepth 100000
set_option maxHeartbeats 8000000
namespace Go.Proofs.YtjdchfljifacoaaGreat.Am
open Go
section
attribute [local irreducible] Ax BO BB Bj BC Bk AY BD BK Cq
def Id(N:Nat)(l1539:List (Int×Int))(i1540:Int)(k1541:Int):Option ((List (Int×Int))×(List (Int×Int))×Int):=(Cy N l1539).bind λaa=>bif ((!aa)||(decide (min i1540 k1541<0)))||(decide ((l1539.length:Int)<=max i1540 k1541))then(some ([],[],70))else(bif decide (i1540<=k1541)then(gd (Af (k1541+1))<|gd (0<=i1540/\i1540<=k1541+1/\k1541+1<=(l1539.length:Int))<|gd ((l1539.drop i1540.toNat).take ((k1541+1).toNat-i1540.toNat)≠[])<|gd ((((l1539.drop i1540.toNat).take ((k1541+1).toNat-i1540.toNat)).length)*16<=140737488355328)<|bif decide (k1541<=i1540)then(gd (Af (i1540+1))<|gd (0<=k1541/\k1541<=i1540+1/\i1540+1<=(l1539.length:Int))<|gd ((l1539.drop k1541.toNat).take ((i1540+1).toNat-k1541.toNat)≠[])<|gd ((((l1539.drop k1541.toNat).take ((i1540+1).toNat-k1541.toNat)).length)*16<=140737488355328)<|bif decide (min (((l1539.drop i1540.toNat).take ((k1541+1).toNat-i1540.toNat)).length:Int) (((l1539.drop k1541.toNat).take ((i1540+1).toNat-k1541.toNat)).length:Int)<3)then(some ([],[],70))else(some ((l1539.drop i1540.toNat).take ((k1541+1).toNat-i1540.toNat),(l1539.drop k1541.toNat).take ((i1540+1).toNat-k1541.toNat),0)))else(gd (0<=k1541/\k1541<=(l1539.length:Int))<|gd (Af (i1540+1))<|gd (0<=0/\0<=i1540+1/\i1540+1<=(l1539.length:Int))<|(BX N [l1539.drop k1541.toNat,l1539.take ((i1540+1).toNat-0)]).bind λr1544=>bif decide (min (((l1539.drop i1540.toNat).take ((k1541+1).toNat-i1540.toNat)).length:Int) (r1544.length:Int)<3)then(some ([],[],70))else(some ((l1539.drop i1540.toNat).take ((k1541+1).toNat-i1540.toNat),r1544,0))))else(gd (0<=i1540/\i1540<=(l1539.length:Int))<|gd (Af (k1541+1))<|gd (0<=0/\0<=k1541+1/\k1541+1<=(l1539.length:Int))<|(BX N [l1539.drop i1540.toNat,l1539.take ((k1541+1).toNat-0)]).bind λr1546=>bif decide (k1541<=i1540)then(gd (Af (i1540+1))<|gd (0<=k1541/\k1541<=i1540+1/\i1540+1<=(l1539.length:Int))<|gd ((l1539.drop k1541.toNat).take ((i1540+1).toNat-k1541.toNat)≠[])<|gd ((((l1539.drop k1541.toNat).take ((i1540+1).toNat-k1541.toNat)).length)*16<=140737488355328)<|bif decide (min (r1546.length:Int) (((l1539.drop k1541.toNat).take ((i1540+1).toNat-k1541.toNat)).length:Int)<3)then(some ([],[],70))else(some (r1546,(l1539.drop k1541.toNat).take ((i1540+1).toNat-k1541.toNat),0)))else(gd (0<=k1541/\k1541<=(l1539.length:Int))<|gd (Af (i1540+1))<|gd (0<=0/\0<=i1540+1/\i1540+1<=(l1539.length:Int))<|(BX N [l1539.drop k1541.toNat,l1539.take ((i1540+1).toNat-0)]).bind λr1548=>bif decide (min (r1546.length:Int) (r1548.length:Int)<3)then(some ([],[],70))else(some (r1546,r1548,0)))))
@[go_sem] def RH(N:Nat):Spec:=p0<|pS Aq λl1539=>pI λi1540=>pI λk1541=>pE<|pF (Id N l1539 i1540 k1541) ([],[],0) λr=>.tup [BP r.1,BP r.2.1,.i r.2.2]
theorem yL(N:Nat):AG Tryz.prog 153 (RH N):=by
 refine Ar x153.ok<|AF λl1539=>Aa λi1540=>Aa λk1541=>Ad<|As λr h=>wx x153 (Ab (P8 N)<|Ab (yK N)<|Aj) λ_ hS F=>?_
 dsimp only[x153,Ah,Aq];unfold Id at h;obtain⟨aa,ah,h⟩:=un h;replace F:=fc ah F;refine An hS F h (λ_ h=>?_) (λ_ h=>?_)
 ·exact Ai hS F h
 ·refine go hS F ?_;refine TR hS 3 7 (by decide) x192.hf x192.hc x192.hn x192.ok x192.hf x192.hc x192.hn x192.ok rfl rfl (ev F) (ev F) (ev F) ?_ rfl (ev F) (kM rfl) λhb=>?_
  ·exact Bl hS F
  dsimp only[x192,Ah];refine An hS F h (λ_ h=>?_) (λ_ h=>?_)
  ·obtain⟨bm,bl,h⟩:=un h;refine go hS F ?_;refine GO hS 5 x87.hf x87.hc x87.hn x87.ok rfl (ev F) (ev F) ?_ rfl (ev F) (kM rfl) λhb=>?_
   ·exact Bl hS F
   dsimp only[x87,Ah];obtain⟨bj,h⟩:=un h;refine KR hS F ?_;obtain⟨bi,h⟩:=un h;refine go hS F ?_
   first|refine Vt (ev F) (ev F) ?_ ?_ rfl (ev F) (by simp) λhb=>?_|refine Vs (ev F) (ev F) ?_ ?_ rfl (ev F) (by simp) λhb=>?_
   ·exact Bl hS F
   ·exact Bl hS F
   try dsimp only[x192,Ah]
   refine An hS F h (λ_ h=>?_) (λ_ h=>?_)
   ·obtain⟨bh,bg,h⟩:=un h;refine go hS F ?_;refine GO hS 5 x87.hf x87.hc x87.hn x87.ok rfl (ev F) (ev F) ?_ rfl (ev F) (kM rfl) λhb=>?_
    ·exact Bl hS F
    dsimp only[x87,Ah];obtain⟨bf,h⟩:=un h;refine KR hS F ?_;obtain⟨be,h⟩:=un h;refine An hS F h (λ_ h=>?_) (λ_ h=>?_)
    ·exact Ai hS F h
    ·exact Ai hS F h
   ·obtain⟨bb,ba,az,r1544,af,h⟩:=un h;replace F:=fc af F;refine An hS F h (λ_ h=>?_) (λ_ h=>?_)
    ·exact Ai hS F h
    ·exact Ai hS F h
  ·obtain⟨ay,aw,av,r1546,ae,h⟩:=un h;replace F:=fc ae F;refine go hS F ?_
   first|refine Vt (ev F) (ev F) ?_ ?_ rfl (ev F) (by simp) λhb=>?_|refine Vs (ev F) (ev F) ?_ ?_ rfl (ev F) (by simp) λhb=>?_
   ·exact Bl hS F
   ·exact Bl hS F
   try dsimp only[x192,Ah]
   refine An hS F h (λ_ h=>?_) (λ_ h=>?_)
   ·obtain⟨au,aq,h⟩:=un h;refine go hS F ?_;refine GO hS 5 x87.hf x87.hc x87.hn x87.ok rfl (ev F) (ev F) ?_ rfl (ev F) (kM rfl) λhb=>?_
    ·exact Bl hS F
    dsimp only[x87,Ah];obtain⟨an,h⟩:=un h;refine KR hS F ?_;obtain⟨am,h⟩:=un h;refine An hS F h (λ_ h=>?_) (λ_ h=>?_)
    ·exact Ai hS F h
    ·exact Ai hS F h
   ·obtain⟨ak,aj,ai,r1548,ab,h⟩:=un h;replace F:=fc ab F;refine An hS F h (λ_ h=>?_) (λ_ h=>?_)
    ·exact Ai hS F h
    ·exact Ai hS F h
end
section
attribute [local irreducible] Ax BO BB Bj BC Bk AY BD BK Cq
attribute [local irreducible] E3
noncomputable def x189:=Ah (f:=189) AD Tryz.func189 []
theorem SI{P:Program}{f:Nat}{S:Tab}{args:List AV}{r:AV}(x:FnX P f)(hS:TabOK P S)(h:∀hb,TabOK P S->([]:List Nat).length=0->Ax (Ctx.fd P S x.nt hb) x.c (Q5 P S x.nt x.rv r) ⟨(dk x.nt,.gd false (.tup []))::BQ 0 args,[],0⟩)(hn:args.length<=x.nt:=by exact kM rfl):PCall P f args r:=Vv hS x.nt x.hf x.hc x.hn hn λhb=>h hb hS rfl
abbrev Acf:AV:=.agg [Ap [],AS []]
theorem dJ{S:Tab}(hS:TabOK Tryz.prog S){e:Az}{h:Hp}{c:Nat}(ek:lk e (dk 38)=.gd false (.clo (.func 100) [] [.box (2,1) 0,.box (3,1) 0]))(e4:lk e 4=.box (2,1) 0)(e5:lk e 5=.box (3,1) 0)(hh:(FP (hl h (.c (2,1) 0))&&FP (hl h (.c (2,1) 1))&&FP (hl h (.c (3,1) 0)))=true):Q5 Tryz.prog S 38 x57.rv (.tup [Acf,.i 170]) (.p Qe) ⟨e,h,c⟩:=by simp only[fW,TD]at hh;obtain⟨⟨⟨c0,h0,k0⟩,⟨c1,h1,k1⟩⟩,⟨c2,h2,k2⟩⟩:=hh;refine⟨_,_,ek,_,_,_,_,_,_,x100.hf,x100.hc,x100.hn,kM rfl,x100.ok,rfl,λhb2=>?_⟩;dsimp only[x100,Ah,Qe];have hOK2:=Ctx.fd_ok (nt:=16) (hb:=hb2) hS;have F:=fc h0 (fc h1 (fc h2 (fc k0 (fc k1 (fc k2 (fc e4 (fc e5 f0)))))));refine go hS F ?_;refine ct F ?_;refine go hS F ?_;refine Oi ⟨by simp only[go_sem,seval,F],?_⟩;dsimp only[x57,Ah];exact⟨_,_,ev F,by simp only[go_sem,seval,F],by simp only[go_sem,seval,F],.of (by simp only[go_sem,seval,F]),rfl⟩
theorem dK{P:Program}{S:Tab}{nt:Nat}{rvs:List RV}{r r':AV}{k:AE}{s:St}(h:r=r')(hk:Q5 P S nt rvs r' k s):Q5 P S nt rvs r k s:=h▸hk
theorem Aac{P:Program}{S:Tab}{nt:Nat}{rvs:List RV}{r:AV}{e:Az}{h:Hp}{c:Nat}{vc:Prop}{xs:List AV}(ek:lk e (dk nt)=.gd false (.tup []))(h1:DS e h rvs=some (vc,xs))(h2:vc)(h3:Gn h (one xs))(h4:HD (res h (one xs)) r)(h5:B2 r=true):Q5 P S nt rvs r .r ⟨e,h,c⟩:=.inl ⟨ek,vc,xs,h1,h2,h3,.ofD h4,h5⟩
theorem sS{S:Tab}(hS:TabOK Tryz.prog S){e:Az}{h:Hp}{c:Nat}{r:AV}{vc:Prop}{xs:List AV}(ek:lk e (dk 38)=.gd false (.clo (.func 100) [] [.box (2,1) 0,.box (3,1) 0]))(h1:DS e h [.c 4 2 true,.c 5 1 false]=some (vc,xs))(h2:vc)(h3:Gn h (one xs))(h4:HD (res h (one xs)) r)(h5:B2 r=true):Q5 Tryz.prog S 38 [.c 4 2 true,.c 5 1 false] r .r ⟨e,h,c⟩:=by refine .inr ⟨_,_,ek,_,_,_,_,_,_,x100.hf,x100.hc,x100.hn,kM rfl,x100.ok,rfl,λhb2=>?_⟩;dsimp only[x100,Ah];have hOK2:=Ctx.fd_ok (nt:=16) (hb:=hb2) hS;have F:=f0;refine go hS F ?_;refine cf F ?_;refine go hS F ?_;refine cf F ?_;refine go hS F ?_;refine Oi ⟨by simp only[go_sem,seval,F],?_⟩;exact⟨vc,xs,h1,h2,h3,.ofD h4,h5⟩
theorem IQ{S:Tab}{F G:Prop}{E:Type}{a r:E}(hS:TabOK Tryz.prog S)(f:F)(h:some a=some r)(t:TabOK Tryz.prog S->(r=a/\F)->G:=by
 intro hS f;refine dK ?_ (dJ hS ?_ ?_ ?_ ?_)
 ·simp only[go_sem,seval,f]<;>eq_refl
 all_goals (simp only[go_sem,seval,f]<;>eq_refl)):G:=t hS ⟨(yJ h).symm,f⟩
theorem Ug{S:Tab}{F G:Prop}{E:Type}{a r:E}(hS:TabOK Tryz.prog S)(f:F)(h:some a=some r)(t:TabOK Tryz.prog S->(r=a/\F)->G:=by
 intro hS f
 repeat' (first
  |(with_reducible (first|apply DD|apply EA|apply Eu|apply FL|apply DE|apply DF|apply GD|apply GE);(·(first|exact Ctx.fn_ok hS|exact Ctx.rd_ok hS|assumption|exact yT|exact Ctx.rdG_ok hS));iterate 2 (·(simp only[go_sem,seval,f]<;>eq_refl)))
  |with_reducible (first|apply Dz|apply En|apply Di|apply Dj|apply CX|apply Cw|apply CK|apply DW|apply Ec|apply Eo|apply Ep|apply Er|apply Es)
  |(with_reducible apply Et;(·first|rfl|decide))
  |(with_reducible apply A4;(·simp))
  |with_reducible (first|apply HV|apply HW|apply HX|apply DB|apply DC|apply Ex|apply Ey|apply Ez|apply yT|apply And.intro yT yT)
  |(fail_if_success with_reducible apply G1);(fail_if_success with_reducible apply Ew);first|with_reducible apply And.intro|omega|(simp only[go_sem,seval,f];done)|with_reducible assumption|(refine And.intro ?_ ?_)|(intro hg;simp_all;done)|decide|grind)
 refine Aac (by simp only[go_sem,seval,f]<;>eq_refl) (by simp only[go_sem,seval,f]<;>eq_refl) (by simp only[go_sem,seval,f]) (by simp only[go_sem,seval,f]) ?_ rfl
 first|(simp only[go_sem,seval,f];done)|(simp[f,HD,Ib,Hk,HS,wk];done)):G:=t hS ⟨(yJ h).symm,f⟩
theorem SJ{S:Tab}{F G:Prop}{E:Type}{a r:E}(hS:TabOK Tryz.prog S)(f:F)(h:some a=some r)(t:TabOK Tryz.prog S->(r=a/\F)->G:=by
 intro hS f
 repeat' (first
  |(with_reducible (first|apply DD|apply EA|apply Eu|apply FL|apply DE|apply DF|apply GD|apply GE);(·(first|exact Ctx.fn_ok hS|exact Ctx.rd_ok hS|assumption|exact yT|exact Ctx.rdG_ok hS));iterate 2 (·(simp only[go_sem,seval,f]<;>eq_refl)))
  |with_reducible (first|apply Dz|apply En|apply Di|apply Dj|apply CX|apply Cw|apply CK|apply DW|apply Ec|apply Eo|apply Ep|apply Er|apply Es)
  |(with_reducible apply Et;(·first|rfl|decide))
  |(with_reducible apply A4;(·simp))
  |with_reducible (first|apply HV|apply HW|apply HX|apply DB|apply DC|apply Ex|apply Ey|apply Ez|apply yT|apply And.intro yT yT)
  |(fail_if_success with_reducible apply G1);(fail_if_success with_reducible apply Ew);first|with_reducible apply And.intro|omega|(simp only[go_sem,seval,f];done)|with_reducible assumption|(refine And.intro ?_ ?_)|(intro hg;simp_all;done)|decide|grind)
 refine sS hS (by simp only[go_sem,seval,f]<;>eq_refl) (by simp only[go_sem,seval,f]<;>eq_refl) (by simp only[go_sem,seval,f]) (by simp only[go_sem,seval,f]) ?_ rfl
 first|(simp only[go_sem,seval,f];done)|(simp[f,HD,Ib,Hk,HS,wk];done)):G:=t hS ⟨(yJ h).symm,f⟩
theorem Wv{E:Type}(e:E->List AV){l:List E}{i:Int}(h:0<=i/\i<=(l.length:Int)):∀n z,List.take (i.toNat-0) (List.map e (List.take i.toNat l)++List.replicate n z)=List.map e (List.take i.toNat l):=λn z=>by
 have:i.toNat-0=(List.map e (List.take i.toNat l)).length:=by simp;omega
 rw[this,List.take_left]
theorem Aad(N:Nat):∀a b,FR N 0 0 0 [] 0 0 a b=some ((0,0,0,[],0,0),80):=λa b=>by simp[FR,FT,Cy,gd]
end
section
attribute [local irreducible] Ax BO BB Bj BC Bk AY BD BK Cq
attribute [local irreducible] E3
attribute [local go_sem] kF Nj JT JU qU yU oI qv K2 List.map_replicate List.map_set
def IU(N:Nat)(aa:List (Int×Int×Int×(List (Int×Int))×Int×Int))(from2:List (Int×Int×Int×Int×Bool))(a4:Int)(a5:Int)(a6:Int)(a7:List (Int×Int))(a8:Int)(a9:Int)(am:Int)(ak:Int)(aj:Int)(ai:Int)(ah:Int)(af:Int)(ae:Int)(ab:Bool):Option (((List (Int×Int×Int×(List (Int×Int))×Int×Int))×(List (Int×Int×Int×Int×Bool)))×Int):=(Fj N a4 a5 a6 a7 a8 a9 am ak aj ai ah af ae ab).bind λbf=>bif !bf then(some (([],[]),170))else((Ge N aa).bind λba=>gd (from2.length*40<=140737488355328)<|(Fd N ba a4 a5 a6 a7 a8 a9).bind λ(an,be)=>bif !(decide (be=0))then(some (([],[]),170))else((CV N an from2).bind λbb=>bif !bb then(some (([],[]),170))else((Ge N an).bind λaz=>gd (from2.length*40<=140737488355328)<|some ((az,from2),0))))
@[go_sem] def AaL(N:Nat):Spec:=p0<|pG<|pD Ak λaa=>pD AA λfrom2=>pE<|pG<|pC 1<|pI λa4=>pI λa5=>pI λa6=>pD Aq λa7=>pI λa8=>pI λa9=>pI λam=>pI λak=>pI λaj=>pI λai=>pI λah=>pI λaf=>pI λae=>pB λab=>pE<|pE<|pF (IU N aa from2 a4 a5 a6 a7 a8 a9 am ak aj ai ah af ae ab) (([],[]),0) λr=>.tup [.agg [Ap r.1.1,AS r.1.2],.i r.2]
theorem lF(N:Nat):AG Tryz.prog 57 (AaL N):=by
 refine Ar x57.ok<|Aw<|AM λaa=>AM λfrom2=>Ad<|Aw<|Dn<|Aa λa4=>Aa λa5=>Aa λa6=>AM λa7=>Aa λa8=>Aa λa9=>Aa λam=>Aa λak=>Aa λaj=>Aa λai=>Aa λah=>Aa λaf=>Aa λae=>AX λab=>Ad<|Ad<|As λr h=>SI x57 (BG (Ab (Nk N)<|Ab (Wm N)<|Ab (NY N)<|Aj) (L3 N) (CP N) H3 (H2 N)) λhb hS F=>?_
 dsimp only[x57,Ah,Aq,AA,Ak];have hOK:=Ctx.fd_ok (nt:=38) (hb:=hb) hS;unfold IU at h;obtain⟨bf,ay,h⟩:=un h;replace F:=fc ay F;refine An hS F h (λ_ h=>?_) (λ_ h=>?_)
 ·exact Ug hS F h
 ·refine go hS F ?_;refine JH hS 1 rfl rfl (ev F) yT (ev F) (ev F) ?_;obtain⟨ba,aw,bh,h⟩:=un h;replace F:=fc aw F;refine go hS F ?_;refine BN hS 4 x133.hf x133.hc x133.hn x133.ok rfl (ev F) (ev F) ?_ rfl (ev F) (kM rfl) λhb=>?_
  ·exact Bl hS F
  dsimp only[x133,Ah];refine go hS F ?_;refine AZ hS 3 x134.hf x134.hc x134.hn x134.ok rfl (ev F) (ev F) ?_ rfl (ev F) (kM rfl) λhb=>?_
  ·exact Bl hS F
  dsimp only[x134,Ah];obtain⟨⟨an,be⟩,av,h⟩:=un h;replace F:=fc av F;refine go hS F ?_;refine AZ hS 2 x77.hf x77.hc x77.hn x77.ok rfl (ev F) (ev F) ?_ rfl (ev F) (kM rfl) λhb=>?_
  ·exact Bl hS F
  dsimp only[x77,Ah];refine An hS F h (λ_ h=>?_) (λ_ h=>?_)
  ·refine go hS F ?_;refine Bf (Ctx.fn_ok hS) 2 rfl rfl (ev F) (ev F) (ev F) ?_
   repeat' (first|with_reducible (first|apply A8|apply A9|apply Bh|apply AR|apply Bx)|((with_reducible apply A4);(·simp)))
   exact IQ hS F h
  ·obtain⟨bb,au,h⟩:=un h;replace F:=fc au F;refine go hS F ?_;refine BN hS 5 x77.hf x77.hc x77.hn x77.ok rfl (ev F) (ev F) ?_ rfl (ev F) (kM rfl) λhb=>?_
   ·exact Bl hS F
   dsimp only[x77,Ah];refine An hS F h (λ_ h=>?_) (λ_ h=>?_)
   ·refine go hS F ?_;refine Bf (Ctx.fn_ok hS) 2 rfl rfl (ev F) (ev F) (ev F) ?_
    repeat' (first|with_reducible (first|apply A8|apply A9|apply Bh|apply AR|apply Bx)|((with_reducible apply A4);(·simp)))
    exact IQ hS F h
   ·obtain⟨az,aq,bg,h⟩:=un h;exact SJ hS (fc aq F) h
end
section
attribute [local irreducible] Ax BO BB Bj BC Bk AY BD BK Cq
attribute [local irreducible] E3
attribute [local go_sem] kF Nj JT JU qU yU oI qv K2 List.map_replicate List.map_set
def D8(N:Nat)(ae:Int):Nat->Int->Int->(List (Int×Int×Int×Int×Bool))->Option (Int×(List (Int×Int×Int×Int×Bool)))|0,_,_,_=>none|n+1,i53,af,l55=>bif decide (af<(l55.length:Int))then((A7 l55 af).bind λ(x56,x57,x58,x59,x60)=>(CF N x56 x57 x58 x59 x60 ae).bind λbq=>bif !bq then((A7 l55 i53).bind λ(x70,x71,x72,x73,x74)=>gd (Af (i53+1))<|gd (Af (af+1))<|D8 N ae n (i53+1) (af+1) (l55.set i53.toNat (x56,x57,x58,x59,x60)))else(gd (Af (af+1))<|D8 N ae n i53 (af+1) l55))else(some (i53,l55))
def IV(N:Nat)(ab:List (Int×Int×Int×(List (Int×Int))×Int×Int))(from2:List (Int×Int×Int×Int×Bool))(a4:Int)(a5:Int)(a6:Int)(a7:List (Int×Int))(a8:Int)(a9:Int)(ae:Int)(aq:Int)(an:Int)(am:Int)(ak:Int)(aj:Int)(ai:Int)(ah:Bool):Option (((List (Int×Int×Int×(List (Int×Int))×Int×Int))×(List (Int×Int×Int×Int×Bool)))×Int):=(Fk N a4 a5 a6 a7 a8 a9 ae aq an am ak aj ai ah).bind λbu=>bif !bu then(some (([],[]),170))else((Ge N ab).bind λbo=>gd (from2.length*40<=140737488355328)<|(FY N bo ae).bind λ(av,br)=>bif !(decide (br=0))then(some (([],[]),170))else((Bt N from2 ae).bind λau=>bif decide (au=(-1))then((CV N av from2).bind λr27=>bif !r27 then(some (([],[]),170))else((Ge N av).bind λbn=>gd (from2.length*40<=140737488355328)<|some ((bn,from2),0)))else(gd (Af (au+1))<|(D8 N ae N au (au+1) from2).bind λ(i81,l82)=>gd (0<=i81/\i81<=(l82.length:Int))<|gd (0<=0/\0<=i81/\i81<=((l82.take i81.toNat++(List.replicate (l82.length-i81.toNat) (0,0,0,0,false):List (Int×Int×Int×Int×Bool))).length:Int))<|(CV N av (l82.take i81.toNat)).bind λbp=>bif !bp then(some (([],[]),170))else((Ge N av).bind λbm=>gd ((l82.take i81.toNat).length*40<=140737488355328)<|some ((bm,l82.take i81.toNat),0)))))
@[go_sem] def AaM(N:Nat):Spec:=p0<|pG<|pD Ak λab=>pD AA λfrom2=>pE<|pG<|pC 2<|pI λa4=>pI λa5=>pI λa6=>pD Aq λa7=>pI λa8=>pI λa9=>pI λae=>pI λaq=>pI λan=>pI λam=>pI λak=>pI λaj=>pI λai=>pB λah=>pE<|pE<|pF (IV N ab from2 a4 a5 a6 a7 a8 a9 ae aq an am ak aj ai ah) (([],[]),0) λr=>.tup [.agg [Ap r.1.1,AS r.1.2],.i r.2]
theorem lG(N:Nat):AG Tryz.prog 57 (AaM N):=by
 refine Ar x57.ok<|Aw<|AM λab=>AM λfrom2=>Ad<|Aw<|Dn<|Aa λa4=>Aa λa5=>Aa λa6=>AM λa7=>Aa λa8=>Aa λa9=>Aa λae=>Aa λaq=>Aa λan=>Aa λam=>Aa λak=>Aa λaj=>Aa λai=>AX λah=>Ad<|Ad<|As λr h=>SI x57 (BG (Ab (Nl N)<|Ab (Wn N)<|Ab (Rh N)<|Ab (NY N)<|Ab (Wu N)<|Aj) (L3 N) (CP N) H3 (H2 N)) λhb hS F=>?_
 dsimp only[x57,Ah,Aq,AA,Ak];have hOK:=Ctx.fd_ok (nt:=38) (hb:=hb) hS;unfold IV at h;obtain⟨bu,bh,h⟩:=un h;replace F:=fc bh F;refine An hS F h (λ_ h=>?_) (λ_ h=>?_)
 ·exact Ug hS F h
 ·refine go hS F ?_;refine JH hS 1 rfl rfl (ev F) yT (ev F) (ev F) ?_;obtain⟨bo,bg,cq,h⟩:=un h;replace F:=fc bg F;refine go hS F ?_;refine BN hS 4 x142.hf x142.hc x142.hn x142.ok rfl (ev F) (ev F) ?_ rfl (ev F) (kM rfl) λhb=>?_
  ·exact Bl hS F
  dsimp only[x142,Ah];refine go hS F ?_;refine AZ hS 3 x143.hf x143.hc x143.hn x143.ok rfl (ev F) (ev F) ?_ rfl (ev F) (kM rfl) λhb=>?_
  ·exact Bl hS F
  dsimp only[x143,Ah];obtain⟨⟨av,br⟩,bf,h⟩:=un h;replace F:=fc bf F;refine go hS F ?_;refine AZ hS 2 x77.hf x77.hc x77.hn x77.ok rfl (ev F) (ev F) ?_ rfl (ev F) (kM rfl) λhb=>?_
  ·exact Bl hS F
  dsimp only[x77,Ah];refine An hS F h (λ_ h=>?_) (λ_ h=>?_)
  ·refine go hS F ?_;refine Bf (Ctx.fn_ok hS) 2 rfl rfl (ev F) (ev F) (ev F) ?_
   repeat' (first|with_reducible (first|apply A8|apply A9|apply Bh|apply AR|apply Bx)|((with_reducible apply A4);(·simp)))
   exact IQ hS F h
  ·refine go hS F ?_;refine AZ hS 3 x144.hf x144.hc x144.hn x144.ok rfl (ev F) (ev F) ?_ rfl (ev F) (kM rfl) λhb=>?_
   ·exact Bl hS F
   dsimp only[x144,Ah];refine go hS F ?_;refine AZ hS 7 x189.hf x189.hc x189.hn x189.ok rfl (ev F) (ev F) ?_ rfl (ev F) (kM rfl) λhb=>?_
   ·exact Bl hS F
   dsimp only[x189,Ah];obtain⟨au,be,h⟩:=un h;replace F:=fc be F;refine An hS F h (λ_ h=>?_) (λ_ h=>?_)
   ·obtain⟨r27,bb,h⟩:=un h;replace F:=fc bb F;refine go hS F ?_;refine BN hS 5 x77.hf x77.hc x77.hn x77.ok rfl (ev F) (ev F) ?_ rfl (ev F) (kM rfl) λhb=>?_
    ·exact Bl hS F
    dsimp only[x77,Ah];refine An hS F h (λ_ h=>?_) (λ_ h=>?_)
    ·refine go hS F ?_;refine Bf (Ctx.fn_ok hS) 2 rfl rfl (ev F) (ev F) (ev F) ?_
     repeat' (first|with_reducible (first|apply A8|apply A9|apply Bh|apply AR|apply Bx)|((with_reducible apply A4);(·simp)))
     exact IQ hS F h
    ·obtain⟨bn,ba,co,h⟩:=un h;exact SJ hS (fc ba F) h
   ·obtain⟨cn,h⟩:=un h;obtain⟨bv,ci,h⟩:=un h;refine go hS F ?_;refine Bz bv (λz:Int×(List (Int×Int×Int×Int×Bool))×Nat=>⟨[(0,.own (501,5) z.2.1.length),(5,.i z.1)],[(.c (0,16) 0,.i ae),(.a (501,5),EH z.2.1),(.c (503,5) 0,Ap av),(.c (503,5) 1,.own (501,5) z.2.1.length),(.c (0,7) 0,.i 2),(.c (0,7) 1,.i a4),(.c (0,7) 2,.i a5),(.c (0,7) 3,.i a6),(.c (0,7) 4,BP a7),(.c (0,7) 5,.i a8),(.c (0,7) 6,.i a9),(.c (0,7) 7,.i ae),(.c (0,7) 8,.i aq),(.c (0,7) 9,.i an),(.c (0,7) 10,.i am),(.c (0,7) 11,.i ak),(.c (0,7) 12,.i aj),(.c (0,7) 13,.i ai),(.c (0,7) 14,.b ah),(.c (105,2) 0,.clo (.func 139) [] []),(.c (105,2) 1,.clo (.func 141) [] []),(.c (105,2) 2,.clo (.func 142) [] []),(.c (105,2) 3,.clo (.func 145) [] []),(.c (105,2) 4,.clo (.func 149) [] []),(.c (3,1) 0,.i 0),(.c (2,1) 0,.sl 0 true [] []),(.c (2,1) 1,.sl 0 true [] []),(.c (1,1) 0,.i 2),(.c (1,1) 1,.i a4),(.c (1,1) 2,.i a5),(.c (1,1) 3,.i a6),(.c (1,1) 4,BP a7),(.c (1,1) 5,.i a8),(.c (1,1) 6,.i a9),(.c (1,1) 7,.i ae),(.c (1,1) 8,.i aq),(.c (1,1) 9,.i an),(.c (1,1) 10,.i am),(.c (1,1) 11,.i ak),(.c (1,1) 12,.i aj),(.c (1,1) 13,.i ai),(.c (1,1) 14,.b ah),(.c (0,1) 0,Ap ab),(.c (0,1) 1,AS from2)],z.2.2⟩) (λz=>((z.1,z.2.1):Int×(List (Int×Int×Int×Int×Bool)))) (.x 0) ?_ ?_
    ·refine Bp (λn (y:Int×Int×(List (Int×Int×Int×Int×Bool))×Nat)=>D8 N ae n y.1 y.2.1 y.2.2.1) (λy=>⟨[(0,.own (501,5) y.2.2.1.length),(1,.clo (.func 190) [] [.box (0,16) 0]),(5,.i y.1),(6,.i y.2.1)],[(.c (0,16) 0,.i ae),(.a (501,5),EH y.2.2.1),(.c (503,5) 0,Ap av),(.c (503,5) 1,.own (501,5) y.2.2.1.length),(.c (0,7) 0,.i 2),(.c (0,7) 1,.i a4),(.c (0,7) 2,.i a5),(.c (0,7) 3,.i a6),(.c (0,7) 4,BP a7),(.c (0,7) 5,.i a8),(.c (0,7) 6,.i a9),(.c (0,7) 7,.i ae),(.c (0,7) 8,.i aq),(.c (0,7) 9,.i an),(.c (0,7) 10,.i am),(.c (0,7) 11,.i ak),(.c (0,7) 12,.i aj),(.c (0,7) 13,.i ai),(.c (0,7) 14,.b ah),(.c (105,2) 0,.clo (.func 139) [] []),(.c (105,2) 1,.clo (.func 141) [] []),(.c (105,2) 2,.clo (.func 142) [] []),(.c (105,2) 3,.clo (.func 145) [] []),(.c (105,2) 4,.clo (.func 149) [] []),(.c (3,1) 0,.i 0),(.c (2,1) 0,.sl 0 true [] []),(.c (2,1) 1,.sl 0 true [] []),(.c (1,1) 0,.i 2),(.c (1,1) 1,.i a4),(.c (1,1) 2,.i a5),(.c (1,1) 3,.i a6),(.c (1,1) 4,BP a7),(.c (1,1) 5,.i a8),(.c (1,1) 6,.i a9),(.c (1,1) 7,.i ae),(.c (1,1) 8,.i aq),(.c (1,1) 9,.i an),(.c (1,1) 10,.i am),(.c (1,1) 11,.i ak),(.c (1,1) 12,.i aj),(.c (1,1) 13,.i ai),(.c (1,1) 14,.b ah),(.c (0,1) 0,Ap ab),(.c (0,1) 1,AS from2)],y.2.2.2⟩) (au,au+1,from2,21) ci (Ch F) ?_;rintro n ⟨i53,af,l55,bl⟩ aa;simp only[D8]at aa;refine An hS F aa (λ_ aa=>?_) (λ_ aa=>?_)
     ·obtain⟨⟨x56,x57,x58,x59,x60⟩,bj,aa⟩:=un aa;obtain⟨ce,F⟩:=Cb BZ bj F;obtain⟨bq,az,aa⟩:=un aa;replace F:=fc az F;refine An hS F aa (λ_ aa=>?_) (λ_ aa=>?_)
      ·obtain⟨⟨x70,x71,x72,x73,x74⟩,bi,aa⟩:=un aa;obtain⟨b9,F⟩:=Cb BZ bi F;obtain⟨cm,ck,aa⟩:=un aa;exact Cd hS F (n,i53+1,af+1,l55.set i53.toNat (x56,x57,x58,x59,x60),bl+1+1+1+1+1+1) aa
      ·obtain⟨cj,aa⟩:=un aa;exact Cd hS F (n,i53,af+1,l55,bl+1+1+1+1) aa
     ·exact B4 hS F (i53,l55,bl+1) aa
    ·rintro⟨i81,l82,cr⟩ rfl;obtain⟨bw,h⟩:=un h;refine go hS F ?_;refine Wl (Ctx.fn_ok hS) 2 rfl rfl rfl (ev F) (ev F) (ev F) (ev F) (ev F) (ev F) (by simp only[mW];omega) rfl rfl ?_;replace F:=fc (Wv BZ bw) F;obtain⟨b7,bp,ay,h⟩:=un h;replace F:=fc ay F;refine go hS F ?_;refine BN hS 5 x77.hf x77.hc x77.hn x77.ok rfl (ev F) (ev F) ?_ rfl (ev F) (kM rfl) λhb=>?_
     ·exact Bl hS F
     dsimp only[x77,Ah];refine An hS F h (λ_ h=>?_) (λ_ h=>?_)
     ·refine go hS F ?_;refine Bf (Ctx.fn_ok hS) 2 rfl rfl (ev F) (ev F) (ev F) ?_
      repeat' (first|with_reducible (first|apply A8|apply A9|apply Bh|apply AR|apply Bx)|((with_reducible apply A4);(·simp)))
      exact IQ hS F h
     ·obtain⟨bm,aw,bz,h⟩:=un h;exact SJ hS (fc aw F) h
end
attribute [local irreducible] Ax BO BB Bj BC Bk AY BD BK Cq
attribute [local irreducible] E3
attribute [local go_sem] kF Nj JT JU qU yU oI qv K2 List.map_replicate List.map_set
def D9(N:Nat)(ak:Int):Nat->Int->Int->(List (Int×Int×Int×Int×Bool))->Option (Int×(List (Int×Int×Int×Int×Bool)))|0,_,_,_=>none|n+1,i158,aj,l160=>bif decide (aj<(l160.length:Int))then((A7 l160 aj).bind λ(x161,x162,x163,x164,x165)=>(CF N x161 x162 x163 x164 x165 ak).bind λce=>bif !ce then((A7 l160 i158).bind λ(x175,ee,Ada,x178,x179)=>gd (Af (i158+1))<|gd (Af (aj+1))<|D9 N ak n (i158+1) (aj+1) (l160.set i158.toNat (x161,x162,x163,x164,x165)))else(gd (Af (aj+1))<|D9 N ak n i158 (aj+1) l160))else(some (i158,l160))
def IW(N:Nat)(aa:List (Int×Int×Int×(List (Int×Int))×Int×Int))(from89:List (Int×Int×Int×Int×Bool))(ay:Int)(bm:Int)(bl:Int)(bj:List (Int×Int))(bi:Int)(bh:Int)(ak:Int)(bg:Int)(bf:Int)(av:Int)(au:Int)(aq:Int)(an:Int)(am:Bool):Option (((List (Int×Int×Int×(List (Int×Int))×Int×Int))×(List (Int×Int×Int×Int×Bool)))×Int):=(Fl N ay bm bl bj bi bh ak bg bf av au aq an am).bind λcr=>bif !cr then(some (([],[]),170))else((Ge N aa).bind λbn=>gd (from89.length*40<=140737488355328)<|(Dk N bn ak).bind λ((be,ai,ah,cq,af,ae),bq)=>bif bq then((Id N cq bg bf).bind λ(bb,ba,co)=>bif !(decide (co=0))then(some (([],[]),170))else((FY N bn ak).bind λ(az,cn)=>bif !(decide (cn=0))then(some (([],[]),170))else((Bt N from89 ak).bind λaw=>bif decide (aw=(-1))then((Fd N az be ai ah bb af ae).bind λ(cm,ck)=>bif !(decide (ck=0))then(some (([],[]),170))else((Fd N cm ay ai ah ba af ae).bind λ(bp,cj)=>bif !(decide (cj=0))then(some (([],[]),170))else((CV N bp from89).bind λci=>bif !ci then(some (([],[]),170))else((Ge N bp).bind λbv=>gd (from89.length*40<=140737488355328)<|some ((bv,from89),0)))))else(gd (Af (aw+1))<|(D9 N ak N aw (aw+1) from89).bind λ(i186,l187)=>gd (0<=i186/\i186<=(l187.length:Int))<|gd (0<=0/\0<=i186/\i186<=((l187.take i186.toNat++(List.replicate (l187.length-i186.toNat) (0,0,0,0,false):List (Int×Int×Int×Int×Bool))).length:Int))<|(Fd N az be ai ah bb af ae).bind λ(b9,b7)=>bif !(decide (b7=0))then(some (([],[]),170))else((Fd N b9 ay ai ah ba af ae).bind λ(bo,bz)=>bif !(decide (bz=0))then(some (([],[]),170))else((CV N bo (l187.take i186.toNat)).bind λbw=>bif !bw then(some (([],[]),170))else((Ge N bo).bind λbu=>gd ((l187.take i186.toNat).length*40<=140737488355328)<|some ((bu,l187.take i186.toNat),0))))))))else(some (([],[]),170)))
@[go_sem] def AaN(N:Nat):Spec:=p0<|pG<|pD Ak λaa=>pD AA λfrom89=>pE<|pG<|pC 3<|pI λay=>pI λbm=>pI λbl=>pD Aq λbj=>pI λbi=>pI λbh=>pI λak=>pI λbg=>pI λbf=>pI λav=>pI λau=>pI λaq=>pI λan=>pB λam=>pE<|pE<|pF (IW N aa from89 ay bm bl bj bi bh ak bg bf av au aq an am) (([],[]),0) λr=>.tup [.agg [Ap r.1.1,AS r.1.2],.i r.2]
theorem lH(N:Nat):AG Tryz.prog 57 (AaN N):=by
 refine Ar x57.ok<|Aw<|AM λaa=>AM λfrom89=>Ad<|Aw<|Dn<|Aa λay=>Aa λbm=>Aa λbl=>AM λbj=>Aa λbi=>Aa λbh=>Aa λak=>Aa λbg=>Aa λbf=>Aa λav=>Aa λau=>Aa λaq=>Aa λan=>AX λam=>Ad<|Ad<|As λr h=>SI x57 (BG (Ab (Nn N)<|Ab (yL N)<|Ab (Wn N)<|Ab (Rh N)<|Ab (Wm N)<|Ab (NY N)<|Ab (Wu N)<|Aj) (L3 N) (CP N) H3 (H2 N)) λhb hS F=>?_
 dsimp only[x57,Ah,Aq,AA,Ak];have hOK:=Ctx.fd_ok (nt:=38) (hb:=hb) hS;unfold IW at h;obtain⟨cr,dz,h⟩:=un h;replace F:=fc dz F;refine An hS F h (λ_ h=>?_) (λ_ h=>?_)
 ·exact Ug hS F h
 ·refine go hS F ?_;refine JH hS 1 rfl rfl (ev F) yT (ev F) (ev F) ?_;obtain⟨bn,dw,fr,h⟩:=un h;replace F:=fc dw F;refine go hS F ?_;refine BN hS 4 x152.hf x152.hc x152.hn x152.ok rfl (ev F) (ev F) ?_ rfl (ev F) (kM rfl) λhb=>?_
  ·exact Bl hS F
  dsimp only[x152,Ah];obtain⟨⟨⟨be,ai,ah,cq,af,ae⟩,bq⟩,du,h⟩:=un h;replace F:=fc du F;refine go hS F ?_;cases d9:bq with
  |false=>
   replace F:=fc d9 F;replace h:=We d9 h;refine PQ (p:=Qe) (Ctx.fn_ok hS) F 3 ?_
   repeat' (first|with_reducible (first|apply A8|apply A9|apply Bh|apply AR|apply Bx)|((with_reducible apply A4);(·simp)))
   exact IQ hS F h
  |true=>
   replace F:=fc d9 F;replace h:=Wd d9 h;obtain⟨⟨bb,ba,co⟩,dt,h⟩:=un h;replace F:=fc dt F;refine go hS F ?_;refine AZ hS 2 x77.hf x77.hc x77.hn x77.ok rfl (ev F) (ev F) ?_ rfl (ev F) (kM rfl) λhb=>?_
   ·exact Bl hS F
   dsimp only[x77,Ah];refine An hS F h (λ_ h=>?_) (λ_ h=>?_)
   ·refine go hS F ?_;refine Bf (Ctx.fn_ok hS) 2 rfl rfl (ev F) (ev F) (ev F) ?_
    repeat' (first|with_reducible (first|apply A8|apply A9|apply Bh|apply AR|apply Bx)|((with_reducible apply A4);(·simp)))
    exact IQ hS F h
   ·refine go hS F ?_;refine AZ hS 3 x143.hf x143.hc x143.hn x143.ok rfl (ev F) (ev F) ?_ rfl (ev F) (kM rfl) λhb=>?_
    ·exact Bl hS F
    dsimp only[x143,Ah];obtain⟨⟨az,cn⟩,dq,h⟩:=un h;replace F:=fc dq F;refine go hS F ?_;refine AZ hS 2 x77.hf x77.hc x77.hn x77.ok rfl (ev F) (ev F) ?_ rfl (ev F) (kM rfl) λhb=>?_
    ·exact Bl hS F
    dsimp only[x77,Ah];refine An hS F h (λ_ h=>?_) (λ_ h=>?_)
    ·refine go hS F ?_;refine Bf (Ctx.fn_ok hS) 2 rfl rfl (ev F) (ev F) (ev F) ?_
     repeat' (first|with_reducible (first|apply A8|apply A9|apply Bh|apply AR|apply Bx)|((with_reducible apply A4);(·simp)))
     exact IQ hS F h
    ·refine go hS F ?_;refine AZ hS 3 x144.hf x144.hc x144.hn x144.ok rfl (ev F) (ev F) ?_ rfl (ev F) (kM rfl) λhb=>?_
     ·exact Bl hS F
     dsimp only[x144,Ah];refine go hS F ?_;refine AZ hS 7 x189.hf x189.hc x189.hn x189.ok rfl (ev F) (ev F) ?_ rfl (ev F) (kM rfl) λhb=>?_
     ·exact Bl hS F
     dsimp only[x189,Ah];obtain⟨aw,dp,h⟩:=un h;replace F:=fc dp F;refine An hS F h (λ_ h=>?_) (λ_ h=>?_)
     ·refine go hS F ?_;refine AZ hS 2 x134.hf x134.hc x134.hn x134.ok rfl (ev F) (ev F) ?_ rfl (ev F) (kM rfl) λhb=>?_
      ·exact Bl hS F
      dsimp only[x134,Ah];obtain⟨⟨cm,ck⟩,dm,h⟩:=un h;replace F:=fc dm F;refine go hS F ?_;refine AZ hS 2 x77.hf x77.hc x77.hn x77.ok rfl (ev F) (ev F) ?_ rfl (ev F) (kM rfl) λhb=>?_
      ·exact Bl hS F
      dsimp only[x77,Ah];refine An hS F h (λ_ h=>?_) (λ_ h=>?_)
      ·refine go hS F ?_;refine Bf (Ctx.fn_ok hS) 2 rfl rfl (ev F) (ev F) (ev F) ?_
       repeat' (first|with_reducible (first|apply A8|apply A9|apply Bh|apply AR|apply Bx)|((with_reducible apply A4);(·simp)))
       exact IQ hS F h
      ·refine go hS F ?_;refine AZ hS 2 x134.hf x134.hc x134.hn x134.ok rfl (ev F) (ev F) ?_ rfl (ev F) (kM rfl) λhb=>?_
       ·exact Bl hS F
       dsimp only[x134,Ah];obtain⟨⟨bp,cj⟩,dl,h⟩:=un h;replace F:=fc dl F;refine go hS F ?_;refine AZ hS 2 x77.hf x77.hc x77.hn x77.ok rfl (ev F) (ev F) ?_ rfl (ev F) (kM rfl) λhb=>?_
       ·exact Bl hS F
       dsimp only[x77,Ah];refine An hS F h (λ_ h=>?_) (λ_ h=>?_)
       ·refine go hS F ?_;refine Bf (Ctx.fn_ok hS) 2 rfl rfl (ev F) (ev F) (ev F) ?_
        repeat' (first|with_reducible (first|apply A8|apply A9|apply Bh|apply AR|apply Bx)|((with_reducible apply A4);(·simp)))
        exact IQ hS F h
       ·obtain⟨ci,dh,h⟩:=un h;replace F:=fc dh F;refine go hS F ?_;refine BN hS 5 x77.hf x77.hc x77.hn x77.ok rfl (ev F) (ev F) ?_ rfl (ev F) (kM rfl) λhb=>?_
        ·exact Bl hS F
        dsimp only[x77,Ah];refine An hS F h (λ_ h=>?_) (λ_ h=>?_)
        ·refine go hS F ?_;refine Bf (Ctx.fn_ok hS) 2 rfl rfl (ev F) (ev F) (ev F) ?_
         repeat' (first|with_reducible (first|apply A8|apply A9|apply Bh|apply AR|apply Bx)|((with_reducible apply A4);(·simp)))
         exact IQ hS F h
        ·obtain⟨bv,dg,fq,h⟩:=un h;exact SJ hS (fc dg F) h
     ·obtain⟨fp,h⟩:=un h;obtain⟨eh,fg,h⟩:=un h;refine go hS F ?_;refine Bz eh (λz:Int×(List (Int×Int×Int×Int×Bool))×Nat=>⟨[(0,.own (501,5) z.2.1.length),(5,.i z.1)],[(.c (0,24) 0,.i ak),(.a (501,5),EH z.2.1),(.c (503,5) 0,Ap az),(.c (503,5) 1,.own (501,5) z.2.1.length),(.c (0,7) 0,.i 3),(.c (0,7) 1,.i ay),(.c (0,7) 2,.i bm),(.c (0,7) 3,.i bl),(.c (0,7) 4,BP bj),(.c (0,7) 5,.i bi),(.c (0,7) 6,.i bh),(.c (0,7) 7,.i ak),(.c (0,7) 8,.i bg),(.c (0,7) 9,.i bf),(.c (0,7) 10,.i av),(.c (0,7) 11,.i au),(.c (0,7) 12,.i aq),(.c (0,7) 13,.i an),(.c (0,7) 14,.b am),(.c (201,9) 0,.i ay),(.c (201,9) 1,.i ai),(.c (201,9) 2,.i ah),(.c (201,9) 3,BP ba),(.c (201,9) 4,.i af),(.c (201,9) 5,.i ae),(.c (104,8) 0,.i be),(.c (104,8) 1,.i ai),(.c (104,8) 2,.i ah),(.c (104,8) 3,BP bb),(.c (104,8) 4,.i af),(.c (104,8) 5,.i ae),(.c (105,2) 0,.clo (.func 150) [] []),(.c (105,2) 1,.clo (.func 151) [] []),(.c (105,2) 2,.clo (.func 152) [] []),(.c (105,2) 3,.v .nilFunc),(.c (105,2) 4,.clo (.func 154) [] []),(.c (3,1) 0,.i 0),(.c (2,1) 0,.sl 0 true [] []),(.c (2,1) 1,.sl 0 true [] []),(.c (1,1) 0,.i 3),(.c (1,1) 1,.i ay),(.c (1,1) 2,.i bm),(.c (1,1) 3,.i bl),(.c (1,1) 4,BP bj),(.c (1,1) 5,.i bi),(.c (1,1) 6,.i bh),(.c (1,1) 7,.i ak),(.c (1,1) 8,.i bg),(.c (1,1) 9,.i bf),(.c (1,1) 10,.i av),(.c (1,1) 11,.i au),(.c (1,1) 12,.i aq),(.c (1,1) 13,.i an),(.c (1,1) 14,.b am),(.c (0,1) 0,Ap aa),(.c (0,1) 1,AS from89)],z.2.2⟩) (λz=>((z.1,z.2.1):Int×(List (Int×Int×Int×Int×Bool)))) (.x 0) ?_ ?_
      ·refine Bp (λn (y:Int×Int×(List (Int×Int×Int×Int×Bool))×Nat)=>D9 N ak n y.1 y.2.1 y.2.2.1) (λy=>⟨[(0,.own (501,5) y.2.2.1.length),(1,.clo (.func 190) [] [.box (0,24) 0]),(5,.i y.1),(6,.i y.2.1)],[(.c (0,24) 0,.i ak),(.a (501,5),EH y.2.2.1),(.c (503,5) 0,Ap az),(.c (503,5) 1,.own (501,5) y.2.2.1.length),(.c (0,7) 0,.i 3),(.c (0,7) 1,.i ay),(.c (0,7) 2,.i bm),(.c (0,7) 3,.i bl),(.c (0,7) 4,BP bj),(.c (0,7) 5,.i bi),(.c (0,7) 6,.i bh),(.c (0,7) 7,.i ak),(.c (0,7) 8,.i bg),(.c (0,7) 9,.i bf),(.c (0,7) 10,.i av),(.c (0,7) 11,.i au),(.c (0,7) 12,.i aq),(.c (0,7) 13,.i an),(.c (0,7) 14,.b am),(.c (201,9) 0,.i ay),(.c (201,9) 1,.i ai),(.c (201,9) 2,.i ah),(.c (201,9) 3,BP ba),(.c (201,9) 4,.i af),(.c (201,9) 5,.i ae),(.c (104,8) 0,.i be),(.c (104,8) 1,.i ai),(.c (104,8) 2,.i ah),(.c (104,8) 3,BP bb),(.c (104,8) 4,.i af),(.c (104,8) 5,.i ae),(.c (105,2) 0,.clo (.func 150) [] []),(.c (105,2) 1,.clo (.func 151) [] []),(.c (105,2) 2,.clo (.func 152) [] []),(.c (105,2) 3,.v .nilFunc),(.c (105,2) 4,.clo (.func 154) [] []),(.c (3,1) 0,.i 0),(.c (2,1) 0,.sl 0 true [] []),(.c (2,1) 1,.sl 0 true [] []),(.c (1,1) 0,.i 3),(.c (1,1) 1,.i ay),(.c (1,1) 2,.i bm),(.c (1,1) 3,.i bl),(.c (1,1) 4,BP bj),(.c (1,1) 5,.i bi),(.c (1,1) 6,.i bh),(.c (1,1) 7,.i ak),(.c (1,1) 8,.i bg),(.c (1,1) 9,.i bf),(.c (1,1) 10,.i av),(.c (1,1) 11,.i au),(.c (1,1) 12,.i aq),(.c (1,1) 13,.i an),(.c (1,1) 14,.b am),(.c (0,1) 0,Ap aa),(.c (0,1) 1,AS from89)],y.2.2.2⟩) (aw,aw+1,from89,29) fg (Ch F) ?_;rintro n ⟨i158,aj,l160,br⟩ ab;simp only[D9]at ab;refine An hS F ab (λ_ ab=>?_) (λ_ ab=>?_)
       ·obtain⟨⟨x161,x162,x163,x164,x165⟩,d8,ab⟩:=un ab;obtain⟨eu,F⟩:=Cb BZ d8 F;obtain⟨ce,db,ab⟩:=un ab;replace F:=fc db F;refine An hS F ab (λ_ ab=>?_) (λ_ ab=>?_)
        ·obtain⟨⟨x175,ee,Ada,x178,x179⟩,d7,ab⟩:=un ab;obtain⟨ej,F⟩:=Cb BZ d7 F;obtain⟨fo,fm,ab⟩:=un ab;exact Cd hS F (n,i158+1,aj+1,l160.set i158.toNat (x161,x162,x163,x164,x165),br+1+1+1+1+1+1) ab
        ·obtain⟨fj,ab⟩:=un ab;exact Cd hS F (n,i158,aj+1,l160,br+1+1+1+1) ab
       ·exact B4 hS F (i158,l160,br+1) ab
      ·rintro⟨i186,l187,fh⟩ rfl;obtain⟨ei,h⟩:=un h;refine go hS F ?_;refine Wl (Ctx.fn_ok hS) 2 rfl rfl rfl (ev F) (ev F) (ev F) (ev F) (ev F) (ev F) (by simp only[mW];omega) rfl rfl ?_;replace F:=fc (Wv BZ ei) F;obtain⟨e9,h⟩:=un h;refine go hS F ?_;refine AZ hS 2 x134.hf x134.hc x134.hn x134.ok rfl (ev F) (ev F) ?_ rfl (ev F) (kM rfl) λhb=>?_
       ·exact Bl hS F
       dsimp only[x134,Ah];obtain⟨⟨b9,b7⟩,da,h⟩:=un h;replace F:=fc da F;refine go hS F ?_;refine AZ hS 2 x77.hf x77.hc x77.hn x77.ok rfl (ev F) (ev F) ?_ rfl (ev F) (kM rfl) λhb=>?_
       ·exact Bl hS F
       dsimp only[x77,Ah];refine An hS F h (λ_ h=>?_) (λ_ h=>?_)
       ·refine go hS F ?_;refine Bf (Ctx.fn_ok hS) 2 rfl rfl (ev F) (ev F) (ev F) ?_
        repeat' (first|with_reducible (first|apply A8|apply A9|apply Bh|apply AR|apply Bx)|((with_reducible apply A4);(·simp)))
        exact IQ hS F h
       ·refine go hS F ?_;refine AZ hS 2 x134.hf x134.hc x134.hn x134.ok rfl (ev F) (ev F) ?_ rfl (ev F) (kM rfl) λhb=>?_
        ·exact Bl hS F
        dsimp only[x134,Ah];obtain⟨⟨bo,bz⟩,cz,h⟩:=un h;replace F:=fc cz F;refine go hS F ?_;refine AZ hS 2 x77.hf x77.hc x77.hn x77.ok rfl (ev F) (ev F) ?_ rfl (ev F) (kM rfl) λhb=>?_
        ·exact Bl hS F
        dsimp only[x77,Ah];refine An hS F h (λ_ h=>?_) (λ_ h=>?_)
        ·refine go hS F ?_;refine Bf (Ctx.fn_ok hS) 2 rfl rfl (ev F) (ev F) (ev F) ?_
         repeat' (first|with_reducible (first|apply A8|apply A9|apply Bh|apply AR|apply Bx)|((with_reducible apply A4);(·simp)))
         exact IQ hS F h
        ·obtain⟨bw,cy,h⟩:=un h;replace F:=fc cy F;refine go hS F ?_;refine BN hS 5 x77.hf x77.hc x77.hn x77.ok rfl (ev F) (ev F) ?_ rfl (ev F) (kM rfl) λhb=>?_
         ·exact Bl hS F
         dsimp only[x77,Ah];refine An hS F h (λ_ h=>?_) (λ_ h=>?_)
         ·refine go hS F ?_;refine Bf (Ctx.fn_ok hS) 2 rfl rfl (ev F) (ev F) (ev F) ?_
          repeat' (first|with_reducible (first|apply A8|apply A9|apply Bh|apply AR|apply Bx)|((with_reducible apply A4);(·simp)))
          exact IQ hS F h
         ·obtain⟨bu,cu,e8,h⟩:=un h;exact SJ hS (fc cu F) h
