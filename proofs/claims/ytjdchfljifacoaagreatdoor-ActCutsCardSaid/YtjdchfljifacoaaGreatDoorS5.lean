import Derived.Test.YtjdchfljifacoaaGreatDoorDA
set_option linter.all false
set_option maxRecDepth 100000
set_option maxHeartbeats 8000000
namespace Go.Proofs.YtjdchfljifacoaaGreatDoor.Am
open Go
section
attribute [local irreducible] Aq BD Bv A8 Bq Ba AQ Bw By Ck
attribute [local irreducible] Ej
noncomputable def x151:=Ad (f:=151) Av Tryz.func151 []
theorem wxd{P:Program}{f:Nat}{S:Tab}{args:List AV}{r:AV}(x:FnX P f)(hS:TabOK P S)(h:∀hb,TabOK P S->([]:List Nat).length=0->Aq (Ctx.fd P S x.nt hb) x.c (NY P S x.nt x.rv r) ⟨(dk x.nt,.gd false (.tup []))::BC 0 args,[],0⟩)(hn:args.length<=x.nt:=by exact A01 rfl):PCall P f args r:=Tp hS x.nt x.hf x.hc x.hn hn λhb=>h hb hS rfl
def WD{P:Program}{f:Nat}(x:FnX P f)(S:Tab)(args:List AV)(r:AV):Prop:=∀hb,TabOK P S->([]:List Nat).length=0->Aq (Ctx.fd P S x.nt hb) x.c (NY P S x.nt x.rv r) ⟨(dk x.nt,.gd false (.tup []))::BC 0 args,[],0⟩
theorem wD{P:Program}{f:Nat}{S:Tab}(x:FnX P f)(hS:TabOK P S):C0 P f/\∀args r,args.length<=x.nt->WD x S args r->PCall P f args r:=⟨x.ok,λ_ _ hn h=>wxd x hS h hn⟩
abbrev AaN:AV:=.agg [Ao [],Bj []]
theorem Zu{S:Tab}(hS:TabOK Tryz.prog S){e:Ar}{h:Hp}{c:Nat}(ek:lk e (dk 38)=.gd false (.clo (.func 63) [] [.box (2,1) 0,.box (3,1) 0]))(e4:lk e 4=.box (2,1) 0)(e5:lk e 5=.box (3,1) 0)(hh:(ET (hl h (.c (2,1) 0))&&ET (hl h (.c (2,1) 1))&&ET (hl h (.c (3,1) 0)))=true):NY Tryz.prog S 38 x36.rv (.tup [AaN,.i 170]) (.p Ov) ⟨e,h,c⟩:=by simp only[y8,RU]at hh;obtain⟨⟨⟨c0,h0,k0⟩,⟨c1,h1,k1⟩⟩,⟨c2,h2,k2⟩⟩:=hh;refine⟨_,_,ek,_,_,_,_,_,_,x63.hf,x63.hc,x63.hn,A01 rfl,x63.ok,rfl,λhb2=>?_⟩;dsimp only[x63,Ad,Ov];have hOK2:=Ctx.fd_ok (nt:=16) (hb:=hb2) hS;have F:=fc h0 (fc h1 (fc h2 (fc k0 (fc k1 (fc k2 (fc e4 (fc e5 f0)))))));refine go hS F ?_;refine ct F ?_;refine go hS F ?_;refine MB ⟨by simp only[go_sem,seval,F],?_⟩;dsimp only[x36,Ad];exact⟨_,_,ev F,by simp only[go_sem,seval,F],by simp only[go_sem,seval,F],.of (by simp only[go_sem,seval,F]),rfl⟩
theorem Zv{P:Program}{S:Tab}{nt:Nat}{rvs:List RV}{r r':AV}{k:AE}{s:St}(h:r=r')(hk:NY P S nt rvs r' k s):NY P S nt rvs r k s:=h▸hk
theorem wB{P:Program}{S:Tab}{nt:Nat}{rvs:List RV}{r:AV}{e:Ar}{h:Hp}{c:Nat}{vc:Prop}{xs:List AV}(ek:lk e (dk nt)=.gd false (.tup []))(h1:DK e h rvs=some (vc,xs))(h2:vc)(h3:FI h (one xs))(h4:Gd (res h (one xs)) r)(h5:BN r=true):NY P S nt rvs r .r ⟨e,h,c⟩:=.inl ⟨ek,vc,xs,h1,h2,h3,.ofD h4,h5⟩
theorem nI{S:Tab}(hS:TabOK Tryz.prog S){e:Ar}{h:Hp}{c:Nat}{r:AV}{vc:Prop}{xs:List AV}(ek:lk e (dk 38)=.gd false (.clo (.func 63) [] [.box (2,1) 0,.box (3,1) 0]))(h1:DK e h [.c 4 2 true,.c 5 1 false]=some (vc,xs))(h2:vc)(h3:FI h (one xs))(h4:Gd (res h (one xs)) r)(h5:BN r=true):NY Tryz.prog S 38 [.c 4 2 true,.c 5 1 false] r .r ⟨e,h,c⟩:=by refine .inr ⟨_,_,ek,_,_,_,_,_,_,x63.hf,x63.hc,x63.hn,A01 rfl,x63.ok,rfl,λhb2=>?_⟩;dsimp only[x63,Ad];have hOK2:=Ctx.fd_ok (nt:=16) (hb:=hb2) hS;have F:=f0;refine go hS F ?_;refine cf F ?_;refine go hS F ?_;refine cf F ?_;refine go hS F ?_;refine MB ⟨by simp only[go_sem,seval,F],?_⟩;exact⟨vc,xs,h1,h2,h3,.ofD h4,h5⟩
theorem Ho{S:Tab}{F G:Prop}{E:Type}{a r:E}(hS:TabOK Tryz.prog S)(f:F)(h:some a=some r)(t:TabOK Tryz.prog S->(r=a/\F)->G:=by
 intro hS f;refine Zv ?_ (Zu hS ?_ ?_ ?_ ?_)
 ·simp only[go_sem,seval,f]<;>eq_refl
 all_goals (simp only[go_sem,seval,f]<;>eq_refl)):G:=t hS ⟨(yJ h).symm,f⟩
theorem Sy{S:Tab}{F G:Prop}{E:Type}{a r:E}(hS:TabOK Tryz.prog S)(f:F)(h:some a=some r)(t:TabOK Tryz.prog S->(r=a/\F)->G:=by
 intro hS f
 repeat' (first
  |(with_reducible (first|apply Dc|apply D2|apply DX|apply EN|apply Dd|apply De|apply Fs|apply Ft);(·(first|exact Ctx.fn_ok hS|exact Ctx.rd_ok hS|assumption|exact yT|exact Ctx.rdG_ok hS));iterate 2 (·(simp only[go_sem,seval,f]<;>eq_refl)))
  |with_reducible (first|apply C8|apply DR|apply CT|apply CU|apply CC|apply Cb|apply Co|apply Dr|apply DF|apply DS|apply DT|apply DU|apply DV)
  |(with_reducible apply DW;(·first|rfl|decide))
  |(with_reducible apply AO;(·simp))
  |with_reducible (first|apply Gs|apply Gt|apply Gu|apply Da|apply Db|apply DZ|apply D0|apply D1|apply yT|apply And.intro yT yT)
  |(fail_if_success with_reducible apply FP);(fail_if_success with_reducible apply DY);first|with_reducible apply And.intro|omega|(simp only[go_sem,seval,f];done)|with_reducible assumption|(refine And.intro ?_ ?_)|(intro hg;simp_all;done)|decide|grind)
 refine wB (by simp only[go_sem,seval,f]<;>eq_refl) (by simp only[go_sem,seval,f]<;>eq_refl) (by simp only[go_sem,seval,f]) (by simp only[go_sem,seval,f]) ?_ rfl
 first|(simp only[go_sem,seval,f];done)|(simp[f,Gd,GH,F3,GW,wk];done)):G:=t hS ⟨(yJ h).symm,f⟩
theorem QY{S:Tab}{F G:Prop}{E:Type}{a r:E}(hS:TabOK Tryz.prog S)(f:F)(h:some a=some r)(t:TabOK Tryz.prog S->(r=a/\F)->G:=by
 intro hS f
 repeat' (first
  |(with_reducible (first|apply Dc|apply D2|apply DX|apply EN|apply Dd|apply De|apply Fs|apply Ft);(·(first|exact Ctx.fn_ok hS|exact Ctx.rd_ok hS|assumption|exact yT|exact Ctx.rdG_ok hS));iterate 2 (·(simp only[go_sem,seval,f]<;>eq_refl)))
  |with_reducible (first|apply C8|apply DR|apply CT|apply CU|apply CC|apply Cb|apply Co|apply Dr|apply DF|apply DS|apply DT|apply DU|apply DV)
  |(with_reducible apply DW;(·first|rfl|decide))
  |(with_reducible apply AO;(·simp))
  |with_reducible (first|apply Gs|apply Gt|apply Gu|apply Da|apply Db|apply DZ|apply D0|apply D1|apply yT|apply And.intro yT yT)
  |(fail_if_success with_reducible apply FP);(fail_if_success with_reducible apply DY);first|with_reducible apply And.intro|omega|(simp only[go_sem,seval,f];done)|with_reducible assumption|(refine And.intro ?_ ?_)|(intro hg;simp_all;done)|decide|grind)
 refine nI hS (by simp only[go_sem,seval,f]<;>eq_refl) (by simp only[go_sem,seval,f]<;>eq_refl) (by simp only[go_sem,seval,f]) (by simp only[go_sem,seval,f]) ?_ rfl
 first|(simp only[go_sem,seval,f];done)|(simp[f,Gd,GH,F3,GW,wk];done)):G:=t hS ⟨(yJ h).symm,f⟩
theorem Ut{E:Type}(e:E->List AV){l:List E}{i:Int}(h:0<=i/\i<=(l.length:Int)):∀n z,List.take (i.toNat-0) (List.map e (List.take i.toNat l)++List.replicate n z)=List.map e (List.take i.toNat l):=λn z=>by
 have:i.toNat-0=(List.map e (List.take i.toNat l)).length:=by simp;omega
 rw[this,List.take_left]
theorem wC(N:Nat):∀a b,GJ N 0 0 0 [] 0 0 a b=some ((0,0,0,[],0,0),80):=λa b=>by simp[GJ,GY,Bt,gd]
end
section
attribute [local irreducible] Aq BD Bv A8 Bq Ba AQ Bw By Ck
attribute [local irreducible] Ej
attribute [local go_sem] kF LA Ij Ik qU yU oI qv I3 List.map_replicate List.map_set
def Ht(N:Nat)(aa:List (Int×Int×Int×(List (Int×Int))×Int×Int))(from2:List (Int×Int×Int×Int×Bool))(a4:Int)(a5:Int)(a6:Int)(a7:List (Int×Int))(a8:Int)(a9:Int)(bf:Int)(be:Int)(bb:Int)(ba:Int)(az:Int)(ay:Int)(aw:Int)(av:Bool):Option (((List (Int×Int×Int×(List (Int×Int))×Int×Int))×(List (Int×Int×Int×Int×Bool)))×Int):=(Eu N a4 a5 a6 a7 a8 a9 bf be bb ba az ay aw av).bind λau=>bif !au then(some (([],[]),170))else((Fk N aa).bind λam=>gd (from2.length*40<=140737488355328)<|(Ep N am a4 a5 a6 a7 a8 a9).bind λ(ab,aq)=>bif !(decide (aq=0))then(some (([],[]),170))else((Cz N ab from2).bind λan=>bif !an then(some (([],[]),170))else((Fk N ab).bind λak=>gd (from2.length*40<=140737488355328)<|some ((ak,from2),0))))
@[go_sem] def xF(N:Nat):Spec:=p0<|(qG<|qD Ak<|qD Az<|qE<|qG<|qC 1<|qI<|qI<|qI<|qD Aj<|qI<|qI<|qI<|qI<|qI<|qI<|qI<|qI<|qI<|qB<|qE<|qE<|qF (([],[]),0) λr=>.tup [.agg [Ao r.1.1,Bj r.1.2],.i r.2]) (Ht N)
theorem fN(N:Nat):Au Tryz.prog 36 (xF N):=by
 refine fk (wD x36 (Bl (Aa (LB N)<|Aa (Um N)<|Aa (Me N)<|Ae) (Kk N) (Cq N) Gz (Gy N))) ?_;intro aa from2 a4 a5 a6 a7 a8 a9 bf be bb ba az ay aw av r h hb hS F;dsimp only[x36,Ad,Aj,Az,Ak];have hOK:=Ctx.fd_ok (nt:=38) (hb:=hb) hS;unfold Ht at h;obtain⟨au,aj,h⟩:=un h;replace F:=fc aj F;refine An hS F h (λ_ h=>?_) (λ_ h=>?_)
 ·exact Sy hS F h
 ·refine go hS F ?_;refine H8 hS 1 rfl rfl (ev F) yT (ev F) (ev F) ?_;obtain⟨am,ai,bh,h⟩:=un h;replace F:=fc ai F;refine go hS F ?_;refine Bu hS 4 x97.hf x97.hc x97.hn x97.ok rfl (ev F) (ev F) ?_ rfl (ev F) (A01 rfl) λhb=>?_
  ·exact AS hS F
  dsimp only[x97,Ad];refine go hS F ?_;refine AM hS 3 x98.hf x98.hc x98.hn x98.ok rfl (ev F) (ev F) ?_ rfl (ev F) (A01 rfl) λhb=>?_
  ·exact AS hS F
  dsimp only[x98,Ad];obtain⟨⟨ab,aq⟩,ah,h⟩:=un h;replace F:=fc ah F;refine go hS F ?_;refine AM hS 2 x50.hf x50.hc x50.hn x50.ok rfl (ev F) (ev F) ?_ rfl (ev F) (A01 rfl) λhb=>?_
  ·exact AS hS F
  dsimp only[x50,Ad];refine An hS F h (λ_ h=>?_) (λ_ h=>?_)
  ·refine go hS F ?_;refine A1 (Ctx.fn_ok hS) 2 rfl rfl (ev F) (ev F) (ev F) ?_
   repeat' (first|with_reducible (first|apply AT|apply AU|apply A2|apply AD|apply Bi)|((with_reducible apply AO);(·simp)))
   exact Ho hS F h
  ·obtain⟨an,af,h⟩:=un h;replace F:=fc af F;refine go hS F ?_;refine Bu hS 5 x50.hf x50.hc x50.hn x50.ok rfl (ev F) (ev F) ?_ rfl (ev F) (A01 rfl) λhb=>?_
   ·exact AS hS F
   dsimp only[x50,Ad];refine An hS F h (λ_ h=>?_) (λ_ h=>?_)
   ·refine go hS F ?_;refine A1 (Ctx.fn_ok hS) 2 rfl rfl (ev F) (ev F) (ev F) ?_
    repeat' (first|with_reducible (first|apply AT|apply AU|apply A2|apply AD|apply Bi)|((with_reducible apply AO);(·simp)))
    exact Ho hS F h
   ·obtain⟨ak,ae,bg,h⟩:=un h;exact QY hS (fc ae F) h
end
section
attribute [local irreducible] Aq BD Bv A8 Bq Ba AQ Bw By Ck
attribute [local irreducible] Ej
attribute [local go_sem] kF LA Ij Ik qU yU oI qv I3 List.map_replicate List.map_set
def DC(N:Nat)(ab:Int):Nat->Int->Int->(List (Int×Int×Int×Int×Bool))->Option (Int×(List (Int×Int×Int×Int×Bool)))|0,_,_,_=>none|n+1,i53,af,l55=>bif decide (af<(l55.length:Int))then((Bz l55 af).bind λ(PC,PD,PE,T9,x60)=>(Cl N PC PD PE T9 x60 ab).bind λbq=>bif !bq then((Bz l55 i53).bind λ(YY,iY,x72,x73,x74)=>gd (Ai (i53+1))<|gd (Ai (af+1))<|DC N ab n (i53+1) (af+1) (l55.set i53.toNat (PC,PD,PE,T9,x60)))else(gd (Ai (af+1))<|DC N ab n i53 (af+1) l55))else(some (i53,l55))
def Hu(N:Nat)(ae:List (Int×Int×Int×(List (Int×Int))×Int×Int))(from2:List (Int×Int×Int×Int×Bool))(a4:Int)(a5:Int)(a6:Int)(a7:List (Int×Int))(a8:Int)(a9:Int)(ab:Int)(av:Int)(au:Int)(aq:Int)(an:Int)(am:Int)(ak:Int)(aj:Bool):Option (((List (Int×Int×Int×(List (Int×Int))×Int×Int))×(List (Int×Int×Int×Int×Bool)))×Int):=(Ew N a4 a5 a6 a7 a8 a9 ab av au aq an am ak aj).bind λbu=>bif !bu then(some (([],[]),170))else((Fk N ae).bind λbo=>gd (from2.length*40<=140737488355328)<|(EX N bo ab).bind λ(ai,br)=>bif !(decide (br=0))then(some (([],[]),170))else((Be N from2 ab).bind λah=>bif decide (ah=(-1))then((Cz N ai from2).bind λr27=>bif !r27 then(some (([],[]),170))else((Fk N ai).bind λbn=>gd (from2.length*40<=140737488355328)<|some ((bn,from2),0)))else(gd (Ai (ah+1))<|(DC N ab N ah (ah+1) from2).bind λ(i81,l82)=>gd (0<=i81/\i81<=(l82.length:Int))<|gd (0<=0/\0<=i81/\i81<=((l82.take i81.toNat++(List.replicate (l82.length-i81.toNat) (0,0,0,0,false):List (Int×Int×Int×Int×Bool))).length:Int))<|(Cz N ai (l82.take i81.toNat)).bind λbp=>bif !bp then(some (([],[]),170))else((Fk N ai).bind λbm=>gd ((l82.take i81.toNat).length*40<=140737488355328)<|some ((bm,l82.take i81.toNat),0)))))
@[go_sem] def xG(N:Nat):Spec:=p0<|(qG<|qD Ak<|qD Az<|qE<|qG<|qC 2<|qI<|qI<|qI<|qD Aj<|qI<|qI<|qI<|qI<|qI<|qI<|qI<|qI<|qI<|qB<|qE<|qE<|qF (([],[]),0) λr=>.tup [.agg [Ao r.1.1,Bj r.1.2],.i r.2]) (Hu N)
theorem fO(N:Nat):Au Tryz.prog 36 (xG N):=by
 refine fk (wD x36 (Bl (Aa (LC N)<|Aa (Uo N)<|Aa (PG N)<|Aa (Me N)<|Aa (Us N)<|Ae) (Kk N) (Cq N) Gz (Gy N))) ?_;intro ae from2 a4 a5 a6 a7 a8 a9 ab av au aq an am ak aj r h hb hS F;dsimp only[x36,Ad,Aj,Az,Ak];have hOK:=Ctx.fd_ok (nt:=38) (hb:=hb) hS;unfold Hu at h;obtain⟨bu,bh,h⟩:=un h;replace F:=fc bh F;refine An hS F h (λ_ h=>?_) (λ_ h=>?_)
 ·exact Sy hS F h
 ·refine go hS F ?_;refine H8 hS 1 rfl rfl (ev F) yT (ev F) (ev F) ?_;obtain⟨bo,bg,cr,h⟩:=un h;replace F:=fc bg F;refine go hS F ?_;refine Bu hS 4 x106.hf x106.hc x106.hn x106.ok rfl (ev F) (ev F) ?_ rfl (ev F) (A01 rfl) λhb=>?_
  ·exact AS hS F
  dsimp only[x106,Ad];refine go hS F ?_;refine AM hS 3 x107.hf x107.hc x107.hn x107.ok rfl (ev F) (ev F) ?_ rfl (ev F) (A01 rfl) λhb=>?_
  ·exact AS hS F
  dsimp only[x107,Ad];obtain⟨⟨ai,br⟩,bf,h⟩:=un h;replace F:=fc bf F;refine go hS F ?_;refine AM hS 2 x50.hf x50.hc x50.hn x50.ok rfl (ev F) (ev F) ?_ rfl (ev F) (A01 rfl) λhb=>?_
  ·exact AS hS F
  dsimp only[x50,Ad];refine An hS F h (λ_ h=>?_) (λ_ h=>?_)
  ·refine go hS F ?_;refine A1 (Ctx.fn_ok hS) 2 rfl rfl (ev F) (ev F) (ev F) ?_
   repeat' (first|with_reducible (first|apply AT|apply AU|apply A2|apply AD|apply Bi)|((with_reducible apply AO);(·simp)))
   exact Ho hS F h
  ·refine go hS F ?_;refine AM hS 3 x108.hf x108.hc x108.hn x108.ok rfl (ev F) (ev F) ?_ rfl (ev F) (A01 rfl) λhb=>?_
   ·exact AS hS F
   dsimp only[x108,Ad];refine go hS F ?_;refine AM hS 7 x151.hf x151.hc x151.hn x151.ok rfl (ev F) (ev F) ?_ rfl (ev F) (A01 rfl) λhb=>?_
   ·exact AS hS F
   dsimp only[x151,Ad];obtain⟨ah,be,h⟩:=un h;replace F:=fc be F;refine An hS F h (λ_ h=>?_) (λ_ h=>?_)
   ·obtain⟨r27,bb,h⟩:=un h;replace F:=fc bb F;refine go hS F ?_;refine Bu hS 5 x50.hf x50.hc x50.hn x50.ok rfl (ev F) (ev F) ?_ rfl (ev F) (A01 rfl) λhb=>?_
    ·exact AS hS F
    dsimp only[x50,Ad];refine An hS F h (λ_ h=>?_) (λ_ h=>?_)
    ·refine go hS F ?_;refine A1 (Ctx.fn_ok hS) 2 rfl rfl (ev F) (ev F) (ev F) ?_
     repeat' (first|with_reducible (first|apply AT|apply AU|apply A2|apply AD|apply Bi)|((with_reducible apply AO);(·simp)))
     exact Ho hS F h
    ·obtain⟨bn,ba,cq,h⟩:=un h;exact QY hS (fc ba F) h
   ·obtain⟨co,h⟩:=un h;obtain⟨bv,ci,h⟩:=un h;refine go hS F ?_;refine BU bv (λz:Int×(List (Int×Int×Int×Int×Bool))×Nat=>⟨[(0,.own (501,5) z.2.1.length),(5,.i z.1)],[(.c (0,16) 0,.i ab),(.a (501,5),EK z.2.1),(.c (503,5) 0,Ao ai),(.c (503,5) 1,.own (501,5) z.2.1.length),(.c (0,7) 0,.i 2),(.c (0,7) 1,.i a4),(.c (0,7) 2,.i a5),(.c (0,7) 3,.i a6),(.c (0,7) 4,BK a7),(.c (0,7) 5,.i a8),(.c (0,7) 6,.i a9),(.c (0,7) 7,.i ab),(.c (0,7) 8,.i av),(.c (0,7) 9,.i au),(.c (0,7) 10,.i aq),(.c (0,7) 11,.i an),(.c (0,7) 12,.i am),(.c (0,7) 13,.i ak),(.c (0,7) 14,.b aj),(.c (105,2) 0,.clo (.func 103) [] []),(.c (105,2) 1,.clo (.func 105) [] []),(.c (105,2) 2,.clo (.func 106) [] []),(.c (105,2) 3,.clo (.func 109) [] []),(.c (105,2) 4,.clo (.func 113) [] []),(.c (3,1) 0,.i 0),(.c (2,1) 0,.sl 0 true [] []),(.c (2,1) 1,.sl 0 true [] []),(.c (1,1) 0,.i 2),(.c (1,1) 1,.i a4),(.c (1,1) 2,.i a5),(.c (1,1) 3,.i a6),(.c (1,1) 4,BK a7),(.c (1,1) 5,.i a8),(.c (1,1) 6,.i a9),(.c (1,1) 7,.i ab),(.c (1,1) 8,.i av),(.c (1,1) 9,.i au),(.c (1,1) 10,.i aq),(.c (1,1) 11,.i an),(.c (1,1) 12,.i am),(.c (1,1) 13,.i ak),(.c (1,1) 14,.b aj),(.c (0,1) 0,Ao ae),(.c (0,1) 1,Bj from2)],z.2.2⟩) (λz=>((z.1,z.2.1):Int×(List (Int×Int×Int×Int×Bool)))) (.x 0) ?_ ?_
    ·refine BO (λn (y:Int×Int×(List (Int×Int×Int×Int×Bool))×Nat)=>DC N ab n y.1 y.2.1 y.2.2.1) (λy=>⟨[(0,.own (501,5) y.2.2.1.length),(1,.clo (.func 152) [] [.box (0,16) 0]),(5,.i y.1),(6,.i y.2.1)],[(.c (0,16) 0,.i ab),(.a (501,5),EK y.2.2.1),(.c (503,5) 0,Ao ai),(.c (503,5) 1,.own (501,5) y.2.2.1.length),(.c (0,7) 0,.i 2),(.c (0,7) 1,.i a4),(.c (0,7) 2,.i a5),(.c (0,7) 3,.i a6),(.c (0,7) 4,BK a7),(.c (0,7) 5,.i a8),(.c (0,7) 6,.i a9),(.c (0,7) 7,.i ab),(.c (0,7) 8,.i av),(.c (0,7) 9,.i au),(.c (0,7) 10,.i aq),(.c (0,7) 11,.i an),(.c (0,7) 12,.i am),(.c (0,7) 13,.i ak),(.c (0,7) 14,.b aj),(.c (105,2) 0,.clo (.func 103) [] []),(.c (105,2) 1,.clo (.func 105) [] []),(.c (105,2) 2,.clo (.func 106) [] []),(.c (105,2) 3,.clo (.func 109) [] []),(.c (105,2) 4,.clo (.func 113) [] []),(.c (3,1) 0,.i 0),(.c (2,1) 0,.sl 0 true [] []),(.c (2,1) 1,.sl 0 true [] []),(.c (1,1) 0,.i 2),(.c (1,1) 1,.i a4),(.c (1,1) 2,.i a5),(.c (1,1) 3,.i a6),(.c (1,1) 4,BK a7),(.c (1,1) 5,.i a8),(.c (1,1) 6,.i a9),(.c (1,1) 7,.i ab),(.c (1,1) 8,.i av),(.c (1,1) 9,.i au),(.c (1,1) 10,.i aq),(.c (1,1) 11,.i an),(.c (1,1) 12,.i am),(.c (1,1) 13,.i ak),(.c (1,1) 14,.b aj),(.c (0,1) 0,Ao ae),(.c (0,1) 1,Bj from2)],y.2.2.2⟩) (ah,ah+1,from2,21) ci (CB F) ?_;rintro n ⟨i53,af,l55,bl⟩ aa;simp only[DC]at aa;refine An hS F aa (λ_ aa=>?_) (λ_ aa=>?_)
     ·obtain⟨⟨PC,PD,PE,T9,x60⟩,bj,aa⟩:=un aa;obtain⟨ce,F⟩:=CH BW bj F;obtain⟨bq,az,aa⟩:=un aa;replace F:=fc az F;refine An hS F aa (λ_ aa=>?_) (λ_ aa=>?_)
      ·obtain⟨⟨YY,iY,x72,x73,x74⟩,bi,aa⟩:=un aa;obtain⟨b9,F⟩:=CH BW bi F;obtain⟨cn,ck,aa⟩:=un aa;exact CS hS F (n,i53+1,af+1,l55.set i53.toNat (PC,PD,PE,T9,x60),bl+1+1+1+1+1+1) aa
      ·obtain⟨cj,aa⟩:=un aa;exact CS hS F (n,i53,af+1,l55,bl+1+1+1+1) aa
     ·exact Cu hS F (i53,l55,bl+1) aa
    ·rintro⟨i81,l82,cu⟩ rfl;obtain⟨bw,h⟩:=un h;refine go hS F ?_;refine T5 (Ctx.fn_ok hS) 2 rfl rfl rfl (ev F) (ev F) (ev F) (ev F) (ev F) (ev F) (by simp only[A04];omega) rfl rfl ?_;replace F:=fc (Ut BW bw) F;obtain⟨b7,bp,ay,h⟩:=un h;replace F:=fc ay F;refine go hS F ?_;refine Bu hS 5 x50.hf x50.hc x50.hn x50.ok rfl (ev F) (ev F) ?_ rfl (ev F) (A01 rfl) λhb=>?_
     ·exact AS hS F
     dsimp only[x50,Ad];refine An hS F h (λ_ h=>?_) (λ_ h=>?_)
     ·refine go hS F ?_;refine A1 (Ctx.fn_ok hS) 2 rfl rfl (ev F) (ev F) (ev F) ?_
      repeat' (first|with_reducible (first|apply AT|apply AU|apply A2|apply AD|apply Bi)|((with_reducible apply AO);(·simp)))
      exact Ho hS F h
     ·obtain⟨bm,aw,bz,h⟩:=un h;exact QY hS (fc aw F) h
end
section
attribute [local irreducible] Aq BD Bv A8 Bq Ba AQ Bw By Ck
attribute [local irreducible] Ej
attribute [local go_sem] kF LA Ij Ik qU yU oI qv I3 List.map_replicate List.map_set
def DD(N:Nat)(ak:Int):Nat->Int->Int->(List (Int×Int×Int×Int×Bool))->Option (Int×(List (Int×Int×Int×Int×Bool)))|0,_,_,_=>none|n+1,i158,ai,l160=>bif decide (ai<(l160.length:Int))then((Bz l160 ai).bind λ(bf,P5,P6,P7,x165)=>(Cl N bf P5 P6 P7 x165 ak).bind λci=>bif !ci then((Bz l160 i158).bind λ(Xw,Xx,x177,d9,d8)=>gd (Ai (i158+1))<|gd (Ai (ai+1))<|DD N ak n (i158+1) (ai+1) (l160.set i158.toNat (bf,P5,P6,P7,x165)))else(gd (Ai (ai+1))<|DD N ak n i158 (ai+1) l160))else(some (i158,l160))
def Hv(N:Nat)(aj:List (Int×Int×Int×(List (Int×Int))×Int×Int))(from89:List (Int×Int×Int×Int×Bool))(be:Int)(bu:Int)(br:Int)(bq:List (Int×Int))(bp:Int)(bo:Int)(ak:Int)(bn:Int)(bm:Int)(aw:Int)(av:Int)(au:Int)(aq:Int)(an:Bool):Option (((List (Int×Int×Int×(List (Int×Int))×Int×Int))×(List (Int×Int×Int×Int×Bool)))×Int):=(Ex N be bu br bq bp bo ak bn bm aw av au aq an).bind λcy=>bif !cy then(some (([],[]),170))else((Fk N aj).bind λbg=>gd (from89.length*40<=140737488355328)<|(BV N bg ak).bind λ((bb,ah,af,cu,ae,ab),bj)=>bif bj then((GI N cu bn bm).bind λ(ba,az,cr)=>bif !(decide (cr=0))then(some (([],[]),170))else((EX N bg ak).bind λ(ay,cq)=>bif !(decide (cq=0))then(some (([],[]),170))else((Be N from89 ak).bind λam=>bif decide (am=(-1))then((Ep N ay bb ah af ba ae ab).bind λ(co,cn)=>bif !(decide (cn=0))then(some (([],[]),170))else((Ep N co be ah af az ae ab).bind λ(bi,ck)=>bif !(decide (ck=0))then(some (([],[]),170))else((Cz N bi from89).bind λcj=>bif !cj then(some (([],[]),170))else((Fk N bi).bind λbw=>gd (from89.length*40<=140737488355328)<|some ((bw,from89),0)))))else(gd (Ai (am+1))<|(DD N ak N am (am+1) from89).bind λ(i186,l187)=>gd (0<=i186/\i186<=(l187.length:Int))<|gd (0<=0/\0<=i186/\i186<=((l187.take i186.toNat++(List.replicate (l187.length-i186.toNat) (0,0,0,0,false):List (Int×Int×Int×Int×Bool))).length:Int))<|(Ep N ay bb ah af ba ae ab).bind λ(ce,b9)=>bif !(decide (b9=0))then(some (([],[]),170))else((Ep N ce be ah af az ae ab).bind λ(bh,b7)=>bif !(decide (b7=0))then(some (([],[]),170))else((Cz N bh (l187.take i186.toNat)).bind λbz=>bif !bz then(some (([],[]),170))else((Fk N bh).bind λbv=>gd ((l187.take i186.toNat).length*40<=140737488355328)<|some ((bv,l187.take i186.toNat),0))))))))else(some (([],[]),170)))
@[go_sem] def xH(N:Nat):Spec:=p0<|(qG<|qD Ak<|qD Az<|qE<|qG<|qC 3<|qI<|qI<|qI<|qD Aj<|qI<|qI<|qI<|qI<|qI<|qI<|qI<|qI<|qI<|qB<|qE<|qE<|qF (([],[]),0) λr=>.tup [.agg [Ao r.1.1,Bj r.1.2],.i r.2]) (Hv N)
theorem fP(N:Nat):Au Tryz.prog 36 (xH N):=by
 refine fk (wD x36 (Bl (Aa (LD N)<|Aa (uU N)<|Aa (Uo N)<|Aa (PG N)<|Aa (Um N)<|Aa (Me N)<|Aa (Us N)<|Ae) (Kk N) (Cq N) Gz (Gy N))) ?_;intro aj from89 be bu br bq bp bo ak bn bm aw av au aq an r h hb hS F;dsimp only[x36,Ad,Aj,Az,Ak];have hOK:=Ctx.fd_ok (nt:=38) (hb:=hb) hS;unfold Hv at h;obtain⟨cy,d5,h⟩:=un h;replace F:=fc d5 F;refine An hS F h (λ_ h=>?_) (λ_ h=>?_)
 ·exact Sy hS F h
 ·refine go hS F ?_;refine H8 hS 1 rfl rfl (ev F) yT (ev F) (ev F) ?_;obtain⟨bg,dz,fo,h⟩:=un h;replace F:=fc dz F;refine go hS F ?_;refine Bu hS 4 x116.hf x116.hc x116.hn x116.ok rfl (ev F) (ev F) ?_ rfl (ev F) (A01 rfl) λhb=>?_
  ·exact AS hS F
  dsimp only[x116,Ad];obtain⟨⟨⟨bb,ah,af,cu,ae,ab⟩,bj⟩,dy,h⟩:=un h;replace F:=fc dy F;refine go hS F ?_;cases hc2:bj with
  |false=>
   replace F:=fc hc2 F;replace h:=T3 hc2 h;refine N1 (p:=Ov) (Ctx.fn_ok hS) F 3 ?_
   repeat' (first|with_reducible (first|apply AT|apply AU|apply A2|apply AD|apply Bi)|((with_reducible apply AO);(·simp)))
   exact Ho hS F h
  |true=>
   replace F:=fc hc2 F;replace h:=T1 hc2 h;obtain⟨⟨ba,az,cr⟩,dx,h⟩:=un h;replace F:=fc dx F;refine go hS F ?_;refine AM hS 2 x50.hf x50.hc x50.hn x50.ok rfl (ev F) (ev F) ?_ rfl (ev F) (A01 rfl) λhb=>?_
   ·exact AS hS F
   dsimp only[x50,Ad];refine An hS F h (λ_ h=>?_) (λ_ h=>?_)
   ·refine go hS F ?_;refine A1 (Ctx.fn_ok hS) 2 rfl rfl (ev F) (ev F) (ev F) ?_
    repeat' (first|with_reducible (first|apply AT|apply AU|apply A2|apply AD|apply Bi)|((with_reducible apply AO);(·simp)))
    exact Ho hS F h
   ·refine go hS F ?_;refine AM hS 3 x107.hf x107.hc x107.hn x107.ok rfl (ev F) (ev F) ?_ rfl (ev F) (A01 rfl) λhb=>?_
    ·exact AS hS F
    dsimp only[x107,Ad];obtain⟨⟨ay,cq⟩,dw,h⟩:=un h;replace F:=fc dw F;refine go hS F ?_;refine AM hS 2 x50.hf x50.hc x50.hn x50.ok rfl (ev F) (ev F) ?_ rfl (ev F) (A01 rfl) λhb=>?_
    ·exact AS hS F
    dsimp only[x50,Ad];refine An hS F h (λ_ h=>?_) (λ_ h=>?_)
    ·refine go hS F ?_;refine A1 (Ctx.fn_ok hS) 2 rfl rfl (ev F) (ev F) (ev F) ?_
     repeat' (first|with_reducible (first|apply AT|apply AU|apply A2|apply AD|apply Bi)|((with_reducible apply AO);(·simp)))
     exact Ho hS F h
    ·refine go hS F ?_;refine AM hS 3 x108.hf x108.hc x108.hn x108.ok rfl (ev F) (ev F) ?_ rfl (ev F) (A01 rfl) λhb=>?_
     ·exact AS hS F
     dsimp only[x108,Ad];refine go hS F ?_;refine AM hS 7 x151.hf x151.hc x151.hn x151.ok rfl (ev F) (ev F) ?_ rfl (ev F) (A01 rfl) λhb=>?_
     ·exact AS hS F
     dsimp only[x151,Ad];obtain⟨am,du,h⟩:=un h;replace F:=fc du F;refine An hS F h (λ_ h=>?_) (λ_ h=>?_)
     ·refine go hS F ?_;refine AM hS 2 x98.hf x98.hc x98.hn x98.ok rfl (ev F) (ev F) ?_ rfl (ev F) (A01 rfl) λhb=>?_
      ·exact AS hS F
      dsimp only[x98,Ad];obtain⟨⟨co,cn⟩,dt,h⟩:=un h;replace F:=fc dt F;refine go hS F ?_;refine AM hS 2 x50.hf x50.hc x50.hn x50.ok rfl (ev F) (ev F) ?_ rfl (ev F) (A01 rfl) λhb=>?_
      ·exact AS hS F
      dsimp only[x50,Ad];refine An hS F h (λ_ h=>?_) (λ_ h=>?_)
      ·refine go hS F ?_;refine A1 (Ctx.fn_ok hS) 2 rfl rfl (ev F) (ev F) (ev F) ?_
       repeat' (first|with_reducible (first|apply AT|apply AU|apply A2|apply AD|apply Bi)|((with_reducible apply AO);(·simp)))
       exact Ho hS F h
      ·refine go hS F ?_;refine AM hS 2 x98.hf x98.hc x98.hn x98.ok rfl (ev F) (ev F) ?_ rfl (ev F) (A01 rfl) λhb=>?_
       ·exact AS hS F
       dsimp only[x98,Ad];obtain⟨⟨bi,ck⟩,dq,h⟩:=un h;replace F:=fc dq F;refine go hS F ?_;refine AM hS 2 x50.hf x50.hc x50.hn x50.ok rfl (ev F) (ev F) ?_ rfl (ev F) (A01 rfl) λhb=>?_
       ·exact AS hS F
       dsimp only[x50,Ad];refine An hS F h (λ_ h=>?_) (λ_ h=>?_)
       ·refine go hS F ?_;refine A1 (Ctx.fn_ok hS) 2 rfl rfl (ev F) (ev F) (ev F) ?_
        repeat' (first|with_reducible (first|apply AT|apply AU|apply A2|apply AD|apply Bi)|((with_reducible apply AO);(·simp)))
        exact Ho hS F h
       ·obtain⟨cj,dm,h⟩:=un h;replace F:=fc dm F;refine go hS F ?_;refine Bu hS 5 x50.hf x50.hc x50.hn x50.ok rfl (ev F) (ev F) ?_ rfl (ev F) (A01 rfl) λhb=>?_
        ·exact AS hS F
        dsimp only[x50,Ad];refine An hS F h (λ_ h=>?_) (λ_ h=>?_)
        ·refine go hS F ?_;refine A1 (Ctx.fn_ok hS) 2 rfl rfl (ev F) (ev F) (ev F) ?_
         repeat' (first|with_reducible (first|apply AT|apply AU|apply A2|apply AD|apply Bi)|((with_reducible apply AO);(·simp)))
         exact Ho hS F h
        ·obtain⟨bw,dl,fm,h⟩:=un h;exact QY hS (fc dl F) h
     ·obtain⟨fj,h⟩:=un h;obtain⟨ee,ez,h⟩:=un h;refine go hS F ?_;refine BU ee (λz:Int×(List (Int×Int×Int×Int×Bool))×Nat=>⟨[(0,.own (501,5) z.2.1.length),(5,.i z.1)],[(.c (0,24) 0,.i ak),(.a (501,5),EK z.2.1),(.c (503,5) 0,Ao ay),(.c (503,5) 1,.own (501,5) z.2.1.length),(.c (0,7) 0,.i 3),(.c (0,7) 1,.i be),(.c (0,7) 2,.i bu),(.c (0,7) 3,.i br),(.c (0,7) 4,BK bq),(.c (0,7) 5,.i bp),(.c (0,7) 6,.i bo),(.c (0,7) 7,.i ak),(.c (0,7) 8,.i bn),(.c (0,7) 9,.i bm),(.c (0,7) 10,.i aw),(.c (0,7) 11,.i av),(.c (0,7) 12,.i au),(.c (0,7) 13,.i aq),(.c (0,7) 14,.b an),(.c (201,9) 0,.i be),(.c (201,9) 1,.i ah),(.c (201,9) 2,.i af),(.c (201,9) 3,BK az),(.c (201,9) 4,.i ae),(.c (201,9) 5,.i ab),(.c (104,8) 0,.i bb),(.c (104,8) 1,.i ah),(.c (104,8) 2,.i af),(.c (104,8) 3,BK ba),(.c (104,8) 4,.i ae),(.c (104,8) 5,.i ab),(.c (105,2) 0,.clo (.func 114) [] []),(.c (105,2) 1,.clo (.func 115) [] []),(.c (105,2) 2,.clo (.func 116) [] []),(.c (105,2) 3,.v .nilFunc),(.c (105,2) 4,.clo (.func 118) [] []),(.c (3,1) 0,.i 0),(.c (2,1) 0,.sl 0 true [] []),(.c (2,1) 1,.sl 0 true [] []),(.c (1,1) 0,.i 3),(.c (1,1) 1,.i be),(.c (1,1) 2,.i bu),(.c (1,1) 3,.i br),(.c (1,1) 4,BK bq),(.c (1,1) 5,.i bp),(.c (1,1) 6,.i bo),(.c (1,1) 7,.i ak),(.c (1,1) 8,.i bn),(.c (1,1) 9,.i bm),(.c (1,1) 10,.i aw),(.c (1,1) 11,.i av),(.c (1,1) 12,.i au),(.c (1,1) 13,.i aq),(.c (1,1) 14,.b an),(.c (0,1) 0,Ao aj),(.c (0,1) 1,Bj from89)],z.2.2⟩) (λz=>((z.1,z.2.1):Int×(List (Int×Int×Int×Int×Bool)))) (.x 0) ?_ ?_
      ·refine BO (λn (y:Int×Int×(List (Int×Int×Int×Int×Bool))×Nat)=>DD N ak n y.1 y.2.1 y.2.2.1) (λy=>⟨[(0,.own (501,5) y.2.2.1.length),(1,.clo (.func 152) [] [.box (0,24) 0]),(5,.i y.1),(6,.i y.2.1)],[(.c (0,24) 0,.i ak),(.a (501,5),EK y.2.2.1),(.c (503,5) 0,Ao ay),(.c (503,5) 1,.own (501,5) y.2.2.1.length),(.c (0,7) 0,.i 3),(.c (0,7) 1,.i be),(.c (0,7) 2,.i bu),(.c (0,7) 3,.i br),(.c (0,7) 4,BK bq),(.c (0,7) 5,.i bp),(.c (0,7) 6,.i bo),(.c (0,7) 7,.i ak),(.c (0,7) 8,.i bn),(.c (0,7) 9,.i bm),(.c (0,7) 10,.i aw),(.c (0,7) 11,.i av),(.c (0,7) 12,.i au),(.c (0,7) 13,.i aq),(.c (0,7) 14,.b an),(.c (201,9) 0,.i be),(.c (201,9) 1,.i ah),(.c (201,9) 2,.i af),(.c (201,9) 3,BK az),(.c (201,9) 4,.i ae),(.c (201,9) 5,.i ab),(.c (104,8) 0,.i bb),(.c (104,8) 1,.i ah),(.c (104,8) 2,.i af),(.c (104,8) 3,BK ba),(.c (104,8) 4,.i ae),(.c (104,8) 5,.i ab),(.c (105,2) 0,.clo (.func 114) [] []),(.c (105,2) 1,.clo (.func 115) [] []),(.c (105,2) 2,.clo (.func 116) [] []),(.c (105,2) 3,.v .nilFunc),(.c (105,2) 4,.clo (.func 118) [] []),(.c (3,1) 0,.i 0),(.c (2,1) 0,.sl 0 true [] []),(.c (2,1) 1,.sl 0 true [] []),(.c (1,1) 0,.i 3),(.c (1,1) 1,.i be),(.c (1,1) 2,.i bu),(.c (1,1) 3,.i br),(.c (1,1) 4,BK bq),(.c (1,1) 5,.i bp),(.c (1,1) 6,.i bo),(.c (1,1) 7,.i ak),(.c (1,1) 8,.i bn),(.c (1,1) 9,.i bm),(.c (1,1) 10,.i aw),(.c (1,1) 11,.i av),(.c (1,1) 12,.i au),(.c (1,1) 13,.i aq),(.c (1,1) 14,.b an),(.c (0,1) 0,Ao aj),(.c (0,1) 1,Bj from89)],y.2.2.2⟩) (am,am+1,from89,29) ez (CB F) ?_;rintro n ⟨i158,ai,l160,bl⟩ aa;simp only[DD]at aa;refine An hS F aa (λ_ aa=>?_) (λ_ aa=>?_)
       ·obtain⟨⟨bf,P5,P6,P7,x165⟩,d7,aa⟩:=un aa;obtain⟨el,F⟩:=CH BW d7 F;obtain⟨ci,dh,aa⟩:=un aa;replace F:=fc dh F;refine An hS F aa (λ_ aa=>?_) (λ_ aa=>?_)
        ·obtain⟨⟨Xw,Xx,x177,d9,d8⟩,d6,aa⟩:=un aa;obtain⟨ej,F⟩:=CH BW d6 F;obtain⟨fh,fg,aa⟩:=un aa;exact CS hS F (n,i158+1,ai+1,l160.set i158.toNat (bf,P5,P6,P7,x165),bl+1+1+1+1+1+1) aa
        ·obtain⟨e9,aa⟩:=un aa;exact CS hS F (n,i158,ai+1,l160,bl+1+1+1+1) aa
       ·exact Cu hS F (i158,l160,bl+1) aa
      ·rintro⟨i186,l187,e8⟩ rfl;obtain⟨eh,h⟩:=un h;refine go hS F ?_;refine T5 (Ctx.fn_ok hS) 2 rfl rfl rfl (ev F) (ev F) (ev F) (ev F) (ev F) (ev F) (by simp only[A04];omega) rfl rfl ?_;replace F:=fc (Ut BW eh) F;obtain⟨eu,h⟩:=un h;refine go hS F ?_;refine AM hS 2 x98.hf x98.hc x98.hn x98.ok rfl (ev F) (ev F) ?_ rfl (ev F) (A01 rfl) λhb=>?_
       ·exact AS hS F
       dsimp only[x98,Ad];obtain⟨⟨ce,b9⟩,dg,h⟩:=un h;replace F:=fc dg F;refine go hS F ?_;refine AM hS 2 x50.hf x50.hc x50.hn x50.ok rfl (ev F) (ev F) ?_ rfl (ev F) (A01 rfl) λhb=>?_
       ·exact AS hS F
       dsimp only[x50,Ad];refine An hS F h (λ_ h=>?_) (λ_ h=>?_)
       ·refine go hS F ?_;refine A1 (Ctx.fn_ok hS) 2 rfl rfl (ev F) (ev F) (ev F) ?_
        repeat' (first|with_reducible (first|apply AT|apply AU|apply A2|apply AD|apply Bi)|((with_reducible apply AO);(·simp)))
        exact Ho hS F h
       ·refine go hS F ?_;refine AM hS 2 x98.hf x98.hc x98.hn x98.ok rfl (ev F) (ev F) ?_ rfl (ev F) (A01 rfl) λhb=>?_
        ·exact AS hS F
        dsimp only[x98,Ad];obtain⟨⟨bh,b7⟩,de,h⟩:=un h;replace F:=fc de F;refine go hS F ?_;refine AM hS 2 x50.hf x50.hc x50.hn x50.ok rfl (ev F) (ev F) ?_ rfl (ev F) (A01 rfl) λhb=>?_
        ·exact AS hS F
        dsimp only[x50,Ad];refine An hS F h (λ_ h=>?_) (λ_ h=>?_)
        ·refine go hS F ?_;refine A1 (Ctx.fn_ok hS) 2 rfl rfl (ev F) (ev F) (ev F) ?_
         repeat' (first|with_reducible (first|apply AT|apply AU|apply A2|apply AD|apply Bi)|((with_reducible apply AO);(·simp)))
         exact Ho hS F h
        ·obtain⟨bz,db,h⟩:=un h;replace F:=fc db F;refine go hS F ?_;refine Bu hS 5 x50.hf x50.hc x50.hn x50.ok rfl (ev F) (ev F) ?_ rfl (ev F) (A01 rfl) λhb=>?_
         ·exact AS hS F
         dsimp only[x50,Ad];refine An hS F h (λ_ h=>?_) (λ_ h=>?_)
         ·refine go hS F ?_;refine A1 (Ctx.fn_ok hS) 2 rfl rfl (ev F) (ev F) (ev F) ?_
          repeat' (first|with_reducible (first|apply AT|apply AU|apply A2|apply AD|apply Bi)|((with_reducible apply AO);(·simp)))
          exact Ho hS F h
         ·obtain⟨bv,da,ep,h⟩:=un h;exact QY hS (fc da F) h
end
section
attribute [local irreducible] Aq BD Bv A8 Bq Ba AQ Bw By Ck
attribute [local irreducible] Ej
attribute [local go_sem] kF LA Ij Ik qU yU oI qv I3 List.map_replicate List.map_set
def Hw(N:Nat)(aa:List (Int×Int×Int×(List (Int×Int))×Int×Int))(from228:List (Int×Int×Int×Int×Bool))(cq:Int)(co:Int)(cn:Int)(ck:List (Int×Int))(cj:Int)(ci:Int)(ab:Int)(ai:Int)(ah:Int)(ce:Int)(b9:Int)(b7:Int)(bz:Int)(bw:Bool):Option (((List (Int×Int×Int×(List (Int×Int))×Int×Int))×(List (Int×Int×Int×Int×Bool)))×Int):=(Ey N cq co cn ck cj ci ab ai ah ce b9 b7 bz bw).bind λbl=>bif !bl then(some (([],[]),170))else((Fk N aa).bind λae=>gd (from228.length*40<=140737488355328)<|(BV N ae ab).bind λ((bj,bi,bh,bg,bf,be),af)=>bif af then((GJ N bj bi bh bg bf be ai ah).bind λ((bb,ba,az,ay,aw,av),au)=>bif !(decide (au=0))then(some (([],[]),170))else((EX N ae ab).bind λ(aq,an)=>bif !(decide (an=0))then(some (([],[]),170))else((Ep N aq bb ba az ay aw av).bind λ(r267,am)=>bif !(decide (am=0))then(some (([],[]),170))else((Cz N r267 from228).bind λak=>bif !ak then(some (([],[]),170))else((Fk N r267).bind λaj=>gd (from228.length*40<=140737488355328)<|some ((aj,from228),0))))))else(some (([],[]),170)))
@[go_sem] def xI(N:Nat):Spec:=p0<|(qG<|qD Ak<|qD Az<|qE<|qG<|qC 4<|qI<|qI<|qI<|qD Aj<|qI<|qI<|qI<|qI<|qI<|qI<|qI<|qI<|qI<|qB<|qE<|qE<|qF (([],[]),0) λr=>.tup [.agg [Ao r.1.1,Bj r.1.2],.i r.2]) (Hw N)
theorem fQ(N:Nat):Au Tryz.prog 36 (xI N):=by
 refine fk (wD x36 (Bl (Aa (LE N)<|Aa (AaC N)<|Aa (Uo N)<|Aa (Um N)<|Aa (Me N)<|Ae) (Kk N) (Cq N) Gz (Gy N))) ?_;intro aa from228 cq co cn ck cj ci ab ai ah ce b9 b7 bz bw r h hb hS F;dsimp only[x36,Ad,Aj,Az,Ak];have hOK:=Ctx.fd_ok (nt:=38) (hb:=hb) hS;unfold Hw at h;obtain⟨bl,bv,h⟩:=un h;replace F:=fc bv F;refine An hS F h (λ_ h=>?_) (λ_ h=>?_)
 ·exact Sy hS F h
 ·refine go hS F ?_;refine H8 hS 1 rfl rfl (ev F) yT (ev F) (ev F) ?_;obtain⟨ae,bu,cu,h⟩:=un h;replace F:=fc bu F;refine go hS F ?_;refine Bu hS 4 x121.hf x121.hc x121.hn x121.ok rfl (ev F) (ev F) ?_ rfl (ev F) (A01 rfl) λhb=>?_
  ·exact AS hS F
  dsimp only[x121,Ad];obtain⟨⟨⟨bj,bi,bh,bg,bf,be⟩,af⟩,br,h⟩:=un h;replace F:=fc br F;refine go hS F ?_;cases hc2:af with
  |false=>
   replace F:=fc hc2 F;replace h:=T3 hc2 h;replace F:=fc (wC N) F;refine pY (p:=Ov) (Ctx.fn_ok hS) F 3 (.agg [.i 0,.i 0,.i 0,.sl 2 false [] [.i 0,.i 0],.i 0,.i 0]) ?_
   repeat' (first|with_reducible (first|apply AT|apply AU|apply A2|apply AD|apply Bi)|((with_reducible apply AO);(·simp)))
   exact Ho hS F h
  |true=>
   replace F:=fc hc2 F;replace h:=T1 hc2 h;obtain⟨⟨⟨bb,ba,az,ay,aw,av⟩,au⟩,bq,h⟩:=un h;replace F:=fc bq F;refine go hS F ?_;refine AM hS 2 x50.hf x50.hc x50.hn x50.ok rfl (ev F) (ev F) ?_ rfl (ev F) (A01 rfl) λhb=>?_
   ·exact AS hS F
   dsimp only[x50,Ad];refine An hS F h (λ_ h=>?_) (λ_ h=>?_)
   ·refine go hS F ?_;refine A1 (Ctx.fn_ok hS) 2 rfl rfl (ev F) (ev F) (ev F) ?_
    repeat' (first|with_reducible (first|apply AT|apply AU|apply A2|apply AD|apply Bi)|((with_reducible apply AO);(·simp)))
    exact Ho hS F h
   ·refine go hS F ?_;refine AM hS 3 x107.hf x107.hc x107.hn x107.ok rfl (ev F) (ev F) ?_ rfl (ev F) (A01 rfl) λhb=>?_
    ·exact AS hS F
    dsimp only[x107,Ad];obtain⟨⟨aq,an⟩,bp,h⟩:=un h;replace F:=fc bp F;refine go hS F ?_;refine AM hS 2 x50.hf x50.hc x50.hn x50.ok rfl (ev F) (ev F) ?_ rfl (ev F) (A01 rfl) λhb=>?_
    ·exact AS hS F
    dsimp only[x50,Ad];refine An hS F h (λ_ h=>?_) (λ_ h=>?_)
    ·refine go hS F ?_;refine A1 (Ctx.fn_ok hS) 2 rfl rfl (ev F) (ev F) (ev F) ?_
     repeat' (first|with_reducible (first|apply AT|apply AU|apply A2|apply AD|apply Bi)|((with_reducible apply AO);(·simp)))
     exact Ho hS F h
    ·refine go hS F ?_;refine AM hS 2 x98.hf x98.hc x98.hn x98.ok rfl (ev F) (ev F) ?_ rfl (ev F) (A01 rfl) λhb=>?_
     ·exact AS hS F
     dsimp only[x98,Ad];obtain⟨⟨r267,am⟩,bo,h⟩:=un h;replace F:=fc bo F;refine go hS F ?_;refine AM hS 2 x50.hf x50.hc x50.hn x50.ok rfl (ev F) (ev F) ?_ rfl (ev F) (A01 rfl) λhb=>?_
     ·exact AS hS F
     dsimp only[x50,Ad];refine An hS F h (λ_ h=>?_) (λ_ h=>?_)
     ·refine go hS F ?_;refine A1 (Ctx.fn_ok hS) 2 rfl rfl (ev F) (ev F) (ev F) ?_
      repeat' (first|with_reducible (first|apply AT|apply AU|apply A2|apply AD|apply Bi)|((with_reducible apply AO);(·simp)))
      exact Ho hS F h
     ·obtain⟨ak,bn,h⟩:=un h;replace F:=fc bn F;refine go hS F ?_;refine Bu hS 5 x50.hf x50.hc x50.hn x50.ok rfl (ev F) (ev F) ?_ rfl (ev F) (A01 rfl) λhb=>?_
      ·exact AS hS F
      dsimp only[x50,Ad];refine An hS F h (λ_ h=>?_) (λ_ h=>?_)
      ·refine go hS F ?_;refine A1 (Ctx.fn_ok hS) 2 rfl rfl (ev F) (ev F) (ev F) ?_
       repeat' (first|with_reducible (first|apply AT|apply AU|apply A2|apply AD|apply Bi)|((with_reducible apply AO);(·simp)))
       exact Ho hS F h
      ·obtain⟨aj,bm,cr,h⟩:=un h;exact QY hS (fc bm F) h
end
attribute [local irreducible] Aq BD Bv A8 Bq Ba AQ Bw By Ck
attribute [local irreducible] Ej
attribute [local go_sem] kF LA Ij Ik qU yU oI qv I3 List.map_replicate List.map_set
def Hx(N:Nat)(aa:List (Int×Int×Int×(List (Int×Int))×Int×Int))(from275:List (Int×Int×Int×Int×Bool))(bl:Int)(bj:Int)(bi:Int)(bh:List (Int×Int))(bg:Int)(bf:Int)(be:Int)(bb:Int)(ba:Int)(ab:Int)(ai:Int)(ah:Int)(af:Int)(ae:Bool):Option (((List (Int×Int×Int×(List (Int×Int))×Int×Int))×(List (Int×Int×Int×Int×Bool)))×Int):=(Ez N bl bj bi bh bg bf be bb ba ab ai ah af ae).bind λaq=>bif !aq then(some (([],[]),170))else((Fk N aa).bind λaj=>gd (from275.length*40<=140737488355328)<|(Bk N from275 ab).bind λ(r295,an)=>bif !(!an)then(some (([],[]),170))else(gd (0<=r295/\r295<=(from275.length:Int))<|gd ((from275.length+1)*40<=140737488355328)<|(Cz N aj (from275.take r295.toNat++[(ab,ai,ah,af,ae)]++from275.drop r295.toNat)).bind λam=>bif !am then(some (([],[]),170))else((Fk N aj).bind λak=>gd ((from275.take r295.toNat++[(ab,ai,ah,af,ae)]++from275.drop r295.toNat).length*40<=140737488355328)<|some ((ak,from275.take r295.toNat++[(ab,ai,ah,af,ae)]++from275.drop r295.toNat),0))))
@[go_sem] def xJ(N:Nat):Spec:=p0<|(qG<|qD Ak<|qD Az<|qE<|qG<|qC 5<|qI<|qI<|qI<|qD Aj<|qI<|qI<|qI<|qI<|qI<|qI<|qI<|qI<|qI<|qB<|qE<|qE<|qF (([],[]),0) λr=>.tup [.agg [Ao r.1.1,Bj r.1.2],.i r.2]) (Hx N)
theorem fR(N:Nat):Au Tryz.prog 36 (xJ N):=by
 refine fk (wD x36 (Bl (Aa (LF N)<|Aa (VA N)<|Aa (Me N)<|Ae) (Kk N) (Cq N) Gz (Gy N))) ?_;intro aa from275 bl bj bi bh bg bf be bb ba ab ai ah af ae r h hb hS F;dsimp only[x36,Ad,Aj,Az,Ak];have hOK:=Ctx.fd_ok (nt:=38) (hb:=hb) hS;unfold Hx at h;obtain⟨aq,az,h⟩:=un h;replace F:=fc az F;refine An hS F h (λ_ h=>?_) (λ_ h=>?_)
 ·exact Sy hS F h
 ·refine go hS F ?_;refine H8 hS 1 rfl rfl (ev F) yT (ev F) (ev F) ?_;obtain⟨aj,ay,bp,h⟩:=un h;replace F:=fc ay F;refine go hS F ?_;refine Bu hS 4 x130.hf x130.hc x130.hn x130.ok rfl (ev F) (ev F) ?_ rfl (ev F) (A01 rfl) λhb=>?_
  ·exact AS hS F
  dsimp only[x130,Ad];obtain⟨⟨r295,an⟩,aw,h⟩:=un h;replace F:=fc aw F;refine go hS F ?_;refine AM hS 2 x50.hf x50.hc x50.hn x50.ok rfl (ev F) (ev F) ?_ rfl (ev F) (A01 rfl) λhb=>?_
  ·exact AS hS F
  dsimp only[x50,Ad];refine An hS F h (λ_ h=>?_) (λ_ h=>?_)
  ·refine go hS F ?_;refine A1 (Ctx.fn_ok hS) 2 rfl rfl (ev F) (ev F) (ev F) ?_
   repeat' (first|with_reducible (first|apply AT|apply AU|apply A2|apply AD|apply Bi)|((with_reducible apply AO);(·simp)))
   exact Ho hS F h
  ·obtain⟨bo,bn,am,av,h⟩:=un h;replace F:=fc av F;refine go hS F ?_;refine Bu hS 5 x50.hf x50.hc x50.hn x50.ok rfl (ev F) (ev F) ?_ rfl (ev F) (A01 rfl) λhb=>?_
   ·exact AS hS F
   dsimp only[x50,Ad];refine An hS F h (λ_ h=>?_) (λ_ h=>?_)
   ·refine go hS F ?_;refine A1 (Ctx.fn_ok hS) 2 rfl rfl (ev F) (ev F) (ev F) ?_
    repeat' (first|with_reducible (first|apply AT|apply AU|apply A2|apply AD|apply Bi)|((with_reducible apply AO);(·simp)))
    exact Ho hS F h
   ·obtain⟨ak,au,bm,h⟩:=un h;exact QY hS (fc au F) h
