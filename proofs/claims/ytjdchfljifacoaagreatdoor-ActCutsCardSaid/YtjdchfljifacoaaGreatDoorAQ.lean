import Derived.Test.YtjdchfljifacoaaGreatDoorNZ
set_option linter.all false
set_option maxRecDepth 100000
set_option maxHeartbeats 8000000
namespace Go.Proofs.YtjdchfljifacoaaGreatDoor.Am
open Go
section
attribute [local irreducible] Aq BD Bv A8 Bq Ba AQ Bw By Ck
def BW(x:Int×Int×Int×Int×Bool):List AV:=[.i x.1,.i x.2.1,.i x.2.2.1,.i x.2.2.2.1,.b x.2.2.2.2]
def Eo:List AV->Int×Int×Int×Int×Bool|[.v (.int _ a1),.v (.int _ a2),.v (.int _ a3),.v (.int _ a4),.v (.bool a5)]=>(a1,a2,a3,a4,a5)|_=>(0,0,0,0,false)
theorem dY(x:Int×Int×Int×Int×Bool):Eo (BW x)=x:=by rfl
theorem dZ(R:List (Int×Int×Int×Int×Bool)):(R.map BW).map Eo=R:=by
 induction R with
 |nil=>rfl
 |cons r R ih=>rw[w5,w5,ih,dY]
theorem eA(R:List (Int×Int×Int×Int×Bool))(i:Nat):DJ (R.map BW) [.i 0,.i 0,.i 0,.i 0,.b false] i=BW (R.getD i (0,0,0,0,false)):=by unfold DJ;rw[s9,s9,A07];cases R[i]? <;>rfl
def Az:Rw (Int×Int×Int×Int×Bool):=⟨5,BW,Eo,[.i 0,.i 0,.i 0,.i 0,.b false]⟩
def Bj(l:List (Int×Int×Int×Int×Bool)):AV:=.sl 5 false (l.map BW) [.i 0,.i 0,.i 0,.i 0,.b false]
def EK(l:List (Int×Int×Int×Int×Bool)):AV:=.sl 5 true (l.map BW) [.i 0,.i 0,.i 0,.i 0,.b false]
attribute [go_sem] Az Bj EK BW Eo dZ eA
def Bs(N:Nat)(cj:Int)(bl:Int)(aw:Int):Option Bool:=some ((decide (bl<=cj))&&(decide (cj<=aw)))
@[go_sem] def s80(N:Nat):Spec:=p0<|(qI<|qI<|qI<|qE<|qF false .b) (Bs N)
theorem Pk(N:Nat):Au Tryz.prog 53 (s80 N):=by refine fk (wX PB (Ae)) ?_;intro cj bl aw r h _ hS F;dsimp only[PB,Ad];unfold Bs at h;exact Ah hS F h
def B9(N:Nat)(fx:Int):Option Bool:=(Bs N fx 0 99).bind λfr=>some fr
@[go_sem] def Acq(N:Nat):Spec:=p0<|(qI<|qE<|qF false .b) (B9 N)
theorem QX(N:Nat):Au Tryz.prog 84 (Acq N):=by refine fk (wX Sv (Aa (Pk N)<|Ae)) ?_;intro fx r h _ hS F;dsimp only[Sv,Ad];unfold B9 at h;obtain⟨fr,jf,h⟩:=un h;exact Ah hS (fc jf F) h
def F8(N:Nat)(fy:Int)(au:Int)(bj:Int)(ck:Int)(jp:Bool):Option Bool:=(Bs N fy 0 99).bind λaq=>gd (aq=true->((B9 N au).isSome=true))<|gd ((aq&&((B9 N au).getD false))=true->((Bs N bj (-2) 7).isSome=true))<|gd (((aq&&((B9 N au).getD false))&&((Bs N bj (-2) 7).getD false))=true->((Bs N ck 1 5).isSome=true))<|some (((aq&&((B9 N au).getD false))&&((Bs N bj (-2) 7).getD false))&&((Bs N ck 1 5).getD false))
@[go_sem] def Acr(N:Nat):Spec:=p0<|(qG<|qI<|qI<|qI<|qI<|qB<|qE<|qE<|qF false .b) (F8 N)
theorem Zl(N:Nat):Au Tryz.prog 61 (Acr N):=by refine fk (wX x61 (Aa (Pk N)<|Aa (QX N)<|Ae)) ?_;intro fy au bj ck jp r h _ hS F;dsimp only[x61,Ad];unfold F8 at h;obtain⟨aq,je,jh,ql,qj,h⟩:=un h;exact Ah hS (fc je F) h
def B6(N:Nat)(ji:Int)(e9:Int)(e8:Int)(u2411:List (Int×Int))(ez:Int)(eu:Int):Option Bool:=some (((((decide (e9=0))&&(decide (e8=0)))&&(decide ((u2411.length:Int)=0)))&&(decide (ez=0)))&&(decide (eu=0)))
@[go_sem] def Acs(N:Nat):Spec:=p0<|(qG<|qI<|qI<|qI<|qS Aj<|qI<|qI<|qE<|qE<|qF false .b) (B6 N)
theorem Ot(N:Nat):Au Tryz.prog 104 (Acs N):=by refine fk (wX Uc (Ae)) ?_;intro ji e9 e8 u2411 ez eu r h _ hS F;dsimp only[Uc,Ad,Aj];unfold B6 at h;exact Ah hS F h
def G6(N:Nat)(cn:Int):Option (List Int):=some [cn]
@[go_sem] def Acu(N:Nat):Spec:=p0<|(qI<|qE<|qF [] Fm) (G6 N)
theorem Ou(N:Nat):Au Tryz.prog 96 (Acu N):=by refine fk (wX x96 (Ae)) ?_;intro cn r h _ hS F;dsimp only[x96,Ad];unfold G6 at h;exact Ah hS F h
def El(N:Nat)(s2416:List (Int×Int×Int×Int×Bool))(ab:List (Int×Int×Int×(List (Int×Int))×Int×Int)):Nat->Int->Int->Option (Sum Unit Bool)|0,_,_=>none|n+1,av,ah=>bif decide (ah<(s2416.length:Int))then((Bz s2416 ah).bind λ(af,bh,bg,bu,br)=>(BV N ab bh).bind λ((jo,jn,jm,r2444,jl,jk),ce)=>gd ((!(!ce))=true->((F8 N af bh bg bu br).isSome=true))<|bif (((!ce)||(!((F8 N af bh bg bu br).getD false)))||(decide (af<=av)))||(decide ((r2444.length:Int)<=bg))then(some (.inr false))else(gd (Ai (ah+1))<|El N s2416 ab n af (ah+1)))else(some (.inl ()))
def Cz(N:Nat)(ab:List (Int×Int×Int×(List (Int×Int))×Int×Int))(s2416:List (Int×Int×Int×Int×Bool)):Option Bool:=(El N s2416 ab N (-1) 0).bind λci=>match ci with|.inl ()=>(some (decide ((s2416.length:Int)<=20)))|.inr jj=>(some jj)
@[go_sem] def jH(N:Nat):Spec:=p0<|(qG<|qD Ak<|qD Az<|qE<|qE<|qF false .b) (Cz N)
theorem Me(N:Nat):Au Tryz.prog 32 (jH N):=by
 refine fk (wX Ss (Aa (S4 N)<|Aa (Zl N)<|Ae)) ?_;intro ab s2416 r h _ hS F;dsimp only[Ss,Ad,Az,Ak];unfold Cz at h;obtain⟨ci,qo,h⟩:=un h;refine go hS F ?_;refine BU ci (λz:Nat=>⟨[(1,.box (0,1) 0)],[(.c (0,1) 0,Ao ab),(.c (0,1) 1,Bj s2416)],z⟩) (λz=>(.inl ():Sum Unit Bool)) (.x 0) ?_ ?_
 ·refine BO (λn (y:Int×Int×Nat)=>El N s2416 ab n y.1 y.2.1) (λy=>⟨[(1,.box (0,1) 0),(3,.i y.1),(9,Bj s2416),(10,.i (s2416.length:Int)),(11,.i y.2.1)],[(.c (0,1) 0,Ao ab),(.c (0,1) 1,Bj s2416)],y.2.2⟩) ((-1),0,3) qo (CB F) ?_;rintro n ⟨av,ah,gc⟩ am;simp only[El]at am;refine An hS F am (λ_ am=>?_) (λ_ am=>?_)
  ·obtain⟨⟨af,bh,bg,bu,br⟩,jg,am⟩:=un am;obtain⟨qk,F⟩:=CH BW jg F;obtain⟨⟨⟨jo,jn,jm,r2444,jl,jk⟩,ce⟩,jd,am⟩:=un am;obtain⟨qj,am⟩:=un am;replace F:=fc jd F;refine An hS F am (λ_ am=>?_) (λ_ am=>?_)
   ·obtain rfl:=yJ am;exact Ah hS F h
   ·obtain⟨qn,am⟩:=un am;exact CS hS F (n,af,ah+1,gc+1+1+1+1+1+1) am
  ·exact Cu hS F (gc+1) am
 ·rintro qm rfl;exact Ah hS F h
def CP(N:Nat)(bi:List (Int×Int×Int×(List (Int×Int))×Int×Int))(bv:List (Int×Int×Int×Int×Bool)):Option Bool:=(Ef N bi).bind λb9=>gd (b9=true->((Cz N bi bv).isSome=true))<|some (b9&&((Cz N bi bv).getD false))
@[go_sem] def Zm(N:Nat):Spec:=p0<|(qG<|qD Ak<|qD Az<|qE<|qE<|qF false .b) (CP N)
theorem S6(N:Nat):Au Tryz.prog 6 (Zm N):=by refine fk (wX x6 (Aa (QW N)<|Aa (Me N)<|Ae)) ?_;intro bi bv r h _ hS F;dsimp only[x6,Ad,Az,Ak];unfold CP at h;obtain⟨b9,jc,jh,h⟩:=un h;exact Ah hS (fc jc F) h
def ID(N:Nat)(qh:Int)(iq:Int)(ip:Int)(im:Int)(ij:List (Int×Int))(ii:Int)(ig:Int)(ic:Int)(ib:Int)(g9:Int)(qg:Int)(qe:Int)(qd:Int)(qc:Int)(qb:Bool):Option Bool:=(BG N iq ip im ij ii ig).bind λfq=>some (((fq&&(decide (ic=0)))&&(decide (ib=0)))&&(decide (g9=0)))
@[go_sem] def Acv(N:Nat):Spec:=p0<|(qG<|qI<|qI<|qI<|qI<|qS Aj<|qI<|qI<|qI<|qI<|qI<|qI<|qI<|qI<|qI<|qB<|qE<|qE<|qF false .b) (ID N)
theorem vE(N:Nat):Au Tryz.prog 94 (Acv N):=by refine fk (wX x94 (Aa (Md N)<|Ae)) ?_;intro qh iq ip im ij ii ig ic ib g9 qg qe qd qc qb r h _ hS F;dsimp only[x94,Ad,Aj];unfold ID at h;obtain⟨fq,jb,h⟩:=un h;exact Ah hS (fc jb F) h
def KK(N:Nat)(pz:Int)(g8:Int)(pv:Int)(pq:Int)(pp:List (Int×Int))(po:Int)(pm:Int)(pj:Int)(pi:Int)(ph:Int)(pg:Int)(pd:Int)(o9:Int)(o0:Int)(oz:Bool):Option ((List Int)×(List Int)):=(G6 N g8).bind λfp=>some (fp,[])
@[go_sem] def Acw(N:Nat):Spec:=p0<|(qG<|qI<|qI<|qI<|qI<|qS Aj<|qI<|qI<|qI<|qI<|qI<|qI<|qI<|qI<|qI<|qB<|qE<|qE<|qF ([],[]) λr=>.tup [Fm r.1,Fm r.2]) (KK N)
theorem vF(N:Nat):Au Tryz.prog 95 (Acw N):=by refine fk (wX x95 (Aa (Ou N)<|Ae)) ?_;intro pz g8 pv pq pp po pm pj pi ph pg pd o9 o0 oz r h _ hS F;dsimp only[x95,Ad,Aj];unfold KK at h;obtain⟨fp,ja,h⟩:=un h;exact Ah hS (fc ja F) h
def IE(N:Nat)(oy:Int)(bq:Int)(ep:Int)(el:Int)(ej:List (Int×Int))(eh:Int)(ee:Int)(gz:Int)(d9:Int)(d8:Int)(ox:Int)(ow:Int)(ov:Int)(ot:Int)(ol:Bool):Option Bool:=(B9 N gz).bind λb7=>gd (((b7&&(decide (d9=0)))&&(decide (d8=0)))=true->((B6 N bq ep el ej eh ee).isSome=true))<|some ((((b7&&(decide (d9=0)))&&(decide (d8=0)))&&((B6 N bq ep el ej eh ee).getD false))&&(decide (bq=0)))
@[go_sem] def Acx(N:Nat):Spec:=p0<|(qG<|qI<|qI<|qI<|qI<|qS Aj<|qI<|qI<|qI<|qI<|qI<|qI<|qI<|qI<|qI<|qB<|qE<|qE<|qF false .b) (IE N)
theorem vG(N:Nat):Au Tryz.prog 103 (Acx N):=by refine fk (wX Mu (Aa (QX N)<|Aa (Ot N)<|Ae)) ?_;intro oy bq ep el ej eh ee gz d9 d8 ox ow ov ot ol r h _ hS F;dsimp only[Mu,Ad,Aj];unfold IE at h;obtain⟨b7,i9,jh,h⟩:=un h;exact Ah hS (fc i9 F) h
def KL(N:Nat)(oj:Int)(oh:Int)(og:Int)(oe:Int)(od:List (Int×Int))(oc:Int)(oa:Int)(gy:Int)(n9:Int)(n8:Int)(n7:Int)(n6:Int)(n5:Int)(n4:Int)(n3:Bool):Option ((List Int)×(List Int)):=(G6 N gy).bind λfo=>some (fo,[])
@[go_sem] def Acy(N:Nat):Spec:=p0<|(qG<|qI<|qI<|qI<|qI<|qS Aj<|qI<|qI<|qI<|qI<|qI<|qI<|qI<|qI<|qI<|qB<|qE<|qE<|qF ([],[]) λr=>.tup [Fm r.1,Fm r.2]) (KL N)
theorem vH(N:Nat):Au Tryz.prog 105 (Acy N):=by refine fk (wX Ud (Aa (Ou N)<|Ae)) ?_;intro oj oh og oe od oc oa gy n9 n8 n7 n6 n5 n4 n3 r h _ hS F;dsimp only[Ud,Ad,Aj];unfold KL at h;obtain⟨fo,i8,h⟩:=un h;exact Ah hS (fc i8 F) h
def Ih(N:Nat)(n0:Int)(aa:Int)(bf:Int)(be:Int)(bb:List (Int×Int))(ba:Int)(az:Int)(ak:Int)(ay:Int)(bp:Int)(nz:Int)(ny:Int)(nw:Int)(nv:Int)(nu:Bool):Option Bool:=(B9 N ak).bind λai=>gd (ai=true->((B9 N aa).isSome=true))<|gd (((ai&&((B9 N aa).getD false))&&(decide (ak≠aa)))=true->((B6 N aa bf be bb ba az).isSome=true))<|gd ((((ai&&((B9 N aa).getD false))&&(decide (ak≠aa)))&&((B6 N aa bf be bb ba az).getD false))=true->((Bs N ay 0 7).isSome=true))<|gd (((((ai&&((B9 N aa).getD false))&&(decide (ak≠aa)))&&((B6 N aa bf be bb ba az).getD false))&&((Bs N ay 0 7).getD false))=true->((Bs N bp 0 7).isSome=true))<|some ((((((ai&&((B9 N aa).getD false))&&(decide (ak≠aa)))&&((B6 N aa bf be bb ba az).getD false))&&((Bs N ay 0 7).getD false))&&((Bs N bp 0 7).getD false))&&(decide (ay≠bp)))
@[go_sem] def Acz(N:Nat):Spec:=p0<|(qG<|qI<|qI<|qI<|qI<|qS Aj<|qI<|qI<|qI<|qI<|qI<|qI<|qI<|qI<|qI<|qB<|qE<|qE<|qF false .b) (Ih N)
theorem vI(N:Nat):Au Tryz.prog 114 (Acz N):=by refine fk (wX tK (Aa (QX N)<|Aa (Ot N)<|Aa (Pk N)<|Ae)) ?_;intro n0 aa bf be bb ba az ak ay bp nz ny nw nv nu r h _ hS F;dsimp only[tK,Ad,Aj];unfold Ih at h;obtain⟨ai,i7,jh,ql,qj,qn,h⟩:=un h;exact Ah hS (fc i7 F) h
def JV(N:Nat)(nr:Int)(d7:Int)(nq:Int)(no:Int)(nl:List (Int×Int))(nk:Int)(nj:Int)(d6:Int)(nh:Int)(ng:Int)(nf:Int)(nc:Int)(nb:Int)(mz:Int)(my:Bool):Option ((List Int)×(List Int)):=some ([min d6 d7,max d6 d7],[])
@[go_sem] def AcA(N:Nat):Spec:=p0<|(qG<|qI<|qI<|qI<|qI<|qS Aj<|qI<|qI<|qI<|qI<|qI<|qI<|qI<|qI<|qI<|qB<|qE<|qE<|qF ([],[]) λr=>.tup [Fm r.1,Fm r.2]) (JV N)
theorem vJ(N:Nat):Au Tryz.prog 115 (AcA N):=by refine fk (wX tL (Ae)) ?_;intro nr d7 nq no nl nk nj d6 nh ng nf nc nb mz my r h _ hS F;dsimp only[tL,Ad,Aj];unfold JV at h;exact Ah hS F h
def Ii(N:Nat)(mt:Int)(bo:Int)(d5:Int)(dz:Int)(dy:List (Int×Int))(dx:Int)(dw:Int)(gx:Int)(ae:Int)(aj:Int)(mr:Int)(mq:Int)(mo:Int)(mj:Int)(mh:Bool):Option Bool:=(B9 N gx).bind λan=>gd (an=true->((Bs N ae (-40) 40).isSome=true))<|gd ((an&&((Bs N ae (-40) 40).getD false))=true->((Bs N aj (-40) 40).isSome=true))<|gd ((((an&&((Bs N ae (-40) 40).getD false))&&((Bs N aj (-40) 40).getD false))&&((decide (ae≠0))||(decide (aj≠0))))=true->((B6 N bo d5 dz dy dx dw).isSome=true))<|some (((((an&&((Bs N ae (-40) 40).getD false))&&((Bs N aj (-40) 40).getD false))&&((decide (ae≠0))||(decide (aj≠0))))&&((B6 N bo d5 dz dy dx dw).getD false))&&(decide (bo=0)))
@[go_sem] def AcB(N:Nat):Spec:=p0<|(qG<|qI<|qI<|qI<|qI<|qS Aj<|qI<|qI<|qI<|qI<|qI<|qI<|qI<|qI<|qI<|qB<|qE<|qE<|qF false .b) (Ii N)
theorem vK(N:Nat):Au Tryz.prog 119 (AcB N):=by refine fk (wX JR (Aa (QX N)<|Aa (Pk N)<|Aa (Ot N)<|Ae)) ?_;intro mt bo d5 dz dy dx dw gx ae aj mr mq mo mj mh r h _ hS F;dsimp only[JR,Ad,Aj];unfold Ii at h;obtain⟨an,i6,jh,ql,qj,h⟩:=un h;exact Ah hS (fc i6 F) h
def JW(N:Nat)(mg:Int)(mf:Int)(me:Int)(md:Int)(mc:List (Int×Int))(mb:Int)(ma:Int)(gw:Int)(l7:Int)(l6:Int)(lz:Int)(lr:Int)(lq:Int)(lm:Int)(lj:Bool):Option ((List Int)×(List Int)):=(G6 N gw).bind λfm=>some (fm,[])
@[go_sem] def AcC(N:Nat):Spec:=p0<|(qG<|qI<|qI<|qI<|qI<|qS Aj<|qI<|qI<|qI<|qI<|qI<|qI<|qI<|qI<|qI<|qB<|qE<|qE<|qF ([],[]) λr=>.tup [Fm r.1,Fm r.2]) (JW N)
theorem vL(N:Nat):Au Tryz.prog 120 (AcC N):=by refine fk (wX Oi (Aa (Ou N)<|Ae)) ?_;intro mg mf me md mc mb ma gw l7 l6 lz lr lq lm lj r h _ hS F;dsimp only[Oi,Ad,Aj];unfold JW at h;obtain⟨fm,i5,h⟩:=un h;exact Ah hS (fc i5 F) h
def Gg(N:Nat)(li:Int)(bn:Int)(du:Int)(dt:Int)(dq:List (Int×Int))(dm:Int)(dl:Int)(gu:Int)(dh:Int)(dg:Int)(lh:Int)(lg:Int)(lf:Int)(kz:Int)(kw:Bool):Option Bool:=(Bs N gu 0 99).bind λbz=>gd (((bz&&(decide (dh=0)))&&(decide (dg=0)))=true->((B6 N bn du dt dq dm dl).isSome=true))<|some ((((bz&&(decide (dh=0)))&&(decide (dg=0)))&&((B6 N bn du dt dq dm dl).getD false))&&(decide (bn=0)))
@[go_sem] def AcD(N:Nat):Spec:=p0<|(qG<|qI<|qI<|qI<|qI<|qS Aj<|qI<|qI<|qI<|qI<|qI<|qI<|qI<|qI<|qI<|qB<|qE<|qE<|qF false .b) (Gg N)
theorem Zn(N:Nat):Au Tryz.prog 125 (AcD N):=by refine fk (wX tO (Aa (Pk N)<|Aa (Ot N)<|Ae)) ?_;intro li bn du dt dq dm dl gu dh dg lh lg lf kz kw r h _ hS F;dsimp only[tO,Ad,Aj];unfold Gg at h;obtain⟨bz,i4,jh,h⟩:=un h;exact Ah hS (fc i4 F) h
def IF(N:Nat)(kv:Int)(kr:Int)(kq:Int)(km:Int)(kl:List (Int×Int))(kj:Int)(ki:Int)(gt:Int)(kh:Int)(kg:Int)(kf:Int)(ke:Int)(ka:Int)(j9:Int)(j8:Bool):Option ((List Int)×(List Int)):=(G6 N gt).bind λfj=>some ([],fj)
@[go_sem] def AcE(N:Nat):Spec:=p0<|(qG<|qI<|qI<|qI<|qI<|qS Aj<|qI<|qI<|qI<|qI<|qI<|qI<|qI<|qI<|qI<|qB<|qE<|qE<|qF ([],[]) λr=>.tup [Fm r.1,Fm r.2]) (IF N)
theorem Zo(N:Nat):Au Tryz.prog 126 (AcE N):=by refine fk (wX tP (Aa (Ou N)<|Ae)) ?_;intro kv kr kq km kl kj ki gt kh kg kf ke ka j9 j8 r h _ hS F;dsimp only[tP,Ad,Aj];unfold IF at h;obtain⟨fj,iz,h⟩:=un h;exact Ah hS (fc iz F) h
def IG(N:Nat)(j7:Int)(bm:Int)(de:Int)(db:Int)(da:List (Int×Int))(cy:Int)(cu:Int)(cr:Int)(cq:Int)(co:Int)(gr:Int)(gm:Int)(gj:Int)(gi:Int)(gh:Bool):Option Bool:=(F8 N gr gm gj gi gh).bind λbw=>gd ((((bw&&(decide (cr=0)))&&(decide (cq=0)))&&(decide (co=0)))=true->((B6 N bm de db da cy cu).isSome=true))<|some (((((bw&&(decide (cr=0)))&&(decide (cq=0)))&&(decide (co=0)))&&((B6 N bm de db da cy cu).getD false))&&(decide (bm=0)))
@[go_sem] def AcF(N:Nat):Spec:=p0<|(qG<|qI<|qI<|qI<|qI<|qS Aj<|qI<|qI<|qI<|qI<|qI<|qI<|qI<|qI<|qI<|qB<|qE<|qE<|qF false .b) (IG N)
theorem vM(N:Nat):Au Tryz.prog 128 (AcF N):=by refine fk (wX tT (Aa (Zl N)<|Aa (Ot N)<|Ae)) ?_;intro j7 bm de db da cy cu cr cq co gr gm gj gi gh r h _ hS F;dsimp only[tT,Ad,Aj];unfold IG at h;obtain⟨bw,iy,jh,h⟩:=un h;exact Ah hS (fc iy F) h
def KM(N:Nat)(j6:Int)(j5:Int)(j4:Int)(jz:Int)(jy:List (Int×Int))(jx:Int)(jw:Int)(jv:Int)(ju:Int)(jt:Int)(gg:Int)(ge:Int)(js:Int)(jr:Int)(jq:Bool):Option ((List Int)×(List Int)):=(G6 N ge).bind λfh=>(G6 N gg).bind λfg=>some (fh,fg)
@[go_sem] def AcG(N:Nat):Spec:=p0<|(qG<|qI<|qI<|qI<|qI<|qS Aj<|qI<|qI<|qI<|qI<|qI<|qI<|qI<|qI<|qI<|qB<|qE<|qE<|qF ([],[]) λr=>.tup [Fm r.1,Fm r.2]) (KM N)
theorem vN(N:Nat):Au Tryz.prog 129 (AcG N):=by refine fk (wX tU (Aa (Ou N)<|Ae)) ?_;intro j6 j5 j4 jz jy jx jw jv ju jt gg ge js jr jq r h _ hS F;dsimp only[tU,Ad,Aj];unfold KM at h;obtain⟨fh,iw,fg,iv,h⟩:=un h;exact Ah hS (fc iv (fc iw F)) h
end
section
attribute [local irreducible] Aq BD Bv A8 Bq Ba AQ Bw By Ck
def C5(N:Nat)(l900:List (Int×Int×Int×Int×Bool))(ab:Int)(aj:Int)(ai:Int)(ah:Int)(af:Bool):Nat->Bool->Int->(List (Int×Int×Int×Int×Bool))->Option (Sum (Bool×(List (Int×Int×Int×Int×Bool))) (((List (Int×Int×Int×Int×Bool))×Bool)))|0,_,_,_=>none|n+1,ae,aq,l928=>bif decide (aq<(l900.length:Int))then((Bz l900 aq).bind λ(au,bh,bg,bf,be)=>bif decide (au=ab)then(some (.inr ([],false)))else((bif (!ae)&&(decide (ab<au))then(gd ((l928.length+1)*40<=140737488355328)<|some (true,l928++[(ab,aj,ai,ah,af)]))else(some (ae,l928)):Option (Bool×(List (Int×Int×Int×Int×Bool)))).bind λ(am,l937)=>gd ((l937.length+1)*40<=140737488355328)<|gd (Ai (aq+1))<|C5 N l900 ab aj ai ah af n am (aq+1) (l937++[(au,bh,bg,bf,be)])))else(some (.inl (ae,l928)))
def Fd(N:Nat)(l900:List (Int×Int×Int×Int×Bool))(ab:Int)(aj:Int)(ai:Int)(ah:Int)(af:Bool):Option ((List (Int×Int×Int×Int×Bool))×Bool):=(C5 N l900 ab aj ai ah af N false 0 []).bind λbl=>match bl with|.inl (av,l945)=>((bif !av then(gd ((l945.length+1)*40<=140737488355328)<|some (l945++[(ab,aj,ai,ah,af)]))else(some l945):Option ((List (Int×Int×Int×Int×Bool)))).bind λcu=>some (cu,true))|.inr dt=>(some dt)
@[go_sem] def s52(N:Nat):Spec:=p0<|(qS Az<|qG<|qI<|qI<|qI<|qI<|qB<|qE<|qE<|qF ([],false) λr=>.tup [Bj r.1,.b r.2]) (Fd N)
theorem AaO(N:Nat):Au Tryz.prog 30 (s52 N):=by
 refine fk (wX Sr (Ae)) ?_;intro l900 ab aj ai ah af r h _ hS F;dsimp only[Sr,Ad,Az];unfold Fd at h;refine go hS F ?_;refine HG 1000001 6 5 [.i 0,.i 0,.i 0,.i 0,.b false] (by show(6:Nat)<53;omega) (by omega) (ev F) ?_;obtain⟨bl,dy,h⟩:=un h;refine go hS F ?_;refine BU bl (λz:Bool×(List (Int×Int×Int×Int×Bool))×Nat=>⟨[(3,.box (0,1) 0),(6,.own (1000001,5) z.2.1.length),(7,.b z.1)],[(.a (1000001,5),EK z.2.1),(.c (0,1) 0,.i ab),(.c (0,1) 1,.i aj),(.c (0,1) 2,.i ai),(.c (0,1) 3,.i ah),(.c (0,1) 4,.b af)],z.2.2⟩) (λz=>(.inl (z.1,z.2.1):Sum (Bool×(List (Int×Int×Int×Int×Bool))) (((List (Int×Int×Int×Int×Bool))×Bool)))) (.x 0) ?_ ?_
 ·refine BO (λn (y:Bool×Int×(List (Int×Int×Int×Int×Bool))×Nat)=>C5 N l900 ab aj ai ah af n y.1 y.2.1 y.2.2.1) (λy=>⟨[(0,Bj l900),(3,.box (0,1) 0),(6,.own (1000001,5) y.2.2.1.length),(7,.b y.1),(8,.i y.2.1)],[(.a (1000001,5),EK y.2.2.1),(.c (0,1) 0,.i ab),(.c (0,1) 1,.i aj),(.c (0,1) 2,.i ai),(.c (0,1) 3,.i ah),(.c (0,1) 4,.b af)],y.2.2.2⟩) (false,0,[],5) dy (CB F) ?_;rintro n ⟨ae,aq,l928,bp⟩ aa;simp only[C5]at aa;refine An hS F aa (λ_ aa=>?_) (λ_ aa=>?_)
  ·obtain⟨⟨au,bh,bg,bf,be⟩,de,aa⟩:=un aa;obtain⟨ee,F⟩:=CH BW de F;refine An hS F aa (λ_ aa=>?_) (λ_ aa=>?_)
   ·obtain rfl:=yJ aa;exact Ah hS F h
   ·obtain⟨dw,bo,aa⟩:=un aa;refine go hS F ?_;refine BU dw (λz:Bool×(List (Int×Int×Int×Int×Bool))×Nat=>⟨[(0,Bj l900),(3,.box (0,1) 0),(6,.own (1000001,5) z.2.1.length),(7,.b z.1),(8,.i aq)],[(.a (1000001,5),EK z.2.1),(.c (0,1) 0,.i ab),(.c (0,1) 1,.i aj),(.c (0,1) 2,.i ai),(.c (0,1) 3,.i ah),(.c (0,1) 4,.b af)],z.2.2⟩) (λz=>((z.1,z.2.1):Bool×(List (Int×Int×Int×Int×Bool)))) .n ?_ ?_
    ·refine An hS F bo (λ_ bo=>?_) (λ_ bo=>?_)
     ·obtain⟨d5,bo⟩:=un bo;exact Cu hS F (true,l928++[(ab,aj,ai,ah,af)],bp+1+1+1+1+1) bo
     ·exact Cu hS F (ae,l928,bp+1+1+1) bo
    ·rintro⟨am,l937,dz⟩ rfl;obtain⟨eu,ep,aa⟩:=un aa;exact CS hS F (n,am,aq+1,l937++[(au,bh,bg,bf,be)],dz+1+1) aa
  ·exact Cu hS F (ae,l928,bp+1) aa
 ·rintro⟨av,l945,dh⟩ rfl;obtain⟨du,bn,h⟩:=un h;refine go hS F ?_;refine BU du (λz:(List (Int×Int×Int×Int×Bool))×Nat=>⟨[(6,.own (1000001,5) z.1.length)],[(.a (1000001,5),EK z.1)],z.2⟩) (λz=>(z.1:(List (Int×Int×Int×Int×Bool)))) .n ?_ ?_
  ·refine An hS F bn (λ_ bn=>?_) (λ_ bn=>?_)
   ·obtain⟨el,bn⟩:=un bn;exact Cu hS F (l945++[(ab,aj,ai,ah,af)],dh+1+1) bn
   ·exact Cu hS F (l945,dh+1) bn
  ·rintro⟨cu,ej⟩ rfl;exact Ah hS F h
def CY(N:Nat)(c951:Int)(ay:Int):Option Int:=bif decide (c951<0)then(gd (Ai (c951+1))<|gd (Ai (-(c951+1)))<|gd (ay≠0)<|some ((-(c951+1)).tmod ay))else(gd (ay≠0)<|some (c951.tmod ay))
@[go_sem] def s51(N:Nat):Spec:=p0<|(qI<|qI<|qE<|qF 0 .i) (CY N)
theorem AaP(N:Nat):Au Tryz.prog 29 (s51 N):=by
 refine fk (wX Sq (Ae)) ?_;intro c951 ay r h _ hS F;dsimp only[Sq,Ad];unfold CY at h;refine An hS F h (λ_ h=>?_) (λ_ h=>?_)
 ·obtain⟨dx,d7,d6,h⟩:=un h;exact Ah hS F h
 ·obtain⟨d5,h⟩:=un h;exact Ah hS F h
def ED(N:Nat)(a953:List (Int×Int×Int×Int×Bool))(b954:List (Int×Int×Int×Int×Bool)):Nat->Int->Option (Sum Unit Bool)|0,_=>none|n+1,an=>bif decide (an<(a953.length:Int))then((Bz a953 an).bind λ(cn,ck,cj,ci,ce)=>(Bz b954 an).bind λ(b9,b7,bz,bw,bv)=>bif !(decide (cn=b9)&&(decide (ck=b7)&&(decide (cj=bz)&&(decide (ci=bw)&&(ce==bv)))))then(some (.inr false))else(gd (Ai (an+1))<|ED N a953 b954 n (an+1)))else(some (.inl ()))
def E6(N:Nat)(a953:List (Int×Int×Int×Int×Bool))(b954:List (Int×Int×Int×Int×Bool)):Option Bool:=bif decide ((a953.length:Int)≠(b954.length:Int))then(some false)else((ED N a953 b954 N 0).bind λbj=>match bj with|.inl ()=>(some true)|.inr dq=>(some dq))
@[go_sem] def s47(N:Nat):Spec:=p0<|(qS Az<|qS Az<|qE<|qF false .b) (E6 N)
theorem AaQ(N:Nat):Au Tryz.prog 55 (s47 N):=by
 refine fk (wX YX (Ae)) ?_;intro a953 b954 r h _ hS F;dsimp only[YX,Ad,Az];unfold E6 at h;refine An hS F h (λ_ h=>?_) (λ_ h=>?_)
 ·exact Ah hS F h
 ·obtain⟨bj,dy,h⟩:=un h;refine go hS F ?_;refine BU bj (λz:Nat=>⟨[],[],z⟩) (λz=>(.inl ():Sum Unit Bool)) (.x 0) ?_ ?_
  ·refine BO (λn (y:Int×Nat)=>ED N a953 b954 n y.1) (λy=>⟨[(0,Bj a953),(1,Bj b954),(5,.i y.1)],[],y.2⟩) (0,3) dy (CB F) ?_;rintro n ⟨an,dg⟩ aa;simp only[ED]at aa;refine An hS F aa (λ_ aa=>?_) (λ_ aa=>?_)
   ·obtain⟨⟨cn,ck,cj,ci,ce⟩,db,aa⟩:=un aa;obtain⟨d9,F⟩:=CH BW db F;obtain⟨⟨b9,b7,bz,bw,bv⟩,da,aa⟩:=un aa;obtain⟨d8,F⟩:=CH BW da F;refine An hS F aa (λ_ aa=>?_) (λ_ aa=>?_)
    ·obtain rfl:=yJ aa;exact Ah hS F h
    ·obtain⟨d6,aa⟩:=un aa;exact CS hS F (n,an+1,dg+1+1+1) aa
   ·exact Cu hS F (dg+1) aa
  ·rintro eh rfl;exact Ah hS F h
def Fo(N:Nat)(dm:List (Int×Int×Int×(List (Int×Int))×Int×Int))(br:List (Int×Int×Int×Int×Bool))(dl:List (Int×Int×Int×(List (Int×Int))×Int×Int))(bq:List (Int×Int×Int×Int×Bool)):Option Bool:=(HV N dm dl).bind λbi=>gd (bi=true->((E6 N br bq).isSome=true))<|some (bi&&((E6 N br bq).getD false))
@[go_sem] def s21(N:Nat):Spec:=p0<|(qG<|qD Ak<|qD Az<|qE<|qG<|qD Ak<|qD Az<|qE<|qE<|qF false .b) (Fo N)
theorem AaR(N:Nat):Au Tryz.prog 23 (s21 N):=by refine fk (wX T6 (Aa (AaE N)<|Aa (AaQ N)<|Ae)) ?_;intro dm br dl bq r h _ hS F;dsimp only[T6,Ad,Az,Ak];unfold Fo at h;obtain⟨bi,cy,dx,h⟩:=un h;exact Ah hS (fc cy F) h
def Dw(N:Nat)(c993:Int)(aw:Int):Option Int:=bif decide (c993<0)then(gd (Ai (c993+1))<|gd (Ai (-(c993+1)))<|gd (aw≠0)<|some ((-(c993+1)).tmod aw))else(gd (aw≠0)<|some (c993.tmod aw))
@[go_sem] def s34(N:Nat):Spec:=p0<|(qI<|qI<|qE<|qF 0 .i) (Dw N)
theorem AaS(N:Nat):Au Tryz.prog 7 (s34 N):=by
 refine fk (wX x7 (Ae)) ?_;intro c993 aw r h _ hS F;dsimp only[x7,Ad];unfold Dw at h;refine An hS F h (λ_ h=>?_) (λ_ h=>?_)
 ·obtain⟨dx,d7,d6,h⟩:=un h;exact Ah hS F h
 ·obtain⟨d5,h⟩:=un h;exact Ah hS F h
def Gc(N:Nat)(ak:Int):Option (Int×Int×Int×(List (Int×Int))×Int×Int):=gd (Ai (ak+4))<|gd (Ai (ak+4))<|some (3,2,0,[(ak,0),(ak+4,0),(ak+4,4),(ak,4)],0,2)
@[go_sem] def s49(N:Nat):Spec:=p0<|(qI<|qE<|qF (0,0,0,[],0,0) λr=>.agg [.i r.1,.i r.2.1,.i r.2.2.1,BK r.2.2.2.1,.i r.2.2.2.2.1,.i r.2.2.2.2.2]) (Gc N)
theorem jI(N:Nat):Au Tryz.prog 21 (s49 N):=by refine fk (wX iV (Ae)) ?_;intro ak r h _ hS F;dsimp only[iV,Ad];unfold Gc at h;obtain⟨dx,d7,h⟩:=un h;exact Ah hS F h
def B7(N:Nat)(bu:Int):Option ((List (Int×Int×Int×(List (Int×Int))×Int×Int))×(List (Int×Int×Int×Int×Bool))):=(Gc N bu).bind λ(cr,cq,co,bb,ba,az)=>some ([(cr,cq,co,bb,ba,az)],[(1,3,(-1),3,true)])
@[go_sem] def s48(N:Nat):Spec:=p0<|(qI<|qE<|qF ([],[]) λr=>.agg [Ao r.1,Bj r.2]) (B7 N)
theorem AaT(N:Nat):Au Tryz.prog 15 (s48 N):=by refine fk (wX x15 (Aa (jI N)<|Ae)) ?_;intro bu r h _ hS F;dsimp only[x15,Ad];unfold B7 at h;obtain⟨⟨cr,cq,co,bb,ba,az⟩,bm,h⟩:=un h;exact Ah hS (fc bm F) h
end
theorem Wl{U Z:Cf}(hf:∀b,Fz U b->Fz Z b)(hw:Z.w=U.w):∀{rows:List (List AV)}{es:List MapEntry},(∀r∈rows,AA r=true)->RepEnts U rows es->RepEnts Z rows es
 |[],_,_,h=>h
 |r::rs,_,hp,⟨e,es,h1,h2,h3⟩=>⟨e,es,h1,by grind[RepL.ofPure],Wl hf hw (by grind) h3⟩
theorem Sl{P:Program}{S:Tab}(hS:TabOK P S){f:Nat}(x:FnX P f){args:List AV}{rows:List (List AV)}(hn:args.length<=x.nt)(h:∀hb,Aq (Ctx.fn P S x.nt hb) x.c (Ba x.rv λr s=>∃n,r=.mp n/\hl s.hp (.c n 0)=some (Mx rows)) ⟨BC 0 args,[],0⟩):GCall P f args (λn=>[(.c n 0,Mx rows)]) .mp:=by
 intro U hp vs nm hgl hI0 hnm hp hx;have hgt:Gl U.fresh:=λb j hj=>⟨⟨λh=>h,by rintro(h|h);exact(hgl b j hj).1.1 h;exact(hgl b j hj).1.2.1 h,(hgl b j hj).1.2.2⟩,(hgl b j hj).2⟩
 have hx':=RepL.ofPure (U:=U) (σ':=U.fresh) (λb hb=>⟨λh=>h,by rintro(h|h);exact hb.1 h;exact hb.2.1 h,hb.2.2⟩) (λ_ _=>rfl) args vs hp hx;have hI:HInv U.fresh []:=by refine⟨λn=>rfl,λn j c h=>by simp[hl]at h,by grind[hl],?_,λb h=>h.elim,λb hb=>hb.elim (hI0.lt b) (hI0.ou b),λb h=>h.elim⟩;rintro p q b (⟨_,_,j,c,h⟩|⟨_,⟨_,_,_,h⟩,_⟩) _<;>simp[hl]at h
 refine callsIn_wide.1 ((IO hS x.hf x.hc x.hn hn hgt hI (λm hm=>hm.elim) hx' (h _)).mono ?_);rintro en w' ⟨v,Z,s,r,rfl,rfl,e,g1,g2,g3,n,rfl,k1⟩;obtain⟨m1,m2,es,m3,m4,m5,m6⟩:=MapF.of g1 k1;have hO:=e.out;have hb:U.w.heap.size<=Z.rb n:=by
  rcases A52 (Z.rb n) U.w.heap.size with hh|hh
  ·exact absurd m2 (e.fro _ _ (w7 hh) (λh=>h)).2
  ·exact hh
 obtain⟨_,q1,q2⟩:=hI0.newMap hnm (λb o hb=>(e.fro b o hb (λh=>h)).1) e.io hb m3 m4 (Wl (U:=Z) (Z:=U.plus (Z.rb n) Z.w) (λb hb=>by have h1:=hb.2.1;rw[hO]at h1;exact⟨by rintro(h|rfl);exact h1 (.inl h);exact hb.1 m2,λh=>h1 (.inr h),hb.2.2⟩) rfl m4 m5) m6;refine⟨_,_,rfl,⟨q1,q2,rfl,λm hm=>hm⟩,.inr rfl,?_⟩;rw[g3.2];simp[Cf.named]
def Wm(x:AV):List AV->AV|[]=>x|l=>.agg (l++[x])
theorem QT:∀xs ys:List AV,AA (xs++ys)=(AA xs&&AA ys)
 |[],_=>rfl
 |x::xs,ys=>by simp only[A10,AA,QT xs ys,Bool.and_assoc]
theorem QU:∀{rows:List (List AV)},(∀r∈rows,AA r=true)->AA rows.flatten=true
 |[],_=>rfl
 |r::rs,h=>by rw[List.flatten_cons,QT,h r (by simp),A60];exact QU λr hr=>by grind
theorem Sm{P:Program}{S:Tab}(hS:TabOK P S){f:Nat}(x:FnX P f){args pre d:List AV}{sz:Nat}{rows:List (List AV)}(hn:args.length<=x.nt)(hro:∀r∈rows,AA r=true)(h:∀hb,Aq (Ctx.fn P S x.nt hb) x.c (Ba x.rv λr s=>∃n pr,r=Wm (.own n rows.length) pr/\hl s.hp (.a n)=some (.sl sz true rows d)/\E2 s.hp pr/\F0 pr=true/\VJ n (Dy pr)/\GH (EP s.hp pr) pre/\AA (EP s.hp pr)=true) ⟨BC 0 args,[],0⟩):GCall P f args (λn=>[(.a n,.sl sz true rows d)]) (λn=>Wm (.own n rows.length) pre):=by
 intro U hpc vs nm hgl hI0 hnm hp hx;have hgt:Gl U.fresh:=λb j hj=>⟨⟨λh=>h,by rintro(h|h);exact(hgl b j hj).1.1 h;exact(hgl b j hj).1.2.1 h,(hgl b j hj).1.2.2⟩,(hgl b j hj).2⟩
 have hx':RepL U.fresh args vs:=RepL.ofPure (U:=U) (σ':=U.fresh) (λb hb=>⟨λh=>h,by rintro(h|h);exact hb.1 h;exact hb.2.1 h,hb.2.2⟩) (λ_ _=>rfl) args vs hp hx;have hI:HInv U.fresh []:=by refine⟨λn=>rfl,λn j c h=>by simp[hl]at h,λn sz live rows d h=>by simp[hl]at h,?_,λb h=>h.elim,λb hb=>hb.elim (hI0.lt b) (hI0.ou b),λb h=>h.elim⟩;rintro p q b (⟨_,_,j,c,h⟩|⟨_,⟨_,_,_,h⟩,_⟩) _<;>simp[hl]at h
 refine callsIn_wide.1 ((IO hS x.hf x.hc x.hn hn hgt hI (cnt:=0) (λm hm=>hm.elim) hx' (h _)).mono ?_);rintro en w' ⟨v,Z,s,r,rfl,rfl,e,g1,g2,g3,n,pr,rfl,k1,k2,k0,k3,k4,k5⟩;have hO:Z.O=U.fresh.O:=e.out;have hold:∀(b:Nat)(o:Obj),U.w.heap[b]? =some o->Z.w.heap[b]? =some o:=λb o hb=>(e.fro b o hb (λh=>h)).1
 have hnew:∀b,Z.M b->U.w.heap.size<=b:=λb hb=>by
  rcases A52 b U.w.heap.size with hh|hh
  ·exact absurd hb (e.fro _ _ (w7 hh) (λh=>h)).2
  ·exact hh
 obtain⟨a1,a2,a3,a4⟩:=g1.arr n sz true rows d k1;obtain⟨B,hB⟩:∃B:Nat->Prop,B=λb=>Owns Z s.hp (true,n) b:=⟨_,rfl⟩
 have hBM:∀b,B b->Z.M b:=λb hb=>by rw[hB]at hb;exact(Owns.M g1 hb).1
 let μ:Cf:={Z with M:=B}
 have e2:Evo Z μ:=⟨λ_ h=>⟨h,rfl⟩,λ_ _ l h=>⟨l,h,w6 _,λ_=>rfl⟩,λb _ h hM=>⟨h,λhb=>hM (hBM b hb)⟩,rfl,w6 _,SameO.refl _⟩
 let σ':Cf:=U.setArr nm (Z.ra n) (λb=>U.M b\/B b) rows.length Z.w
 have ev:Evo U σ':=Evo.setArr (.inl hnm) (λb o hb hM=>⟨hold b o hb,by
  rintro(h|h)
  ·exact hM h
  ·have:=hnew b (hBM b h);have:=(u0.1 hb).1;omega⟩) (Lk hold) e.io
 have hf:∀b,Fz μ b->Fz σ' b:=λb hb=>by have h1:=hb.2.1;rw[show μ.O=_ from hO]at h1;exact⟨by rintro(h|h);exact h1 (.inl h);exact hb.1 h,λh=>h1 (.inr h),hb.2.2⟩
 have hrows:∀b o,RepRows Z sz b o rows->RepRows σ' sz b o rows:=λb o hr=>by obtain⟨vals,v1,v2,v3,v4,v5⟩:=GS hr;exact DQ (RepL.ofPure hf (λ_ _=>rfl) _ _ (QU hro) (RepL.mono e2 _ _ v1)) v2 v3 v4
 have harr:ArrF σ' nm sz true rows:=by
  refine⟨.inr rfl,a2,λ_=>hro,?_⟩;have hra:σ'.ra nm=Z.ra n:=by simp[σ',Cf.setArr]
  rcases a4 with⟨a,a4,a5⟩|⟨b,o,cap,a4,a5,a6,a7,a8,a9⟩
  ·exact .inl ⟨a,by rw[hra];exact a4,a5⟩
  ·refine .inr ⟨b,o,cap,by rw[hra];exact a4,a5,a6,hrows b o a7,λ_=>⟨.inr ?_,(a8 rfl).2⟩,by simp⟩;rw[hB];exact .inr ⟨rfl,⟨sz,rows,d,k1⟩,o,cap,a4,a5⟩
 have hi:HInv σ' ((.a nm,.sl sz true rows d)::hpc):=by
  refine hI0.setArr ev (λx hx _=>⟨.inl hx,?_⟩) harr (λ_ b o cap h1 h2=>.inr (hnew b (hBM b ?_))) (λb hb=>?_) (Lk hold) (λb hb hn=>?_)
  ·have:=hI0.lt x hx;rw[w7 this];exact hold x _ (w7 this)
  ·rw[hB];exact .inr ⟨rfl,⟨sz,rows,d,k1⟩,o,cap,h1,h2⟩
  ·rcases hb with hb|hb
   ·exact A20 (hI0.lt b hb) (Lk hold)
   ·exact g1.lt b (hBM b hb)
  ·rcases hb with hb|hb
   ·exact absurd hb hn
   ·exact hnew b (hBM b hb)
 have hown:∀y,Rep Z (.own n rows.length) y->Rep σ' (.own nm rows.length) y:=λy hy=>by have h1:=Hb g1 k1 hy rfl;refine⟨.inr rfl,hy.2.1,λl hl'=>?_⟩;simp[σ',Cf.setArr]at hl';subst hl';exact⟨w6 _,λ_=>by rw[h1];simp[σ',Cf.setArr]⟩
 refine⟨v,σ',rfl,⟨ev,hi,rfl,λm hm=>hm⟩,?_⟩;have key:∀xs,RepL Z pr xs->RepL σ' pre xs:=λxs hxs=>by
  obtain⟨q1,q2⟩:=FL (U:=μ) (EP s.hp pr) pre xs k4;refine RepL.ofPure (U:=μ) hf (λ_ _=>rfl) _ _ (q1 k5) (q2 (Hd g1 e2 rfl (Dy pr) (λm hm b ho hb=>?_) pr xs k2 k0 (λ_ h=>h) hxs));have hb:B b:=hb;rw[hB]at hb;have:=g1.inj (true,m) (true,n) b ho hb;cases this
  exact PZ k3 hm
 cases hpr:pr with
 |nil=>
  subst hpr;have:pre=[]:=by
   cases pre with
   |nil=>rfl
   |cons y ys=>exact k4.elim
  subst this;exact hown v g3
 |cons p0 ps=>
  have hpre:∃q qs,pre=q::qs:=by
   rw[hpr]at k4;cases pre with
   |nil=>exact k4.elim
   |cons y ys=>exact⟨y,ys,rfl⟩
  obtain⟨q,qs,rfl⟩:=hpre;rw[hpr]at g3;obtain⟨xs,rfl,o1,r1⟩:=g3;obtain⟨us,zs,rfl,u1,u2⟩:=Ha r1;obtain⟨y,_,rfl,hy,rfl⟩:=u2;refine⟨_,rfl,o1,Dz (key us (by rw[hpr];exact u1)) ?_⟩;exact⟨y,[],rfl,hown y hy,rfl⟩
structure LkB(hp:Hp)(cnt:Nat)(args:List AV):Prop where
 a:∀n o,AV.box n o∈args->n.2<=cnt
 h:∀n j x,hl hp (.c n j)=some x->n.2<=cnt
def LkE(hp hp':Hp):Prop:=∀l x,hl hp l=some x->hl hp' l=some x
theorem lkb{U:Cf}{hp:Hp}{cnt:Nat}{args:List AV}{xs:List Value}(hI:HInv U hp)(hal:∀m,U.al m->m.2<=cnt)(hx:RepL U args xs):LkB hp cnt args:=by refine⟨λn o hm=>?_,λn j x h=>hal _ (hI.cel n j x h).1⟩;obtain⟨i,hi⟩:=List.getElem?_of_mem hm;obtain⟨y,_,hy⟩:=C1 hx i _ hi;exact hal _ hy.1
theorem YN{P:Program}{S:Tab}(hS:TabOK P S){f:Nat}(x:FnX P f){args vs:List AV}{r:AV}(hfl:BN r=true)(hn:args.length<=x.nt)(h:∀hb hp cnt,LkB hp cnt args->args.map (qv hp)=vs->Aq (Ctx.fn P S x.nt hb) x.c (Ba x.rv λr' s=>wk r' r/\LkE hp s.hp) ⟨BC 0 args,hp,cnt⟩):H7 P f args vs r:=by intro U hp xs gl hI hal hx hv;obtain⟨cnt,hal⟩:=hal;refine callsIn_wide.1 ((IO hS x.hf x.hc x.hn hn gl hI hal hx (h _ hp cnt (lkb hI hal hx) hv)).mono ?_);rintro en w' ⟨v,Z,s,r',rfl,rfl,e,g1,g2,g3,g4,g5⟩;obtain⟨e2,g1⟩:=g1.sub g5;have e:=e.trans e2;exact⟨v,{Z with ln:=lenOf hp,al:=U.al},rfl,rfl,⟨λn hn=>⟨hn,(e.box n hn).2⟩,e.arr,e.fro,e.out,e.sz,e.io⟩,hI.fgt g1,λm hm=>hm,Rep.ofPure (U:=Z) (σ':={Z with ln:=lenOf hp,al:=U.al}) (λ_ h=>h) (λ_ _=>rfl) r v hfl (JP r' r v g4 g3)⟩
theorem dM{P:Program}{S:Tab}(hS:TabOK P S){f:Nat}(x:FnX P f){args vs:List AV}{v:Value}(hn:args.length<=x.nt)(h:∀hb hp cnt,LkB hp cnt args->args.map (qv hp)=vs->Aq (Ctx.fn P S x.nt hb) x.c (Ej x.rv (λ_ _=>False) λv' s=>v'=v/\LkE hp s.hp) ⟨BC 0 args,hp,cnt⟩):O5 P f args vs v:=by
 intro U hp xs gl hI hal hx hv;obtain⟨cnt,hal⟩:=hal;refine callsIn_wide.1 ((Mb hS x.hf x.hc x.hn hn gl hI hal hx (h _ hp cnt (lkb hI hal hx) hv)).mono ?_);rintro en w' (⟨_,_,_,_,_,_,_,_,_,_,hF⟩|⟨v,Z,s,rfl,rfl,e,g1,g2,rfl,g5⟩)
 ·exact hF.elim
 ·obtain⟨e2,g1⟩:=g1.sub g5;have e:=e.trans e2;exact⟨{Z with ln:=lenOf hp,al:=U.al},rfl,rfl,⟨λn hn=>⟨hn,(e.box n hn).2⟩,e.arr,e.fro,e.out,e.sz,e.io⟩,hI.fgt g1,λm hm=>hm⟩
theorem Bu{P:Program}{S:Tab}{nt hb:Nat}(hS:TabOK P S)(i:Nat){rid:Nat}{ops post:List AOp}{d:Option Nat}{g:Option (Nat×Bool)}{k:AK}{Q:AE->St->Prop}{e e1:Ar}{h h1:Hp}{c:Nat}{vc:Prop}{f:Nat}{args:List AV}{fn:Func}{ac:AC}{rvs:List RV}{ntf:Nat}(hf:P.funcs[f]? =some fn)(hcf:Dj P fn=some (ac,rvs))(hnt:fn.ntmps=ntf)(hok:C0 P f)(hyo:ops[i]? =some ⟨d,g,k⟩)(hpost:ops.drop (i+1)=post)(hex:Bh S (c+1) (100*rid) (ops.take i) e h=some (vc,e1,h1))(hvc:vc)(hg:D8 e1 g=some true)(hca:EG e1 k=some (f,args))(hn:args.length<=ntf)(hbody:∀hb,Aq (Ctx.fn P S ntf hb) ac (Ej rvs (AQ S rid i d post e1 Q) λv s=>Q (.p v) ⟨e1,s.hp,s.cnt⟩) ⟨BC 0 args,h1,c+1⟩):Aq (Ctx.fd P S nt hb) (.reg rid ops) Q ⟨e,h,c⟩:=by subst hpost;exact T4 (Ctx.fd_ok hS) i hf hcf hnt hok hyo hex hvc hg hca hn hbody
def Mt(l:List (Nat×Spec))(q:Nat->List AV->List AV->Option (Prop×AV))(k:Nat->List AV->Option (Prop×(Nm->Hp)×(Nm->AV)))(o:Nat->Nat->List (List AV)->List AV->Option (Prop×List (List AV)))(y:Nat->List AV->List AV->Option (Prop×Value)):Tab:=⟨Is l,false,false,Of,Si,q,k,o,y⟩
section
variable{l:List (Nat×Spec)}{q:Nat->List AV->List AV->Option (Prop×AV)}{k:Nat->List AV->Option (Prop×(Nm->Hp)×(Nm->AV))}{o:Nat->Nat->List (List AV)->List AV->Option (Prop×List (List AV))}{y:Nat->List AV->List AV->Option (Prop×Value)}
theorem sQ:(Mt l q k o y).f=Is l:=rfl
theorem sR:(Mt l q k o y).w=false:=rfl
theorem sS:(Mt l q k o y).m=false:=rfl
theorem sU:(Mt l q k o y).e=Of:=rfl
theorem sV:(Mt l q k o y).p=Si:=rfl
theorem sW:(Mt l q k o y).q=q:=rfl
theorem sX:(Mt l q k o y).k=k:=rfl
theorem sY:(Mt l q k o y).o=o:=rfl
theorem sZ:(Mt l q k o y).y=y:=rfl
theorem Bl{P:Program}(h:TabOK P (FO l))(hq:∀f args vs vc r,q f args vs=some (vc,r)->vc->C0 P f/\H7 P f args vs r)(hk:∀f args vc ws g,k f args=some (vc,ws,g)->vc->C0 P f/\GCall P f args ws g)(ho:∀f sz rows ax vc rows',o f sz rows ax=some (vc,rows')->vc->C0 P f/\Kg P f sz rows ax rows'/\∀r∈rows',r.length=sz/\AA r=true)(hy:∀f args vs vc v,y f args vs=some (vc,v)->vc->C0 P f/\O5 P f args vs v):TabOK P (Mt l q k o y):=⟨h.f,h.e,h.p,hq,hk,hy,ho⟩
end
attribute [go_sem] sQ sR sS sU sV sW sX sY sZ
