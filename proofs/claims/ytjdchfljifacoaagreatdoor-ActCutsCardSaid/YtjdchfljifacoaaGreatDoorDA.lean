import Derived.Test.YtjdchfljifacoaaGreatDoorP9
set_option linter.all false
set_option maxRecDepth 100000
set_option maxHeartbeats 8000000
namespace Go.Proofs.YtjdchfljifacoaaGreatDoor.Am
open Go
section
attribute [local irreducible] Aq BD Bv A8 Bq Ba AQ Bw By Ck
@[go_sem] theorem Ad6(a b:Int):(some a=some b)=(a=b):=by simp
def Ij:List (List AV):=[[.i 1,.agg [.clo (.func 94) [] [],.clo (.func 95) [] [],.clo (.func 97) [] [],.clo (.func 99) [] [],.clo (.func 100) [] []]],[.i 2,.agg [.clo (.func 103) [] [],.clo (.func 105) [] [],.clo (.func 106) [] [],.clo (.func 109) [] [],.clo (.func 113) [] []]],[.i 3,.agg [.clo (.func 114) [] [],.clo (.func 115) [] [],.clo (.func 116) [] [],.v .nilFunc,.clo (.func 118) [] []]],[.i 4,.agg [.clo (.func 119) [] [],.clo (.func 120) [] [],.clo (.func 121) [] [],.clo (.func 123) [] [],.clo (.func 124) [] []]]]
def Ik:List (List AV):=[[.i 5,.agg [.clo (.func 128) [] [],.clo (.func 129) [] [],.clo (.func 130) [] [],.v .nilFunc,.clo (.func 134) [] []]],[.i 6,.agg [.clo (.func 125) [] [],.clo (.func 126) [] [],.clo (.func 135) [] [],.clo (.func 137) [] [],.clo (.func 127) [] []]],[.i 7,.agg [.clo (.func 125) [] [],.clo (.func 126) [] [],.clo (.func 138) [] [],.clo (.func 139) [] [],.clo (.func 127) [] []]]]
theorem nG:GCall Tryz.prog 72 [] (λn=>[(.c n 0,Mx Ij)]) .mp:=by
 have hS:=Ae (P:=Tryz.prog);refine Sl hS x72 (A01 rfl) λhb=>?_
 have F:=f0;dsimp only[x72,Ad];refine go hS F ?_;exact Gr (ev F) (ev F) ⟨(100,2),rfl,by simp only[go_sem,seval,Ij]⟩
theorem nH:GCall Tryz.prog 73 [] (λn=>[(.c n 0,Mx Ik)]) .mp:=by
 have hS:=Ae (P:=Tryz.prog);refine Sl hS x73 (A01 rfl) λhb=>?_
 have F:=f0;dsimp only[x73,Ad];refine go hS F ?_;exact Gr (ev F) (ev F) ⟨(400,5),rfl,by simp only[go_sem,seval,Ik]⟩
def kF(N:Nat):Nat->List AV->Option (Prop×(Nm->Hp)×(Nm->AV)):=λf args=>if f=72 then(match args with|[]=>some (True,λn=>[(.c n 0,Mx Ij)],.mp)|_=>none)else if f=73 then(match args with|[]=>some (True,λn=>[(.c n 0,Mx Ik)],.mp)|_=>none)
 else if f=45 then(match args with
  |[.agg [.sl y _ s _,.sl y2 _ s2 _]]=>match Fk N (s.map BH)with|some r=>some ((((y=6\/s=[])/\F3 s ((s.map BH).map Ap))/\((y2=5\/s2=[])/\s2=(s2.map Eo).map BW))/\(s2.map Eo).length*40<=140737488355328,λn=>[(.a n,EK (s2.map Eo))],λn=>.agg [Ao r,.own n (s2.map Eo).length])|none=>none
  |_=>none)
 else LA f args
theorem Cq(N:Nat):∀f args vc ws g,kF N f args=some (vc,ws,g)->vc->C0 Tryz.prog f/\GCall Tryz.prog f args ws g:=by
 intro f args vc ws g h hv;unfold kF at h;split at h
 ·rename_i hf;subst hf;split at h
  ·simp only[yE,A57]at h;obtain⟨rfl,rfl,rfl⟩:=h;exact⟨x72.ok,nG⟩
  ·cases h
 ·split at h
  ·rename_i hf;subst hf;split at h
   ·simp only[yE,A57]at h;obtain⟨rfl,rfl,rfl⟩:=h;exact⟨x73.ok,nH⟩
   ·cases h
  ·split at h
   ·rename_i hf;subst hf;split at h
    ·rename_i y fl s d y2 fl2 s2 d2;split at h
     ·rename_i r hr;simp only[yE,A57]at h;obtain⟨rfl,rfl,rfl⟩:=h;obtain⟨⟨⟨h1,h2⟩,h4,h5⟩,h3⟩:=hv;refine⟨x45.ok,GCall.argD (show GH _ [.agg [Ao _,Bj _]]from⟨⟨⟨h2,h1,λh=>by cases h⟩,⟨?_,h4,λh=>by cases h⟩,trivial⟩,trivial⟩) (eB N _ r _ hr h3)⟩;rw[<-h5];exact JM _
     ·cases h
    ·cases h
   ·exact Ur f args vc ws g h hv
def Ov:Value:=.iface 108 (.agg #[])
def qU(N:Nat):Nat->List AV->List AV->Option (Prop×AV):=λf args vs=>if f=112 then(match args,vs with
 |[.box _ 0,.v (.int .i64 _)],[.agg (.sl y _ s _::_),.v (.int .i64 id)]=>match BV N (s.map BH) id with|some (u,true)=>some ((y=6\/s=[])/\F3 s ((s.map BH).map Ap),.agg (Ap u))|_=>none
 |_,_=>none)else none
def yU(N:Nat):Nat->List AV->List AV->Option (Prop×Value):=λf args vs=>if f=112 then(match args,vs with
 |[.box _ 0,.v (.int .i64 _)],[.agg (.sl y _ s _::_),.v (.int .i64 id)]=>match BV N (s.map BH) id with|some (_,false)=>some ((y=6\/s=[])/\F3 s ((s.map BH).map Ap),Ov)|_=>none
 |_,_=>none)else none
theorem Wx{hp:Hp}{n:Nm}{c:AV}{cs:List AV}(hc:∃z f r d,c=.sl z f r d)(h:qv hp (.box n 0)=.agg (c::cs)):hl hp (.c n 0)=some c:=by
 obtain⟨z,f,r,d,rfl⟩:=hc;simp only[qv,AV.agg.injEq]at h;cases hb:CF hp n 0 40 with
 |nil=>rw[hb]at h;cases h
 |cons x xs=>
  rw[hb]at h;simp only[w5,List.cons.injEq]at h;have hx:=HD 40 0 0 x (by rw[hb];rfl);rw[A43]at hx;rw[hx.1];congr 1;have h1:=h.1;cases x with
  |mp m=>simp only[I3]at h1;split at h1<;>cases h1
  |_=>simp only[I3]at h1;first|exact h1|cases h1
theorem LkE.c{hp hp':Hp}{cnt:Nat}{args:List AV}(hL:LkB hp cnt args){n:Nm}{j:Nat}{x:AV}(hn:cnt<n.2)(h:LkE hp hp'):LkE hp ((.c n j,x)::hp'):=λl y hy=>by
 rw[hl,t7 λe=>?_]
 ·exact h l y hy
 ·subst e;have:=hL.h n j y hy;omega
section
variable(N:Nat){n:Nm}{id:Int}{y:Nat}{fl:Bool}{s:List (List AV)}{d:List AV}
theorem vO{u:Un}{rest:List AV}(hy:y=6\/s=[])(hw:F3 s ((s.map BH).map Ap))(hu:BV N (s.map BH) id=some (u,true)):H7 Tryz.prog 112 [.box n 0,.i id] [.agg (.sl y fl s d::rest),.i id] (.agg (Ap u)):=by
 have hS:=Aa (S4 N)<|Ae
 refine YN hS x112 rfl (A01 rfl) λhb hp cnt hL hv=>?_
 obtain⟨n1,n2⟩:=n;simp only[w5,A22,List.cons.injEq,and_true]at hv;have h0:=Wx ⟨_,_,_,_,rfl⟩ hv.1;have hn:=hL.a (n1,n2) 0 (by simp);have F:=fc (show(y=6\/s=[])=True from eq_true hy) (fc (show F3 s ((s.map BH).map Ap)=True from eq_true hw) (fc h0 (fc hu (fc (show(cnt+1=n2)=False by simp at hn⊢;omega) (fc (show(cnt+1+1=n2)=False by simp at hn⊢;omega) (fc (show(cnt+1+1+1=n2)=False by simp at hn⊢;omega) f0))))));dsimp only[x112,Ad];refine go hS F ?_;refine C3 hS 1 x50.hf x50.hc x50.hn x50.ok rfl (ev F) (ev F) ?_ rfl (ev F) (A01 rfl) λhb=>?_
 ·exact AS hS F
 dsimp only[x50,Ad];refine go hS F ?_;refine cf F ?_;refine go hS F ?_;exact Gr (ev F) (ev F) ⟨by simp only[go_sem,seval],by repeat' first|exact λ_ _ h=>h|refine LkE.c hL (by simp only;omega) ?_⟩
theorem vP{u:Un}{rest:List AV}(hy:y=6\/s=[])(hw:F3 s ((s.map BH).map Ap))(hu:BV N (s.map BH) id=some (u,false)):O5 Tryz.prog 112 [.box n 0,.i id] [.agg (.sl y fl s d::rest),.i id] Ov:=by
 have hS:=Aa (S4 N)<|Ae
 refine dM hS x112 (A01 rfl) λhb hp cnt hL hv=>?_
 obtain⟨n1,n2⟩:=n;simp only[w5,A22,List.cons.injEq,and_true]at hv;have h0:=Wx ⟨_,_,_,_,rfl⟩ hv.1;have hn:=hL.a (n1,n2) 0 (by simp);have F:=fc (show(y=6\/s=[])=True from eq_true hy) (fc (show F3 s ((s.map BH).map Ap)=True from eq_true hw) (fc h0 (fc hu (fc (show(cnt+1=n2)=False by simp at hn⊢;omega) (fc (show(cnt+1+1=n2)=False by simp at hn⊢;omega) (fc (show(cnt+1+1+1=n2)=False by simp at hn⊢;omega) f0))))));dsimp only[x112,Ad];refine go hS F ?_;refine AM hS 1 x50.hf x50.hc x50.hn x50.ok rfl (ev F) (ev F) ?_ rfl (ev F) (A01 rfl) λhb=>?_
 ·exact AS hS F
 dsimp only[x50,Ad];refine go hS F ?_;refine ct F ?_;refine go hS F ?_;refine A1 (Ctx.fn_ok hS) 2 rfl rfl (ev F) (ev F) (ev F) ?_
 repeat' (first|with_reducible (first|apply AT|apply AU|apply A2|apply AD|apply Bi)|((with_reducible apply AO);(·simp)))
 exact⟨rfl,by repeat' first|exact λ_ _ h=>h|refine LkE.c hL (by simp only;omega) ?_⟩
end
theorem Kk(N:Nat):∀f args vs vc r,qU N f args vs=some (vc,r)->vc->C0 Tryz.prog f/\H7 Tryz.prog f args vs r:=by
 intro f args vs vc r h hv;unfold qU at h;split at h
 ·rename_i hf;subst hf;split at h
  ·rename_i n i y fl s d rest id;split at h
   ·rename_i u hu;cases h
    refine⟨x112.ok,λU hp xs gl hI hal hx hvs=>?_⟩;have hii:i=id:=by simp only[w5,A22,qv,List.cons.injEq,and_true,AV.v.injEq,Value.int.injEq,true_and]at hvs;exact hvs.2
    subst hii;exact vO N hv.1 hv.2 hu U hp xs gl hI hal hx hvs
   ·cases h
  ·cases h
 ·cases h
theorem Gy(N:Nat):∀f args vs vc v,yU N f args vs=some (vc,v)->vc->C0 Tryz.prog f/\O5 Tryz.prog f args vs v:=by
 intro f args vs vc r h hv;unfold yU at h;split at h
 ·rename_i hf;subst hf;split at h
  ·rename_i n i y fl s d rest id;split at h
   ·rename_i u hu;cases h
    refine⟨x112.ok,λU hp xs gl hI hal hx hvs=>?_⟩;have hii:i=id:=by simp only[w5,A22,qv,List.cons.injEq,and_true,AV.v.injEq,Value.int.injEq,true_and]at hvs;exact hvs.2
    subst hii;exact vP N hv.1 hv.2 hu U hp xs gl hI hal hx hvs
   ·cases h
  ·cases h
 ·cases h
def oI:Nat->Nat->List (List AV)->List AV->Option (Prop×List (List AV)):=λf sz rows ax=>if f=133 then(match ax with|[.v (.int .i64 k),.sl 5 false [[.v (.int .i64 a),.v (.int .i64 b),.v (.int .i64 c),.v (.int .i64 g),.v (.bool o)]] _]=>some (sz=5/\rows=(rows.map Eo).map BW/\(0<=k/\k<=rows.length)/\(rows.length+1)*40<=140737488355328,rows.take k.toNat++[[.i a,.i b,.i c,.i g,.b o]]++rows.drop k.toNat)|_=>none)else none
theorem Gz:∀f sz rows ax vc rows',oI f sz rows ax=some (vc,rows')->vc->C0 Tryz.prog f/\Kg Tryz.prog f sz rows ax rows'/\∀r∈rows',r.length=sz/\AA r=true:=by
 intro f sz rows ax vc rows' h hv;unfold oI at h;split at h
 ·rename_i hf;subst hf;split at h
  ·rename_i k a b c g o d;cases h
   obtain⟨rfl,hr,hk,hl⟩:=hv;have hrow:∀r∈rows,r.length=5/\AA r=true:=λr h=>by rw[hr]at h;obtain⟨x,_,rfl⟩:=List.mem_map.1 h;exact⟨rfl,rfl⟩
   obtain⟨k,rfl⟩:=Int.eq_ofNat_of_zero_le hk.1;refine⟨⟨_,Tryz.func133,by kernel_rfl,by kernel_rfl⟩,RG .m (by omega) hl λr h=>(hrow r h).1,λr h=>?_⟩;rcases y7.1 h with h|h
   ·rcases y7.1 h with h|h
    ·exact hrow r (List.mem_of_mem_take h)
    ·rw[A26.1 h];exact⟨rfl,rfl⟩
   ·exact hrow r (List.mem_of_mem_drop h)
  ·cases h
 ·cases h
end
section
attribute [local irreducible] Aq BD Bv A8 Bq Ba AQ Bw By Ck
attribute [local go_sem] kF LA Ij Ik
def Eu(N:Nat)(a2:Int)(a3:Int)(a4:Int)(a5:List (Int×Int))(a6:Int)(a7:Int)(a8:Int)(a9:Int)(i9:Int)(d6:Int)(d5:Int)(dh:Int)(cu:Int)(cr:Bool):Option Bool:=(ID N 1 a2 a3 a4 a5 a6 a7 a8 a9 i9 d6 d5 dh cu cr).bind λeh=>some (eh&&(decide (d6=0)&&(decide (d5=0)&&(decide (dh=0)&&(decide (cu=0)&&(cr==false))))))
@[go_sem] def vQ(N:Nat):Spec:=p0<|(qG<|qC 1<|qI<|qI<|qI<|qS Aj<|qI<|qI<|qI<|qI<|qI<|qI<|qI<|qI<|qI<|qB<|qE<|qE<|qF false λr=>.tup [.agg [.clo (.func 94) [] [],.clo (.func 95) [] [],.clo (.func 97) [] [],.clo (.func 99) [] [],.clo (.func 100) [] []],.b r]) (Eu N)
theorem LB(N:Nat):Au Tryz.prog 44 (vQ N):=by refine fk (wX x44 (Bl (Aa (vE N)<|Ae) Dt (Cq N) Du Dv)) ?_;intro a2 a3 a4 a5 a6 a7 a8 a9 i9 d6 d5 dh cu cr r h _ hS F;dsimp only[x44,Ad,Aj];unfold Eu at h;refine Jg hS F ?_;obtain⟨eh,bl,h⟩:=un h;exact Ah hS (fc bl F) h
def Ew(N:Nat)(i8:Int)(i7:Int)(i6:Int)(i5:List (Int×Int))(i4:Int)(iz:Int)(iy:Int)(iw:Int)(iv:Int)(cq:Int)(co:Int)(cn:Int)(ck:Int)(cj:Bool):Option Bool:=(IE N 2 i8 i7 i6 i5 i4 iz iy iw iv cq co cn ck cj).bind λee=>some (ee&&(decide (cq=0)&&(decide (co=0)&&(decide (cn=0)&&(decide (ck=0)&&(cj==false))))))
@[go_sem] def vR(N:Nat):Spec:=p0<|(qG<|qC 2<|qI<|qI<|qI<|qS Aj<|qI<|qI<|qI<|qI<|qI<|qI<|qI<|qI<|qI<|qB<|qE<|qE<|qF false λr=>.tup [.agg [.clo (.func 103) [] [],.clo (.func 105) [] [],.clo (.func 106) [] [],.clo (.func 109) [] [],.clo (.func 113) [] []],.b r]) (Ew N)
theorem LC(N:Nat):Au Tryz.prog 44 (vR N):=by refine fk (wX x44 (Bl (Aa (vG N)<|Ae) Dt (Cq N) Du Dv)) ?_;intro i8 i7 i6 i5 i4 iz iy iw iv cq co cn ck cj r h _ hS F;dsimp only[x44,Ad,Aj];unfold Ew at h;refine Jg hS F ?_;obtain⟨ee,bj,h⟩:=un h;exact Ah hS (fc bj F) h
def Ex(N:Nat)(iq:Int)(ip:Int)(im:Int)(ij:List (Int×Int))(ii:Int)(ig:Int)(ic:Int)(ib:Int)(g9:Int)(ci:Int)(ce:Int)(b9:Int)(b7:Int)(bz:Bool):Option Bool:=(Ih N 3 iq ip im ij ii ig ic ib g9 ci ce b9 b7 bz).bind λd9=>some (d9&&(decide (ci=0)&&(decide (ce=0)&&(decide (b9=0)&&(decide (b7=0)&&(bz==false))))))
@[go_sem] def vS(N:Nat):Spec:=p0<|(qG<|qC 3<|qI<|qI<|qI<|qS Aj<|qI<|qI<|qI<|qI<|qI<|qI<|qI<|qI<|qI<|qB<|qE<|qE<|qF false λr=>.tup [.agg [.clo (.func 114) [] [],.clo (.func 115) [] [],.clo (.func 116) [] [],.v .nilFunc,.clo (.func 118) [] []],.b r]) (Ex N)
theorem LD(N:Nat):Au Tryz.prog 44 (vS N):=by refine fk (wX x44 (Bl (Aa (vI N)<|Ae) Dt (Cq N) Du Dv)) ?_;intro iq ip im ij ii ig ic ib g9 ci ce b9 b7 bz r h _ hS F;dsimp only[x44,Ad,Aj];unfold Ex at h;refine Jg hS F ?_;obtain⟨d9,bi,h⟩:=un h;exact Ah hS (fc bi F) h
def Ey(N:Nat)(g8:Int)(gz:Int)(gy:Int)(gx:List (Int×Int))(gw:Int)(gu:Int)(gt:Int)(gr:Int)(gm:Int)(bw:Int)(bv:Int)(bu:Int)(br:Int)(bq:Bool):Option Bool:=(Ii N 4 g8 gz gy gx gw gu gt gr gm bw bv bu br bq).bind λd8=>some (d8&&(decide (bw=0)&&(decide (bv=0)&&(decide (bu=0)&&(decide (br=0)&&(bq==false))))))
@[go_sem] def vT(N:Nat):Spec:=p0<|(qG<|qC 4<|qI<|qI<|qI<|qS Aj<|qI<|qI<|qI<|qI<|qI<|qI<|qI<|qI<|qI<|qB<|qE<|qE<|qF false λr=>.tup [.agg [.clo (.func 119) [] [],.clo (.func 120) [] [],.clo (.func 121) [] [],.clo (.func 123) [] [],.clo (.func 124) [] []],.b r]) (Ey N)
theorem LE(N:Nat):Au Tryz.prog 44 (vT N):=by refine fk (wX x44 (Bl (Aa (vK N)<|Ae) Dt (Cq N) Du Dv)) ?_;intro g8 gz gy gx gw gu gt gr gm bw bv bu br bq r h _ hS F;dsimp only[x44,Ad,Aj];unfold Ey at h;refine Jg hS F ?_;obtain⟨d8,bh,h⟩:=un h;exact Ah hS (fc bh F) h
def Ez(N:Nat)(gj:Int)(gi:Int)(gh:Int)(gg:List (Int×Int))(ge:Int)(gc:Int)(fy:Int)(fx:Int)(fr:Int)(fq:Int)(fp:Int)(fo:Int)(fm:Int)(fj:Bool):Option Bool:=(IG N 5 gj gi gh gg ge gc fy fx fr fq fp fo fm fj).bind λd7=>some (d7||false)
@[go_sem] def vU(N:Nat):Spec:=p0<|(qG<|qC 5<|qI<|qI<|qI<|qS Aj<|qI<|qI<|qI<|qI<|qI<|qI<|qI<|qI<|qI<|qB<|qE<|qE<|qF false λr=>.tup [.agg [.clo (.func 128) [] [],.clo (.func 129) [] [],.clo (.func 130) [] [],.v .nilFunc,.clo (.func 134) [] []],.b r]) (Ez N)
theorem LF(N:Nat):Au Tryz.prog 44 (vU N):=by refine fk (wX x44 (Bl (Aa (vM N)<|Ae) Dt (Cq N) Du Dv)) ?_;intro gj gi gh gg ge gc fy fx fr fq fp fo fm fj r h _ hS F;dsimp only[x44,Ad,Aj];unfold Ez at h;refine Gn hS F ?_;obtain⟨d7,bg,h⟩:=un h;exact Ah hS (fc bg F) h
def EA(N:Nat)(fh:Int)(fg:Int)(e9:Int)(e8:List (Int×Int))(ez:Int)(eu:Int)(ep:Int)(el:Int)(ej:Int)(bp:Int)(bo:Int)(bn:Int)(bm:Int)(aj:Bool):Option Bool:=(Gg N 6 fh fg e9 e8 ez eu ep el ej bp bo bn bm aj).bind λam=>some (am&&(decide (bp=0)&&(decide (bo=0)&&(decide (bn=0)&&(decide (bm=0)&&(aj==false))))))
@[go_sem] def vV(N:Nat):Spec:=p0<|(qG<|qC 6<|qI<|qI<|qI<|qS Aj<|qI<|qI<|qI<|qI<|qI<|qI<|qI<|qI<|qI<|qB<|qE<|qE<|qF false λr=>.tup [.agg [.clo (.func 125) [] [],.clo (.func 126) [] [],.clo (.func 135) [] [],.clo (.func 137) [] [],.clo (.func 127) [] []],.b r]) (EA N)
theorem LG(N:Nat):Au Tryz.prog 44 (vV N):=by refine fk (wX x44 (Bl (Aa (Zn N)<|Ae) Dt (Cq N) Du Dv)) ?_;intro fh fg e9 e8 ez eu ep el ej bp bo bn bm aj r h _ hS F;dsimp only[x44,Ad,Aj];unfold EA at h;refine Gn hS F ?_;obtain⟨am,aq,h⟩:=un h;exact Ah hS (fc aq F) h
def EB(N:Nat)(bf:Int)(be:Int)(bb:Int)(ba:List (Int×Int))(az:Int)(ay:Int)(aw:Int)(av:Int)(au:Int)(ai:Int)(ah:Int)(af:Int)(ae:Int)(ab:Bool):Option Bool:=(Gg N 7 bf be bb ba az ay aw av au ai ah af ae ab).bind λak=>some (ak&&(decide (ai=0)&&(decide (ah=0)&&(decide (af=0)&&(decide (ae=0)&&(ab==false))))))
@[go_sem] def vW(N:Nat):Spec:=p0<|(qG<|qC 7<|qI<|qI<|qI<|qS Aj<|qI<|qI<|qI<|qI<|qI<|qI<|qI<|qI<|qI<|qB<|qE<|qE<|qF false λr=>.tup [.agg [.clo (.func 125) [] [],.clo (.func 126) [] [],.clo (.func 138) [] [],.clo (.func 139) [] [],.clo (.func 127) [] []],.b r]) (EB N)
theorem LH(N:Nat):Au Tryz.prog 44 (vW N):=by refine fk (wX x44 (Bl (Aa (Zn N)<|Ae) Dt (Cq N) Du Dv)) ?_;intro bf be bb ba az ay aw av au ai ah af ae ab r h _ hS F;dsimp only[x44,Ad,Aj];unfold EB at h;refine Gn hS F ?_;obtain⟨ak,an,h⟩:=un h;exact Ah hS (fc an F) h
def EC(N:Nat)(aa:Int)(dz:Int)(dy:Int)(dx:Int)(dw:List (Int×Int))(du:Int)(dt:Int)(dq:Int)(dm:Int)(dl:Int)(dg:Int)(de:Int)(db:Int)(da:Int)(cy:Bool):Option Bool:=gd (((1:Int)=aa)=False)<|gd (((2:Int)=aa)=False)<|gd (((3:Int)=aa)=False)<|gd (((4:Int)=aa)=False)<|gd (((5:Int)=aa)=False)<|gd (((6:Int)=aa)=False)<|gd (((7:Int)=aa)=False)<|some false
@[go_sem] def vX(N:Nat):Spec:=p0<|(qG<|qI<|qI<|qI<|qI<|qS Aj<|qI<|qI<|qI<|qI<|qI<|qI<|qI<|qI<|qI<|qB<|qE<|qE<|qF false λr=>.tup [.agg [.v .nilFunc,.v .nilFunc,.v .nilFunc,.v .nilFunc,.v .nilFunc],.b r]) (EC N)
theorem LI(N:Nat):Au Tryz.prog 44 (vX N):=by refine fk (wX x44 (Bl (Ae) Dt (Cq N) Du Dv)) ?_;intro aa dz dy dx dw du dt dq dm dl dg de db da cy r h _ hS F;dsimp only[x44,Ad,Aj];unfold EC at h;obtain⟨jg,jf,je,jd,h⟩:=un h;replace F:=fc jd (fc je (fc jf (fc jg F)));refine Gn hS F ?_;obtain⟨jc,jb,ja,h⟩:=un h;exact Ah hS (fc ja (fc jb (fc jc F))) h
end
section
attribute [local irreducible] Aq BD Bv A8 Bq Ba AQ Bw By Ck
def Cl(N:Nat)(m1:Int)(m2:Int)(m3:Int)(m4:Int)(m5:Bool)(x6:Int):Option Bool:=some (decide (m2=x6))
@[go_sem] def AcH(N:Nat):Spec:=p0<|(qG<|qI<|qI<|qI<|qI<|qB<|qE<|qO<|qI<|qE<|qE<|qF false .b) (Cl N)
theorem Us(N:Nat):Au Tryz.prog 152 (AcH N):=by refine fk (wX uF (Ae)) ?_;intro m1 m2 m3 m4 m5 x6 r h _ hS F;dsimp only[uF,Ad];unfold Cl at h;exact Ah hS F h
def FK(N:Nat)(m7:Int)(m8:Int)(m9:Int)(fo:Int)(fm:Bool)(Sn:Int):Option Bool:=some (decide (m7=Sn))
@[go_sem] def AcI(N:Nat):Spec:=p0<|(qG<|qI<|qI<|qI<|qI<|qB<|qE<|qO<|qI<|qE<|qE<|qF false .b) (FK N)
theorem vY(N:Nat):Au Tryz.prog 159 (AcI N):=by refine fk (wX uI (Ae)) ?_;intro m7 m8 m9 fo fm Sn r h _ hS F;dsimp only[uI,Ad];unfold FK at h;exact Ah hS F h
def Jq(N:Nat)(fj:Int)(d7:Int)(fh:Int)(fg:Int)(e9:Bool)(iT:Int)(iU:Int)(x20:Int)(iV:Int)(iW:List (Int×Int))(T6:Int)(T7:Int)(YP:Int)(So:Int)(iX:Int)(Sp:Int)(Sq:Int)(Sr:Int)(K2:Int)(Ss:Bool):Option Bool:=some (decide (d7=YP))
@[go_sem] def AcJ(N:Nat):Spec:=p0<|(qG<|qI<|qI<|qI<|qI<|qB<|qE<|qO<|qI<|qI<|qI<|qI<|qR Aj<|qI<|qI<|qI<|qI<|qI<|qI<|qI<|qI<|qI<|qB<|qE<|qE<|qF false .b) (Jq N)
theorem vZ(N:Nat):Au Tryz.prog 111 (AcJ N):=by refine fk (wX tI (Ae)) ?_;intro fj d7 fh fg e9 iT iU x20 iV iW T6 T7 YP So iX Sp Sq Sr K2 Ss r h _ hS F;dsimp only[tI,Ad,Aj];unfold Jq at h;exact Ah hS F h
def EY(N:Nat)(d6:Int)(e8:Int)(ez:Int)(eu:Int)(ep:Bool)(bp:Int):Option Int:=(DM N d6 bp).bind λd5=>some d5
@[go_sem] def AcK(N:Nat):Spec:=p0<|(qG<|qI<|qI<|qI<|qI<|qB<|qE<|qI<|qE<|qF 0 .i) (EY N)
theorem wA(N:Nat):Au Tryz.prog 132 (AcK N):=by refine fk (wX tW (Aa (Uh N)<|Ae)) ?_;intro d6 e8 ez eu ep bp r h _ hS F;dsimp only[tW,Ad];unfold EY at h;obtain⟨d5,du,h⟩:=un h;exact Ah hS (fc du F) h
def AY(N:Nat)(s41:List (Int×Int×Int×Int×Bool))(bi:Int):Nat->Int->Option (Sum Unit Int)|0,_=>none|n+1,PB=>bif decide (PB<(s41.length:Int))then((Bz s41 PB).bind λ(YW,YX,PC,PD,PE)=>(Cl N YW YX PC PD PE bi).bind λdz=>bif dz then(some (.inr PB))else(gd (Ai (PB+1))<|AY N s41 bi n (PB+1)))else(some (.inl ()))
def Be(N:Nat)(s41:List (Int×Int×Int×Int×Bool))(bi:Int):Option Int:=(AY N s41 bi N 0).bind λdh=>match dh with|.inl ()=>(some (-1))|.inr el=>(some el)
@[go_sem] def Zp(N:Nat):Spec:=p0<|(qS Az<|qL 152<|qO<|qI<|qE<|qE<|qE<|qF 0 .i) (Be N)
theorem PG(N:Nat):Au Tryz.prog 153 (Zp N):=by
 refine fk (wX RB (Aa (Us N)<|Ae)) ?_;intro s41 bi r h _ hS F;dsimp only[RB,Ad,Az];unfold Be at h;obtain⟨dh,ay,h⟩:=un h;refine go hS F ?_;refine BU dh (λz:Nat=>⟨[],[],z⟩) (λz=>(.inl ():Sum Unit Int)) (.x 0) ?_ ?_
 ·refine BO (λn (y:Int×Nat)=>AY N s41 bi n y.1) (λy=>⟨[(0,Bj s41),(1,.clo (.func 152) [] [.ro [.i bi] 0]),(7,.i (s41.length:Int)),(8,.i y.1)],[],y.2⟩) (0,2) ay (CB F) ?_;rintro n ⟨PB,eh⟩ ab;simp only[AY]at ab;refine An hS F ab (λ_ ab=>?_) (λ_ ab=>?_)
  ·obtain⟨⟨YW,YX,PC,PD,PE⟩,dx,ab⟩:=un ab;obtain⟨fx,F⟩:=CH BW dx F;obtain⟨dz,dt,ab⟩:=un ab;replace F:=fc dt F;refine An hS F ab (λ_ ab=>?_) (λ_ ab=>?_)
   ·obtain rfl:=yJ ab;exact Ah hS F h
   ·obtain⟨dm,ab⟩:=un ab;exact CS hS F (n,PB+1,eh+1+1+1+1) ab
  ·exact Cu hS F (eh+1) ab
 ·rintro gh rfl;exact Ah hS F h
def AZ(N:Nat)(s67:List (Int×Int×Int×Int×Bool))(bh:Int):Nat->Int->Option (Sum Unit Int)|0,_=>none|n+1,x79=>bif decide (x79<(s67.length:Int))then((Bz s67 x79).bind λ(YZ,Y0,Su,x83,Sv)=>(FK N YZ Y0 Su x83 Sv bh).bind λdy=>bif dy then(some (.inr x79))else(gd (Ai (x79+1))<|AZ N s67 bh n (x79+1)))else(some (.inl ()))
def Bf(N:Nat)(s67:List (Int×Int×Int×Int×Bool))(bh:Int):Option Int:=(AZ N s67 bh N 0).bind λdg=>match dg with|.inl ()=>(some (-1))|.inr ej=>(some ej)
@[go_sem] def Zq(N:Nat):Spec:=p0<|(qS Az<|qL 159<|qO<|qI<|qE<|qE<|qE<|qF 0 .i) (Bf N)
theorem PH(N:Nat):Au Tryz.prog 153 (Zq N):=by
 refine fk (wX RB (Aa (vY N)<|Ae)) ?_;intro s67 bh r h _ hS F;dsimp only[RB,Ad,Az];unfold Bf at h;obtain⟨dg,ay,h⟩:=un h;refine go hS F ?_;refine BU dg (λz:Nat=>⟨[],[],z⟩) (λz=>(.inl ():Sum Unit Int)) (.x 0) ?_ ?_
 ·refine BO (λn (y:Int×Nat)=>AZ N s67 bh n y.1) (λy=>⟨[(0,Bj s67),(1,.clo (.func 159) [] [.ro [.i bh] 0]),(7,.i (s67.length:Int)),(8,.i y.1)],[],y.2⟩) (0,2) ay (CB F) ?_;rintro n ⟨x79,ee⟩ ab;simp only[AZ]at ab;refine An hS F ab (λ_ ab=>?_) (λ_ ab=>?_)
  ·obtain⟨⟨YZ,Y0,Su,x83,Sv⟩,dw,ab⟩:=un ab;obtain⟨fr,F⟩:=CH BW dw F;obtain⟨dy,dq,ab⟩:=un ab;replace F:=fc dq F;refine An hS F ab (λ_ ab=>?_) (λ_ ab=>?_)
   ·obtain rfl:=yJ ab;exact Ah hS F h
   ·obtain⟨dm,ab⟩:=un ab;exact CS hS F (n,x79+1,ee+1+1+1+1) ab
  ·exact Cu hS F (ee+1) ab
 ·rintro gg rfl;exact Ah hS F h
def Ch(N:Nat)(s93:List (Int×Int×Int×Int×Bool))(bg:Int)(bf:Int)(be:Int)(bb:Int)(ba:List (Int×Int))(az:Int)(av:Int)(au:Int)(aq:Int)(an:Int)(am:Int)(ak:Int)(aj:Int)(ai:Int)(ah:Bool):Nat->Int->Option (Sum Unit Int)|0,_=>none|n+1,JR=>bif decide (JR<(s93.length:Int))then((Bz s93 JR).bind λ(Oi,x121,Oj,x123,Ue)=>(Jq N Oi x121 Oj x123 Ue bg bf be bb ba az av au aq an am ak aj ai ah).bind λbo=>bif bo then(some (.inr JR))else(gd (Ai (JR+1))<|Ch N s93 bg bf be bb ba az av au aq an am ak aj ai ah n (JR+1)))else(some (.inl ()))
def Dq(N:Nat)(s93:List (Int×Int×Int×Int×Bool))(bg:Int)(bf:Int)(be:Int)(bb:Int)(ba:List (Int×Int))(az:Int)(av:Int)(au:Int)(aq:Int)(an:Int)(am:Int)(ak:Int)(aj:Int)(ai:Int)(ah:Bool):Option Int:=(Ch N s93 bg bf be bb ba az av au aq an am ak aj ai ah N 0).bind λaw=>match aw with|.inl ()=>(some (-1))|.inr de=>(some de)
@[go_sem] def Zr(N:Nat):Spec:=p0<|(qS Az<|qL 111<|qO<|qI<|qI<|qI<|qI<|qR Aj<|qI<|qI<|qI<|qI<|qI<|qI<|qI<|qI<|qI<|qB<|qE<|qE<|qE<|qF 0 .i) (Dq N)
theorem Vy(N:Nat):Au Tryz.prog 153 (Zr N):=by
 refine fk (wX RB (Aa (vZ N)<|Ae)) ?_;intro s93 bg bf be bb ba az av au aq an am ak aj ai ah r h _ hS F;dsimp only[RB,Ad,Aj,Az];unfold Dq at h;obtain⟨aw,ay,h⟩:=un h;refine go hS F ?_;refine BU aw (λz:Nat=>⟨[],[],z⟩) (λz=>(.inl ():Sum Unit Int)) (.x 0) ?_ ?_
 ·refine BO (λn (y:Int×Nat)=>Ch N s93 bg bf be bb ba az av au aq an am ak aj ai ah n y.1) (λy=>⟨[(0,Bj s93),(1,.clo (.func 111) [] [.ro [.i bg,.i bf,.i be,.i bb,BK ba,.i az,.i av,.i au,.i aq,.i an,.i am,.i ak,.i aj,.i ai,.b ah] 0]),(7,.i (s93.length:Int)),(8,.i y.1)],[],y.2⟩) (0,2) ay (CB F) ?_;rintro n ⟨JR,db⟩ ab;simp only[Ch]at ab;refine An hS F ab (λ_ ab=>?_) (λ_ ab=>?_)
  ·obtain⟨⟨Oi,x121,Oj,x123,Ue⟩,bw,ab⟩:=un ab;obtain⟨d9,F⟩:=CH BW bw F;obtain⟨bo,bu,ab⟩:=un ab;replace F:=fc bu F;refine An hS F ab (λ_ ab=>?_) (λ_ ab=>?_)
   ·obtain rfl:=yJ ab;exact Ah hS F h
   ·obtain⟨dm,ab⟩:=un ab;exact CS hS F (n,JR+1,db+1+1+1+1) ab
  ·exact Cu hS F (db+1) ab
 ·rintro gc rfl;exact Ah hS F h
def Ci(N:Nat)(bl:List (Int×Int×Int×Int×Bool))(da:Int)(cy:Int)(cu:Int)(cr:Int)(cq:List (Int×Int))(co:Int)(cn:Int)(ck:Int)(cj:Int)(ci:Int)(ce:Int)(b9:Int)(f146:Int)(b7:Int)(bz:Bool):Option Bool:=(Dq N bl da cy cu cr cq co cn ck cj ci ce b9 f146 b7 bz).bind λbn=>some (decide (0<=bn))
@[go_sem] def Zs(N:Nat):Spec:=p0<|(qS Az<|qL 111<|qO<|qI<|qI<|qI<|qI<|qR Aj<|qI<|qI<|qI<|qI<|qI<|qI<|qI<|qI<|qI<|qB<|qE<|qE<|qE<|qF false .b) (Ci N)
theorem Vz(N:Nat):Au Tryz.prog 110 (Zs N):=by refine fk (wX tH (Aa (Vy N)<|Ae)) ?_;intro bl da cy cu cr cq co cn ck cj ci ce b9 f146 b7 bz r h _ hS F;dsimp only[tH,Ad,Aj,Az];unfold Ci at h;obtain⟨bn,br,h⟩:=un h;exact Ah hS (fc br F) h
def AI(N:Nat)(x151:List (Int×Int×Int×Int×Bool))(aa:Int):Nat->Int->Int->Option Int|0,_,_=>none|n+1,ae,af=>bif decide (ae<af)then(gd (Ai (ae+af))<|(Bz x151 (IntKind.wrap .i64 (D5 .shr .u64 (IntKind.wrap .u64 (ae+af)) 1))).bind λ(x165,dO,dQ,dR,dS)=>(EY N x165 dO dQ dR dS aa).bind λbm=>bif decide (bm<0)then(gd (Ai ((IntKind.wrap .i64 (D5 .shr .u64 (IntKind.wrap .u64 (ae+af)) 1))+1))<|AI N x151 aa n ((IntKind.wrap .i64 (D5 .shr .u64 (IntKind.wrap .u64 (ae+af)) 1))+1) af)else(AI N x151 aa n ae (IntKind.wrap .i64 (D5 .shr .u64 (IntKind.wrap .u64 (ae+af)) 1))))else(some ae)
def Bk(N:Nat)(x151:List (Int×Int×Int×Int×Bool))(aa:Int):Option (Int×Bool):=(AI N x151 aa N 0 (x151.length:Int)).bind λi177=>gd ((decide (i177<(x151.length:Int)))=true->(0<=i177/\i177<(x151.length:Int)))<|gd ((decide (i177<(x151.length:Int)))=true->((EY N ((x151.getD i177.toNat (0,0,0,0,false)).1) ((x151.getD i177.toNat (0,0,0,0,false)).2.1) ((x151.getD i177.toNat (0,0,0,0,false)).2.2.1) ((x151.getD i177.toNat (0,0,0,0,false)).2.2.2.1) ((x151.getD i177.toNat (0,0,0,0,false)).2.2.2.2) aa).isSome=true))<|some (i177,(decide (i177<(x151.length:Int)))&&(decide ((EY N ((x151.getD i177.toNat (0,0,0,0,false)).1) ((x151.getD i177.toNat (0,0,0,0,false)).2.1) ((x151.getD i177.toNat (0,0,0,0,false)).2.2.1) ((x151.getD i177.toNat (0,0,0,0,false)).2.2.2.1) ((x151.getD i177.toNat (0,0,0,0,false)).2.2.2.2) aa).getD 0=0)))
@[go_sem] def Zt(N:Nat):Spec:=p0<|(qS Az<|qI<|qL 132<|qE<|qE<|qF (0,false) λr=>.tup [.i r.1,.b r.2]) (Bk N)
theorem VA(N:Nat):Au Tryz.prog 131 (Zt N):=by
 refine fk (wX tV (Aa (wA N)<|Ae)) ?_;intro x151 aa r h _ hS F;dsimp only[tV,Ad,Az];unfold Bk at h;obtain⟨dl,ay,h⟩:=un h;refine go hS F ?_;refine BU dl (λz:Int×Nat=>⟨[(0,Bj x151),(1,.i aa),(2,.clo (.func 132) [] []),(8,.i (x151.length:Int)),(9,.i z.1)],[],z.2⟩) (λz=>(z.1:Int)) (.x 0) ?_ ?_
 ·refine BO (λn (y:Int×Int×Nat)=>AI N x151 aa n y.1 y.2.1) (λy=>⟨[(0,Bj x151),(1,.i aa),(2,.clo (.func 132) [] []),(8,.i (x151.length:Int)),(9,.i y.1),(10,.i y.2.1)],[],y.2.2⟩) (0,(x151.length:Int),3) ay (CB F) ?_;rintro n ⟨ae,af,bj⟩ ab;simp only[AI]at ab;refine An hS F ab (λ_ ab=>?_) (λ_ ab=>?_)
  ·obtain⟨dm,⟨x165,dO,dQ,dR,dS⟩,bv,ab⟩:=un ab;obtain⟨d8,F⟩:=CH BW bv F;obtain⟨bm,bq,ab⟩:=un ab;replace F:=fc bq F;refine An hS F ab (λ_ ab=>?_) (λ_ ab=>?_)
   ·obtain⟨ge,ab⟩:=un ab;exact CS hS F (n,(IntKind.wrap .i64 (D5 .shr .u64 (IntKind.wrap .u64 (ae+af)) 1))+1,af,bj+1+1+1+1) ab
   ·exact CS hS F (n,ae,IntKind.wrap .i64 (D5 .shr .u64 (IntKind.wrap .u64 (ae+af)) 1),bj+1+1+1+1) ab
  ·exact Cu hS F (ae,bj+1) ab
 ·rintro⟨i177,fy⟩ rfl;obtain⟨fq,fp,h⟩:=un h;by_cases hi:i177<(x151.length:Int)
  ·have hd:decide (i177<(x151.length:Int))=true:=q9 hi;obtain⟨c,hc⟩:=yX (fp hd);have hq:=(CH BW (MJ (0,0,0,0,false) (fq hd).1 hi) F).2.1;exact Ah hS (fc hc (fc hd (fc hq F))) h
  ·have hd:decide (i177<(x151.length:Int))=false:=s6 hi;exact Ah hS (fc (YC BW hi) (fc hd F)) h
end
section
attribute [local irreducible] Aq BD Bv A8 Bq Ba AQ Bw By Ck
def Nx(x:List (Int×Int)):List AV:=[BK x]
def jB:List AV->List (Int×Int)|[.sl _ _ a1 _]=>(a1.map HS)|_=>[]
def XA:Rw (List (Int×Int)):=⟨1,Nx,jB,[.sl 0 true [] []]⟩
def Ph(l:List (List (Int×Int))):AV:=.sl 1 false (l.map Nx) [.sl 0 true [] []]
def Aat(l:List (List (Int×Int))):AV:=.sl 1 true (l.map Nx) [.sl 0 true [] []]
attribute [go_sem] XA Ph Aat Nx jB
def Bb(N:Nat)(slices1478:List (List (Int×Int))):Nat->Int->Int->Option Int|0,_,_=>none|n+1,aa,ai=>bif decide (ai<(slices1478.length:Int))then((Bz slices1478 ai).bind λx1485=>gd (Ai (aa+(x1485.length:Int)))<|gd ((decide (aa+(x1485.length:Int)<0))=false)<|gd (Ai (ai+1))<|Bb N slices1478 n (aa+(x1485.length:Int)) (ai+1))else(some aa)
def Bc(N:Nat)(slices1478:List (List (Int×Int))):Nat->Int->(List (Int×Int))->Option ((List (Int×Int)))|0,_,_=>none|n+1,ah,l1512=>bif decide (ah<(slices1478.length:Int))then((Bz slices1478 ah).bind λx1513=>gd ((l1512.length+x1513.length)*16<=140737488355328)<|gd (Ai (ah+1))<|Bc N slices1478 n (ah+1) (l1512++x1513))else(some l1512)
def CK(N:Nat)(slices1478:List (List (Int×Int))):Nat->Int->(List (Int×Int))->Option ((List (Int×Int)))|0,_,_=>none|n+1,af,l1530=>bif decide (af<(slices1478.length:Int))then((Bz slices1478 af).bind λx1531=>gd ((l1530.length+x1531.length)*16<=140737488355328)<|gd (Ai (af+1))<|CK N slices1478 n (af+1) (l1530++x1531))else(some l1530)
def BE(N:Nat)(slices1478:List (List (Int×Int))):Option (List (Int×Int)):=(Bb N slices1478 N 0 0).bind λab=>gd ((decide (ab<0))=false)<|gd (Ai (ab-0))<|bif decide (0<ab-0)then(gd (0<=0/\0<=0/\0<=0)<|gd (0<ab-0)<|gd ((ab-0)*16<=140737488355328)<|(Bc N slices1478 N 0 []).bind λaq=>some aq)else((CK N slices1478 N 0 []).bind λan=>some an)
@[go_sem] def Ach(N:Nat):Spec:=p0<|(qD XA<|qE<|qF [] BK) (BE N)
theorem uT(N:Nat):Au Tryz.prog 155 (Ach N):=by
 refine fk (wX uG (lT<|Ae)) ?_;intro slices1478 r h _ hS F;dsimp only[uG,Ad,XA];unfold BE at h;obtain⟨bf,b9,h⟩:=un h;refine go hS F ?_;refine BU bf (λz:Int×Nat=>⟨[(0,Ph slices1478),(3,.i z.1)],[],z.2⟩) (λz=>(z.1:Int)) (.x 0) ?_ ?_
 ·refine BO (λn (y:Int×Int×Nat)=>Bb N slices1478 n y.1 y.2.1) (λy=>⟨[(0,Ph slices1478),(3,.i y.1),(9,Ph slices1478),(10,.i (slices1478.length:Int)),(11,.i y.2.1)],[],y.2.2⟩) (0,0,3) b9 (CB F) ?_;rintro n ⟨aa,ai,aw⟩ am;simp only[Bb]at am;refine An hS F am (λ_ am=>?_) (λ_ am=>?_)
  ·obtain⟨x1485,ba,cj,bp,am⟩:=un am;obtain⟨bi,F⟩:=CH Nx ba F;refine go hS F ?_;refine cb F (decide (aa+(x1485.length:Int)<0)) (λhc5=>?_) (λhc5=>?_)
   ·exact Bool.noConfusion (hc5.symm.trans bp)
   obtain⟨ci,am⟩:=un am;exact CS hS F (n,aa+(x1485.length:Int),ai+1,aw+1+1+1+1+1) am
  ·exact Cu hS F (aa,aw+1) am
 ·rintro⟨ab,ae⟩ rfl;refine go hS F ?_;refine C3 hS 1 x180.hf x180.hc x180.hn x180.ok rfl (ev F) (ev F) ?_ rfl (ev F) (A01 rfl) λhb=>?_
  ·exact AS hS F
  dsimp only[x180,Ad];obtain⟨bo,h⟩:=un h;refine go hS F ?_;refine cb F (decide (ab<0)) (λhc8=>?_) (λhc8=>?_)
  ·exact Bool.noConfusion (hc8.symm.trans bo)
  obtain⟨ce,h⟩:=un h;refine An hS F h (λ_ h=>?_) (λ_ h=>?_)
  ·obtain⟨b7,bz,bw,h⟩:=un h;obtain⟨be,bl,h⟩:=un h;refine go hS F ?_;refine BU be (λz:(List (Int×Int))×Nat=>⟨[(6,.own (508,ae+1+1+1+1+1+1) z.1.length)],[(.a (508,ae+1+1+1+1+1+1),P8 z.1)],z.2⟩) (λz=>(z.1:(List (Int×Int)))) (.x 2) ?_ ?_
   ·refine BO (λn (y:Int×(List (Int×Int))×Nat)=>Bc N slices1478 n y.1 y.2.1) (λy=>⟨[(6,.own (508,ae+1+1+1+1+1+1) y.2.1.length),(25,Ph slices1478),(26,.i (slices1478.length:Int)),(27,.i y.1)],[(.a (508,ae+1+1+1+1+1+1),P8 y.2.1)],y.2.2⟩) (0,[],ae+1+1+1+1+1+1+1+1+1) bl (CB F) ?_;rintro n ⟨ah,l1512,av⟩ ak;simp only[Bc]at ak;refine An hS F ak (λ_ ak=>?_) (λ_ ak=>?_)
    ·obtain⟨x1513,az,bv,bu,ak⟩:=un ak;obtain⟨bh,F⟩:=CH Nx az F;exact CS hS F (n,ah+1,l1512++x1513,av+1+1+1+1) ak
    ·exact Cu hS F (l1512,av+1) ak
   ·rintro⟨aq,bn⟩ rfl;exact Ah hS F h
  ·refine go hS F ?_;refine HG 1000001 6 2 [.i 0,.i 0] (by show(6:Nat)<36;omega) (by omega) (ev F) ?_;obtain⟨bb,bj,h⟩:=un h;refine go hS F ?_;refine BU bb (λz:(List (Int×Int))×Nat=>⟨[(6,.own (1000001,ae+1+1+1+1+1+1+1+1+1) z.1.length)],[(.a (1000001,ae+1+1+1+1+1+1+1+1+1),P8 z.1)],z.2⟩) (λz=>(z.1:(List (Int×Int)))) (.x 2) ?_ ?_
   ·refine BO (λn (y:Int×(List (Int×Int))×Nat)=>CK N slices1478 n y.1 y.2.1) (λy=>⟨[(6,.own (1000001,ae+1+1+1+1+1+1+1+1+1) y.2.1.length),(25,Ph slices1478),(26,.i (slices1478.length:Int)),(27,.i y.1)],[(.a (1000001,ae+1+1+1+1+1+1+1+1+1),P8 y.2.1)],y.2.2⟩) (0,[],ae+1+1+1+1+1+1+1+1+1) bj (CB F) ?_;rintro n ⟨af,l1530,au⟩ aj;simp only[CK]at aj;refine An hS F aj (λ_ aj=>?_) (λ_ aj=>?_)
    ·obtain⟨x1531,ay,br,bq,aj⟩:=un aj;obtain⟨bg,F⟩:=CH Nx ay F;exact CS hS F (n,af+1,l1530++x1531,au+1+1+1+1) aj
    ·exact Cu hS F (l1530,au+1) aj
   ·rintro⟨an,bm⟩ rfl;exact Ah hS F h
end
attribute [local irreducible] Aq BD Bv A8 Bq Ba AQ Bw By Ck
def GI(N:Nat)(l1539:List (Int×Int))(i1540:Int)(k1541:Int):Option ((List (Int×Int))×(List (Int×Int))×Int):=(Bt N l1539).bind λaa=>bif ((!aa)||(decide (min i1540 k1541<0)))||(decide ((l1539.length:Int)<=max i1540 k1541))then(some ([],[],70))else(bif decide (i1540<=k1541)then(gd (Ai (k1541+1))<|gd (0<=i1540/\i1540<=k1541+1/\k1541+1<=(l1539.length:Int))<|gd ((l1539.drop i1540.toNat).take ((k1541+1).toNat-i1540.toNat)≠[])<|gd ((((l1539.drop i1540.toNat).take ((k1541+1).toNat-i1540.toNat)).length)*16<=140737488355328)<|bif decide (k1541<=i1540)then(gd (Ai (i1540+1))<|gd (0<=k1541/\k1541<=i1540+1/\i1540+1<=(l1539.length:Int))<|gd ((l1539.drop k1541.toNat).take ((i1540+1).toNat-k1541.toNat)≠[])<|gd ((((l1539.drop k1541.toNat).take ((i1540+1).toNat-k1541.toNat)).length)*16<=140737488355328)<|bif decide (min (((l1539.drop i1540.toNat).take ((k1541+1).toNat-i1540.toNat)).length:Int) (((l1539.drop k1541.toNat).take ((i1540+1).toNat-k1541.toNat)).length:Int)<3)then(some ([],[],70))else(some ((l1539.drop i1540.toNat).take ((k1541+1).toNat-i1540.toNat),(l1539.drop k1541.toNat).take ((i1540+1).toNat-k1541.toNat),0)))else(gd (0<=k1541/\k1541<=(l1539.length:Int))<|gd (Ai (i1540+1))<|gd (0<=0/\0<=i1540+1/\i1540+1<=(l1539.length:Int))<|(BE N [l1539.drop k1541.toNat,l1539.take ((i1540+1).toNat-0)]).bind λr1544=>bif decide (min (((l1539.drop i1540.toNat).take ((k1541+1).toNat-i1540.toNat)).length:Int) (r1544.length:Int)<3)then(some ([],[],70))else(some ((l1539.drop i1540.toNat).take ((k1541+1).toNat-i1540.toNat),r1544,0))))else(gd (0<=i1540/\i1540<=(l1539.length:Int))<|gd (Ai (k1541+1))<|gd (0<=0/\0<=k1541+1/\k1541+1<=(l1539.length:Int))<|(BE N [l1539.drop i1540.toNat,l1539.take ((k1541+1).toNat-0)]).bind λr1546=>bif decide (k1541<=i1540)then(gd (Ai (i1540+1))<|gd (0<=k1541/\k1541<=i1540+1/\i1540+1<=(l1539.length:Int))<|gd ((l1539.drop k1541.toNat).take ((i1540+1).toNat-k1541.toNat)≠[])<|gd ((((l1539.drop k1541.toNat).take ((i1540+1).toNat-k1541.toNat)).length)*16<=140737488355328)<|bif decide (min (r1546.length:Int) (((l1539.drop k1541.toNat).take ((i1540+1).toNat-k1541.toNat)).length:Int)<3)then(some ([],[],70))else(some (r1546,(l1539.drop k1541.toNat).take ((i1540+1).toNat-k1541.toNat),0)))else(gd (0<=k1541/\k1541<=(l1539.length:Int))<|gd (Ai (i1540+1))<|gd (0<=0/\0<=i1540+1/\i1540+1<=(l1539.length:Int))<|(BE N [l1539.drop k1541.toNat,l1539.take ((i1540+1).toNat-0)]).bind λr1548=>bif decide (min (r1546.length:Int) (r1548.length:Int)<3)then(some ([],[],70))else(some (r1546,r1548,0)))))
@[go_sem] def Ui(N:Nat):Spec:=p0<|(qS Aj<|qI<|qI<|qE<|qF ([],[],0) λr=>.tup [BK r.1,BK r.2.1,.i r.2.2]) (GI N)
theorem uU(N:Nat):Au Tryz.prog 117 (Ui N):=by
 refine fk (wX tM (Aa (Kw N)<|Aa (uT N)<|Ae)) ?_;intro l1539 i1540 k1541 r h _ hS F;dsimp only[tM,Ad,Aj];unfold GI at h;obtain⟨aa,ah,h⟩:=un h;replace F:=fc ah F;refine An hS F h (λ_ h=>?_) (λ_ h=>?_)
 ·exact Ah hS F h
 ·refine go hS F ?_;refine R8 hS 3 7 (by decide) x154.hf x154.hc x154.hn x154.ok x154.hf x154.hc x154.hn x154.ok rfl rfl (ev F) (ev F) (ev F) ?_ rfl (ev F) (A01 rfl) λhb=>?_
  ·exact AS hS F
  dsimp only[x154,Ad];refine An hS F h (λ_ h=>?_) (λ_ h=>?_)
  ·obtain⟨bm,bl,h⟩:=un h;refine go hS F ?_;refine C3 hS 5 x35.hf x35.hc x35.hn x35.ok rfl (ev F) (ev F) ?_ rfl (ev F) (A01 rfl) λhb=>?_
   ·exact AS hS F
   dsimp only[x35,Ad];obtain⟨bj,h⟩:=un h;refine Gn hS F ?_;obtain⟨bi,h⟩:=un h;refine go hS F ?_
   first|refine To (ev F) (ev F) ?_ ?_ rfl (ev F) (by simp) λhb=>?_|refine Tn (ev F) (ev F) ?_ ?_ rfl (ev F) (by simp) λhb=>?_
   ·exact AS hS F
   ·exact AS hS F
   try dsimp only[x154,Ad]
   refine An hS F h (λ_ h=>?_) (λ_ h=>?_)
   ·obtain⟨bh,bg,h⟩:=un h;refine go hS F ?_;refine C3 hS 5 x35.hf x35.hc x35.hn x35.ok rfl (ev F) (ev F) ?_ rfl (ev F) (A01 rfl) λhb=>?_
    ·exact AS hS F
    dsimp only[x35,Ad];obtain⟨bf,h⟩:=un h;refine Gn hS F ?_;obtain⟨be,h⟩:=un h;refine An hS F h (λ_ h=>?_) (λ_ h=>?_)
    ·exact Ah hS F h
    ·exact Ah hS F h
   ·obtain⟨bb,ba,az,r1544,af,h⟩:=un h;replace F:=fc af F;refine An hS F h (λ_ h=>?_) (λ_ h=>?_)
    ·exact Ah hS F h
    ·exact Ah hS F h
  ·obtain⟨ay,aw,av,r1546,ae,h⟩:=un h;replace F:=fc ae F;refine go hS F ?_
   first|refine To (ev F) (ev F) ?_ ?_ rfl (ev F) (by simp) λhb=>?_|refine Tn (ev F) (ev F) ?_ ?_ rfl (ev F) (by simp) λhb=>?_
   ·exact AS hS F
   ·exact AS hS F
   try dsimp only[x154,Ad]
   refine An hS F h (λ_ h=>?_) (λ_ h=>?_)
   ·obtain⟨au,aq,h⟩:=un h;refine go hS F ?_;refine C3 hS 5 x35.hf x35.hc x35.hn x35.ok rfl (ev F) (ev F) ?_ rfl (ev F) (A01 rfl) λhb=>?_
    ·exact AS hS F
    dsimp only[x35,Ad];obtain⟨an,h⟩:=un h;refine Gn hS F ?_;obtain⟨am,h⟩:=un h;refine An hS F h (λ_ h=>?_) (λ_ h=>?_)
    ·exact Ah hS F h
    ·exact Ah hS F h
   ·obtain⟨ak,aj,ai,r1548,ab,h⟩:=un h;replace F:=fc ab F;refine An hS F h (λ_ h=>?_) (λ_ h=>?_)
    ·exact Ah hS F h
    ·exact Ah hS F h
