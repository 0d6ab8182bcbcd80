import Derived.Test.YtjdchfljifacoaaGreatKM
set_option linter.all false
set_option maxRecDepth 100000
set_option maxHeartbeats 8000000
namespace Go.Proofs.YtjdchfljifacoaaGreat.Am
open Go
section
attribute [local irreducible] Ax BO BB Bj BC Bk AY BD BK Cq
@[go_sem] theorem AgF(a b:Int):(some a=some b)=(a=b):=by simp
def pC(m:Int)(K:Fv):Fv|(.v (.int .i64 n)::r)::st=>if n=m then K (r::st)else none|_=>none
theorem Dn{P:Program}{f:Nat}{C:LF}{m:Int}{K:Fv}(h:FC P f (cP (.i m) C) K):FC P f C (pC m K):=by
 intro st vc r hs hv;unfold pC at hs;split at hs
 ·split at hs
  ·rename_i e;subst e;exact h _ _ _ hs hv
  ·cases hs
 ·cases hs
attribute [go_sem] pC
def JT:List (List AV):=[[.i 1,.agg [.clo (.func 130) [] [],.clo (.func 131) [] [],.clo (.func 133) [] [],.clo (.func 135) [] [],.clo (.func 136) [] []]],[.i 2,.agg [.clo (.func 139) [] [],.clo (.func 141) [] [],.clo (.func 142) [] [],.clo (.func 145) [] [],.clo (.func 149) [] []]],[.i 3,.agg [.clo (.func 150) [] [],.clo (.func 151) [] [],.clo (.func 152) [] [],.v .nilFunc,.clo (.func 154) [] []]],[.i 4,.agg [.clo (.func 155) [] [],.clo (.func 156) [] [],.clo (.func 157) [] [],.clo (.func 158) [] [],.clo (.func 159) [] []]]]
def JU:List (List AV):=[[.i 5,.agg [.clo (.func 163) [] [],.clo (.func 164) [] [],.clo (.func 165) [] [],.v .nilFunc,.clo (.func 169) [] []]],[.i 6,.agg [.clo (.func 160) [] [],.clo (.func 161) [] [],.clo (.func 170) [] [],.clo (.func 172) [] [],.clo (.func 162) [] []]],[.i 7,.agg [.clo (.func 160) [] [],.clo (.func 161) [] [],.clo (.func 173) [] [],.clo (.func 174) [] [],.clo (.func 162) [] []]]]
theorem sQ:GCall Tryz.prog 108 [] (λn=>[(.c n 0,ME JT)]) .mp:=by
 have hS:=Aj (P:=Tryz.prog);refine Ub hS x108 (kM rfl) λhb=>?_
 have F:=f0;dsimp only[x108,Ah];refine go hS F ?_;exact HU (ev F) (ev F) ⟨(100,2),rfl,by simp only[go_sem,seval,JT]⟩
theorem sR:GCall Tryz.prog 109 [] (λn=>[(.c n 0,ME JU)]) .mp:=by
 have hS:=Aj (P:=Tryz.prog);refine Ub hS x109 (kM rfl) λhb=>?_
 have F:=f0;dsimp only[x109,Ah];refine go hS F ?_;exact HU (ev F) (ev F) ⟨(400,5),rfl,by simp only[go_sem,seval,JU]⟩
def kF(N:Nat):Nat->List AV->Option (Prop×(Nm->Hp)×(Nm->AV)):=λf args=>if f=108 then(match args with|[]=>some (True,λn=>[(.c n 0,ME JT)],.mp)|_=>none)else if f=109 then(match args with|[]=>some (True,λn=>[(.c n 0,ME JU)],.mp)|_=>none)
 else if f=56 then(match args with
  |[.agg [.sl y _ s _,.sl y2 _ s2 _]]=>match Ge N (s.map B1)with|some r=>some ((((y=6\/s=[])/\Hk s ((s.map B1).map Au))/\((y2=5\/s2=[])/\s2=(s2.map E8).map BZ))/\(s2.map E8).length*40<=140737488355328,λn=>[(.a n,EH (s2.map E8))],λn=>.agg [Ap r,.own n (s2.map E8).length])|none=>none
  |_=>none)
 else Nj f args
theorem CP(N:Nat):∀f args vc ws g,kF N f args=some (vc,ws,g)->vc->Dh Tryz.prog f/\GCall Tryz.prog f args ws g:=by
 intro f args vc ws g h hv;unfold kF at h;split at h
 ·rename_i hf;subst hf;split at h
  ·simp only[yE,F9]at h;obtain⟨rfl,rfl,rfl⟩:=h;exact⟨x108.ok,sQ⟩
  ·cases h
 ·split at h
  ·rename_i hf;subst hf;split at h
   ·simp only[yE,F9]at h;obtain⟨rfl,rfl,rfl⟩:=h;exact⟨x109.ok,sR⟩
   ·cases h
  ·split at h
   ·rename_i hf;subst hf;split at h
    ·rename_i y fl s d y2 fl2 s2 d2;split at h
     ·rename_i r hr;simp only[yE,F9]at h;obtain⟨rfl,rfl,rfl⟩:=h;obtain⟨⟨⟨h1,h2⟩,h4,h5⟩,h3⟩:=hv;refine⟨x56.ok,GCall.argD (show Ib _ [.agg [Ap _,AS _]]from⟨⟨⟨h2,h1,λh=>by cases h⟩,⟨?_,h4,λh=>by cases h⟩,trivial⟩,trivial⟩) (jP N _ r _ hr h3)⟩;rw[<-h5];exact LH _
     ·cases h
    ·cases h
   ·exact Wt f args vc ws g h hv
def Qe:Value:=.iface 126 (.agg #[])
def qU(N:Nat):Nat->List AV->List AV->Option (Prop×AV):=λf args vs=>if f=148 then(match args,vs with
 |[.box _ 0,.v (.int .i64 _)],[.agg (.sl y _ s _::_),.v (.int .i64 id)]=>match Dk N (s.map B1) id with|some (u,true)=>some ((y=6\/s=[])/\Hk s ((s.map B1).map Au),.agg (Au u))|_=>none
 |_,_=>none)else none
def yU(N:Nat):Nat->List AV->List AV->Option (Prop×Value):=λf args vs=>if f=148 then(match args,vs with
 |[.box _ 0,.v (.int .i64 _)],[.agg (.sl y _ s _::_),.v (.int .i64 id)]=>match Dk N (s.map B1) id with|some (_,false)=>some ((y=6\/s=[])/\Hk s ((s.map B1).map Au),Qe)|_=>none
 |_,_=>none)else none
theorem Yw{hp:Hp}{n:Nm}{c:AV}{cs:List AV}(hc:∃z f r d,c=.sl z f r d)(h:qv hp (.box n 0)=.agg (c::cs)):hl hp (.c n 0)=some c:=by
 obtain⟨z,f,r,d,rfl⟩:=hc;simp only[qv,AV.agg.injEq]at h;cases hb:C0 hp n 0 40 with
 |nil=>rw[hb]at h;cases h
 |cons x xs=>
  rw[hb]at h;simp only[eG,List.cons.injEq]at h;have hx:=I5 40 0 0 x (by rw[hb];rfl);rw[xS]at hx;rw[hx.1];congr 1;have h1:=h.1;cases x with
  |mp m=>simp only[K2]at h1;split at h1<;>cases h1
  |_=>simp only[K2]at h1;first|exact h1|cases h1
theorem LkE.c{hp hp':Hp}{cnt:Nat}{args:List AV}(hL:LkB hp cnt args){n:Nm}{j:Nat}{x:AV}(hn:cnt<n.2)(h:LkE hp hp'):LkE hp ((.c n j,x)::hp'):=λl y hy=>by
 rw[hl,dW λe=>?_]
 ·exact h l y hy
 ·subst e;have:=hL.h n j y hy;omega
section
variable(N:Nat){n:Nm}{id:Int}{y:Nat}{fl:Bool}{s:List (List AV)}{d:List AV}
theorem zL{u:Un}{rest:List AV}(hy:y=6\/s=[])(hw:Hk s ((s.map B1).map Au))(hu:Dk N (s.map B1) id=some (u,true)):IA Tryz.prog 148 [.box n 0,.i id] [.agg (.sl y fl s d::rest),.i id] (.agg (Au u)):=by
 have hS:=Ab (Zz N)<|Aj
 refine bY hS x148 rfl (kM rfl) λhb hp cnt hL hv=>?_
 obtain⟨n1,n2⟩:=n;simp only[eG,tG,List.cons.injEq,and_true]at hv;have h0:=Yw ⟨_,_,_,_,rfl⟩ hv.1;have hn:=hL.a (n1,n2) 0 (by simp);have F:=fc (show(y=6\/s=[])=True from eq_true hy) (fc (show Hk s ((s.map B1).map Au)=True from eq_true hw) (fc h0 (fc hu (fc (show(cnt+1=n2)=False by simp at hn⊢;omega) (fc (show(cnt+1+1=n2)=False by simp at hn⊢;omega) (fc (show(cnt+1+1+1=n2)=False by simp at hn⊢;omega) f0))))));dsimp only[x148,Ah];refine go hS F ?_;refine GO hS 1 x77.hf x77.hc x77.hn x77.ok rfl (ev F) (ev F) ?_ rfl (ev F) (kM rfl) λhb=>?_
 ·exact Bl hS F
 dsimp only[x77,Ah];refine go hS F ?_;refine cf F ?_;refine go hS F ?_;exact HU (ev F) (ev F) ⟨by simp only[go_sem,seval],by repeat' first|exact λ_ _ h=>h|refine LkE.c hL (by simp only;omega) ?_⟩
theorem zN{u:Un}{rest:List AV}(hy:y=6\/s=[])(hw:Hk s ((s.map B1).map Au))(hu:Dk N (s.map B1) id=some (u,false)):QD Tryz.prog 148 [.box n 0,.i id] [.agg (.sl y fl s d::rest),.i id] Qe:=by
 have hS:=Ab (Zz N)<|Aj
 refine jH hS x148 (kM rfl) λhb hp cnt hL hv=>?_
 obtain⟨n1,n2⟩:=n;simp only[eG,tG,List.cons.injEq,and_true]at hv;have h0:=Yw ⟨_,_,_,_,rfl⟩ hv.1;have hn:=hL.a (n1,n2) 0 (by simp);have F:=fc (show(y=6\/s=[])=True from eq_true hy) (fc (show Hk s ((s.map B1).map Au)=True from eq_true hw) (fc h0 (fc hu (fc (show(cnt+1=n2)=False by simp at hn⊢;omega) (fc (show(cnt+1+1=n2)=False by simp at hn⊢;omega) (fc (show(cnt+1+1+1=n2)=False by simp at hn⊢;omega) f0))))));dsimp only[x148,Ah];refine go hS F ?_;refine AZ hS 1 x77.hf x77.hc x77.hn x77.ok rfl (ev F) (ev F) ?_ rfl (ev F) (kM rfl) λhb=>?_
 ·exact Bl hS F
 dsimp only[x77,Ah];refine go hS F ?_;refine ct F ?_;refine go hS F ?_;refine Bf (Ctx.fn_ok hS) 2 rfl rfl (ev F) (ev F) (ev F) ?_
 repeat' (first|with_reducible (first|apply A8|apply A9|apply Bh|apply AR|apply Bx)|((with_reducible apply A4);(·simp)))
 exact⟨rfl,by repeat' first|exact λ_ _ h=>h|refine LkE.c hL (by simp only;omega) ?_⟩
end
theorem L3(N:Nat):∀f args vs vc r,qU N f args vs=some (vc,r)->vc->Dh Tryz.prog f/\IA Tryz.prog f args vs r:=by
 intro f args vs vc r h hv;unfold qU at h;split at h
 ·rename_i hf;subst hf;split at h
  ·rename_i n i y fl s d rest id;split at h
   ·rename_i u hu;cases h
    refine⟨x148.ok,λU hp xs gl hI hal hx hvs=>?_⟩;have hii:i=id:=by simp only[eG,tG,qv,List.cons.injEq,and_true,AV.v.injEq,Value.int.injEq,true_and]at hvs;exact hvs.2
    subst hii;exact zL N hv.1 hv.2 hu U hp xs gl hI hal hx hvs
   ·cases h
  ·cases h
 ·cases h
theorem H2(N:Nat):∀f args vs vc v,yU N f args vs=some (vc,v)->vc->Dh Tryz.prog f/\QD Tryz.prog f args vs v:=by
 intro f args vs vc r h hv;unfold yU at h;split at h
 ·rename_i hf;subst hf;split at h
  ·rename_i n i y fl s d rest id;split at h
   ·rename_i u hu;cases h
    refine⟨x148.ok,λU hp xs gl hI hal hx hvs=>?_⟩;have hii:i=id:=by simp only[eG,tG,qv,List.cons.injEq,and_true,AV.v.injEq,Value.int.injEq,true_and]at hvs;exact hvs.2
    subst hii;exact zN N hv.1 hv.2 hu U hp xs gl hI hal hx hvs
   ·cases h
  ·cases h
 ·cases h
def oI:Nat->Nat->List (List AV)->List AV->Option (Prop×List (List AV)):=λf sz rows ax=>if f=168 then(match ax with|[.v (.int .i64 k),.sl 5 false [[.v (.int .i64 a),.v (.int .i64 b),.v (.int .i64 c),.v (.int .i64 g),.v (.bool o)]] _]=>some (sz=5/\rows=(rows.map E8).map BZ/\(0<=k/\k<=rows.length)/\(rows.length+1)*40<=140737488355328,rows.take k.toNat++[[.i a,.i b,.i c,.i g,.b o]]++rows.drop k.toNat)|_=>none)else none
theorem H3:∀f sz rows ax vc rows',oI f sz rows ax=some (vc,rows')->vc->Dh Tryz.prog f/\K4 Tryz.prog f sz rows ax rows'/\∀r∈rows',r.length=sz/\AP r=true:=by
 intro f sz rows ax vc rows' h hv;unfold oI at h;split at h
 ·rename_i hf;subst hf;split at h
  ·rename_i k a b c g o d;cases h
   obtain⟨rfl,hr,hk,hl⟩:=hv;have hrow:∀r∈rows,r.length=5/\AP r=true:=λr h=>by rw[hr]at h;obtain⟨x,_,rfl⟩:=oY.1 h;exact⟨rfl,rfl⟩
   obtain⟨k,rfl⟩:=Int.eq_ofNat_of_zero_le hk.1;refine⟨⟨_,Tryz.func168,by kernel_rfl,by kernel_rfl⟩,tC (by omega) hl λr h=>(hrow r h).1,λr h=>?_⟩;rcases fU.1 h with h|h
   ·rcases fU.1 h with h|h
    ·exact hrow r (yI h)
    ·rw[tJ.1 h];exact⟨rfl,rfl⟩
   ·exact hrow r (z9 h)
  ·cases h
 ·cases h
end
section
attribute [local irreducible] Ax BO BB Bj BC Bk AY BD BK Cq
attribute [local go_sem] kF Nj JT JU
def Fj(N:Nat)(a2:Int)(a3:Int)(a4:Int)(a5:List (Int×Int))(a6:Int)(a7:Int)(a8:Int)(a9:Int)(iy:Int)(dt:Int)(dq:Int)(dp:Int)(dm:Int)(dl:Bool):Option Bool:=(Ks N 1 a2 a3 a4 a5 a6 a7 a8 a9 iy dt dq dp dm dl).bind λjd=>some (jd&&(decide (dt=0)&&(decide (dq=0)&&(decide (dp=0)&&(decide (dm=0)&&(dl==false))))))
@[go_sem] def zO(N:Nat):Spec:=p0<|pG<|pC 1<|pI λa2=>pI λa3=>pI λa4=>pS Aq λa5=>pI λa6=>pI λa7=>pI λa8=>pI λa9=>pI λiy=>pI λdt=>pI λdq=>pI λdp=>pI λdm=>pB λdl=>pE<|pE<|pF (Fj N a2 a3 a4 a5 a6 a7 a8 a9 iy dt dq dp dm dl) false λr=>.tup [.agg [.clo (.func 130) [] [],.clo (.func 131) [] [],.clo (.func 133) [] [],.clo (.func 135) [] [],.clo (.func 136) [] []],.b r]
theorem Nk(N:Nat):AG Tryz.prog 64 (zO N):=by
 refine Ar x64.ok<|Aw<|Dn<|Aa λa2=>Aa λa3=>Aa λa4=>AF λa5=>Aa λa6=>Aa λa7=>Aa λa8=>Aa λa9=>Aa λiy=>Aa λdt=>Aa λdq=>Aa λdp=>Aa λdm=>AX λdl=>Ad<|Ad<|As λr h=>wx x64 (BG (Ab (yZ N)<|Aj) DX (CP N) DY DZ) λ_ hS F=>?_
 dsimp only[x64,Ah,Aq];unfold Fj at h;refine Om hS F ?_;obtain⟨jd,i8,h⟩:=un h;exact Ai hS (fc i8 F) h
def Fk(N:Nat)(iw:Int)(iv:Int)(ir:Int)(iq:List (Int×Int))(ip:Int)(im:Int)(il:Int)(ij:Int)(ii:Int)(dh:Int)(dg:Int)(db:Int)(da:Int)(cz:Bool):Option Bool:=(Ku N 2 iw iv ir iq ip im il ij ii dh dg db da cz).bind λjc=>some (jc&&(decide (dh=0)&&(decide (dg=0)&&(decide (db=0)&&(decide (da=0)&&(cz==false))))))
@[go_sem] def zP(N:Nat):Spec:=p0<|pG<|pC 2<|pI λiw=>pI λiv=>pI λir=>pS Aq λiq=>pI λip=>pI λim=>pI λil=>pI λij=>pI λii=>pI λdh=>pI λdg=>pI λdb=>pI λda=>pB λcz=>pE<|pE<|pF (Fk N iw iv ir iq ip im il ij ii dh dg db da cz) false λr=>.tup [.agg [.clo (.func 139) [] [],.clo (.func 141) [] [],.clo (.func 142) [] [],.clo (.func 145) [] [],.clo (.func 149) [] []],.b r]
theorem Nl(N:Nat):AG Tryz.prog 64 (zP N):=by
 refine Ar x64.ok<|Aw<|Dn<|Aa λiw=>Aa λiv=>Aa λir=>AF λiq=>Aa λip=>Aa λim=>Aa λil=>Aa λij=>Aa λii=>Aa λdh=>Aa λdg=>Aa λdb=>Aa λda=>AX λcz=>Ad<|Ad<|As λr h=>wx x64 (BG (Ab (zD N)<|Aj) DX (CP N) DY DZ) λ_ hS F=>?_
 dsimp only[x64,Ah,Aq];unfold Fk at h;refine Om hS F ?_;obtain⟨jc,i7,h⟩:=un h;exact Ai hS (fc i7 F) h
def Fl(N:Nat)(ig:Int)(ie:Int)(ic:Int)(ib:List (Int×Int))(g9:Int)(g8:Int)(gz:Int)(gy:Int)(gx:Int)(cy:Int)(cu:Int)(cr:Int)(cq:Int)(co:Bool):Option Bool:=(JP N 3 ig ie ic ib g9 g8 gz gy gx cy cu cr cq co).bind λjb=>some (jb&&(decide (cy=0)&&(decide (cu=0)&&(decide (cr=0)&&(decide (cq=0)&&(co==false))))))
@[go_sem] def zQ(N:Nat):Spec:=p0<|pG<|pC 3<|pI λig=>pI λie=>pI λic=>pS Aq λib=>pI λg9=>pI λg8=>pI λgz=>pI λgy=>pI λgx=>pI λcy=>pI λcu=>pI λcr=>pI λcq=>pB λco=>pE<|pE<|pF (Fl N ig ie ic ib g9 g8 gz gy gx cy cu cr cq co) false λr=>.tup [.agg [.clo (.func 150) [] [],.clo (.func 151) [] [],.clo (.func 152) [] [],.v .nilFunc,.clo (.func 154) [] []],.b r]
theorem Nn(N:Nat):AG Tryz.prog 64 (zQ N):=by
 refine Ar x64.ok<|Aw<|Dn<|Aa λig=>Aa λie=>Aa λic=>AF λib=>Aa λg9=>Aa λg8=>Aa λgz=>Aa λgy=>Aa λgx=>Aa λcy=>Aa λcu=>Aa λcr=>Aa λcq=>AX λco=>Ad<|Ad<|As λr h=>wx x64 (BG (Ab (zF N)<|Aj) DX (CP N) DY DZ) λ_ hS F=>?_
 dsimp only[x64,Ah,Aq];unfold Fl at h;refine Om hS F ?_;obtain⟨jb,i6,h⟩:=un h;exact Ai hS (fc i6 F) h
def Fm(N:Nat)(gw:Int)(gv:Int)(gu:Int)(gt:List (Int×Int))(gr:Int)(gm:Int)(gj:Int)(gi:Int)(gh:Int)(cn:Int)(cm:Int)(ck:Int)(cj:Int)(ci:Bool):Option Bool:=(JR N 4 gw gv gu gt gr gm gj gi gh cn cm ck cj ci).bind λja=>some (ja&&(decide (cn=0)&&(decide (cm=0)&&(decide (ck=0)&&(decide (cj=0)&&(ci==false))))))
@[go_sem] def zT(N:Nat):Spec:=p0<|pG<|pC 4<|pI λgw=>pI λgv=>pI λgu=>pS Aq λgt=>pI λgr=>pI λgm=>pI λgj=>pI λgi=>pI λgh=>pI λcn=>pI λcm=>pI λck=>pI λcj=>pB λci=>pE<|pE<|pF (Fm N gw gv gu gt gr gm gj gi gh cn cm ck cj ci) false λr=>.tup [.agg [.clo (.func 155) [] [],.clo (.func 156) [] [],.clo (.func 157) [] [],.clo (.func 158) [] [],.clo (.func 159) [] []],.b r]
theorem No(N:Nat):AG Tryz.prog 64 (zT N):=by
 refine Ar x64.ok<|Aw<|Dn<|Aa λgw=>Aa λgv=>Aa λgu=>AF λgt=>Aa λgr=>Aa λgm=>Aa λgj=>Aa λgi=>Aa λgh=>Aa λcn=>Aa λcm=>Aa λck=>Aa λcj=>AX λci=>Ad<|Ad<|As λr h=>wx x64 (BG (Ab (zH N)<|Aj) DX (CP N) DY DZ) λ_ hS F=>?_
 dsimp only[x64,Ah,Aq];unfold Fm at h;refine Om hS F ?_;obtain⟨ja,i5,h⟩:=un h;exact Ai hS (fc i5 F) h
def Fo(N:Nat)(gg:Int)(gc:Int)(fr:Int)(fq:List (Int×Int))(fp:Int)(fo:Int)(fm:Int)(fj:Int)(fh:Int)(fg:Int)(e9:Int)(e8:Int)(eu:Int)(ej:Bool):Option Bool:=(Kw N 5 gg gc fr fq fp fo fm fj fh fg e9 e8 eu ej).bind λi9=>some (i9||false)
@[go_sem] def zV(N:Nat):Spec:=p0<|pG<|pC 5<|pI λgg=>pI λgc=>pI λfr=>pS Aq λfq=>pI λfp=>pI λfo=>pI λfm=>pI λfj=>pI λfh=>pI λfg=>pI λe9=>pI λe8=>pI λeu=>pB λej=>pE<|pE<|pF (Fo N gg gc fr fq fp fo fm fj fh fg e9 e8 eu ej) false λr=>.tup [.agg [.clo (.func 163) [] [],.clo (.func 164) [] [],.clo (.func 165) [] [],.v .nilFunc,.clo (.func 169) [] []],.b r]
theorem Np(N:Nat):AG Tryz.prog 64 (zV N):=by
 refine Ar x64.ok<|Aw<|Dn<|Aa λgg=>Aa λgc=>Aa λfr=>AF λfq=>Aa λfp=>Aa λfo=>Aa λfm=>Aa λfj=>Aa λfh=>Aa λfg=>Aa λe9=>Aa λe8=>Aa λeu=>AX λej=>Ad<|Ad<|As λr h=>wx x64 (BG (Ab (zJ N)<|Aj) DX (CP N) DY DZ) λ_ hS F=>?_
 dsimp only[x64,Ah,Aq];unfold Fo at h;refine KR hS F ?_;obtain⟨i9,iz,h⟩:=un h;exact Ai hS (fc iz F) h
def Fp(N:Nat)(ei:Int)(eh:Int)(ee:Int)(d9:List (Int×Int))(d8:Int)(d7:Int)(dz:Int)(dw:Int)(du:Int)(ce:Int)(b9:Int)(b7:Int)(bz:Int)(aj:Bool):Option Bool:=(HI N 6 ei eh ee d9 d8 d7 dz dw du ce b9 b7 bz aj).bind λbu=>some (bu&&(decide (ce=0)&&(decide (b9=0)&&(decide (b7=0)&&(decide (bz=0)&&(aj==false))))))
@[go_sem] def zW(N:Nat):Spec:=p0<|pG<|pC 6<|pI λei=>pI λeh=>pI λee=>pS Aq λd9=>pI λd8=>pI λd7=>pI λdz=>pI λdw=>pI λdu=>pI λce=>pI λb9=>pI λb7=>pI λbz=>pB λaj=>pE<|pE<|pF (Fp N ei eh ee d9 d8 d7 dz dw du ce b9 b7 bz aj) false λr=>.tup [.agg [.clo (.func 160) [] [],.clo (.func 161) [] [],.clo (.func 170) [] [],.clo (.func 172) [] [],.clo (.func 162) [] []],.b r]
theorem Nq(N:Nat):AG Tryz.prog 64 (zW N):=by
 refine Ar x64.ok<|Aw<|Dn<|Aa λei=>Aa λeh=>Aa λee=>AF λd9=>Aa λd8=>Aa λd7=>Aa λdz=>Aa λdw=>Aa λdu=>Aa λce=>Aa λb9=>Aa λb7=>Aa λbz=>AX λaj=>Ad<|Ad<|As λr h=>wx x64 (BG (Ab (dC N)<|Aj) DX (CP N) DY DZ) λ_ hS F=>?_
 dsimp only[x64,Ah,Aq];unfold Fp at h;refine KR hS F ?_;obtain⟨bu,bw,h⟩:=un h;exact Ai hS (fc bw F) h
def Fq(N:Nat)(az:Int)(ay:Int)(aw:Int)(av:List (Int×Int))(au:Int)(aq:Int)(an:Int)(am:Int)(ak:Int)(ai:Int)(ah:Int)(af:Int)(ae:Int)(ab:Bool):Option Bool:=(HI N 7 az ay aw av au aq an am ak ai ah af ae ab).bind λbr=>some (br&&(decide (ai=0)&&(decide (ah=0)&&(decide (af=0)&&(decide (ae=0)&&(ab==false))))))
@[go_sem] def zX(N:Nat):Spec:=p0<|pG<|pC 7<|pI λaz=>pI λay=>pI λaw=>pS Aq λav=>pI λau=>pI λaq=>pI λan=>pI λam=>pI λak=>pI λai=>pI λah=>pI λaf=>pI λae=>pB λab=>pE<|pE<|pF (Fq N az ay aw av au aq an am ak ai ah af ae ab) false λr=>.tup [.agg [.clo (.func 160) [] [],.clo (.func 161) [] [],.clo (.func 173) [] [],.clo (.func 174) [] [],.clo (.func 162) [] []],.b r]
theorem Nr(N:Nat):AG Tryz.prog 64 (zX N):=by
 refine Ar x64.ok<|Aw<|Dn<|Aa λaz=>Aa λay=>Aa λaw=>AF λav=>Aa λau=>Aa λaq=>Aa λan=>Aa λam=>Aa λak=>Aa λai=>Aa λah=>Aa λaf=>Aa λae=>AX λab=>Ad<|Ad<|As λr h=>wx x64 (BG (Ab (dC N)<|Aj) DX (CP N) DY DZ) λ_ hS F=>?_
 dsimp only[x64,Ah,Aq];unfold Fq at h;refine KR hS F ?_;obtain⟨br,bv,h⟩:=un h;exact Ai hS (fc bv F) h
def Fr(N:Nat)(aa:Int)(bq:Int)(bp:Int)(bo:Int)(bn:List (Int×Int))(bm:Int)(bl:Int)(bj:Int)(bi:Int)(bh:Int)(bg:Int)(bf:Int)(be:Int)(bb:Int)(ba:Bool):Option Bool:=gd (((1:Int)=aa)=False)<|gd (((2:Int)=aa)=False)<|gd (((3:Int)=aa)=False)<|gd (((4:Int)=aa)=False)<|gd (((5:Int)=aa)=False)<|gd (((6:Int)=aa)=False)<|gd (((7:Int)=aa)=False)<|some false
@[go_sem] def zY(N:Nat):Spec:=p0<|pG<|pI λaa=>pI λbq=>pI λbp=>pI λbo=>pS Aq λbn=>pI λbm=>pI λbl=>pI λbj=>pI λbi=>pI λbh=>pI λbg=>pI λbf=>pI λbe=>pI λbb=>pB λba=>pE<|pE<|pF (Fr N aa bq bp bo bn bm bl bj bi bh bg bf be bb ba) false λr=>.tup [.agg [.v .nilFunc,.v .nilFunc,.v .nilFunc,.v .nilFunc,.v .nilFunc],.b r]
theorem Ns(N:Nat):AG Tryz.prog 64 (zY N):=by
 refine Ar x64.ok<|Aw<|Aa λaa=>Aa λbq=>Aa λbp=>Aa λbo=>AF λbn=>Aa λbm=>Aa λbl=>Aa λbj=>Aa λbi=>Aa λbh=>Aa λbg=>Aa λbf=>Aa λbe=>Aa λbb=>AX λba=>Ad<|Ad<|As λr h=>wx x64 (BG (Aj) DX (CP N) DY DZ) λ_ hS F=>?_
 dsimp only[x64,Ah,Aq];unfold Fr at h;obtain⟨jk,jj,ji,jh,h⟩:=un h;replace F:=fc jh (fc ji (fc jj (fc jk F)));refine KR hS F ?_;obtain⟨jg,jf,je,h⟩:=un h;exact Ai hS (fc je (fc jf (fc jg F))) h
end
section
attribute [local irreducible] Ax BO BB Bj BC Bk AY BD BK Cq
def CF(N:Nat)(m1:Int)(m2:Int)(m3:Int)(m4:Int)(m5:Bool)(x6:Int):Option Bool:=some (decide (m2=x6))
@[go_sem] def Aer(N:Nat):Spec:=p0<|pG<|pI λm1=>pI λm2=>pI λm3=>pI λm4=>pB λm5=>pE<|pO<|pI λx6=>pE<|pE<|pF (CF N m1 m2 m3 m4 m5 x6) false λr=>.b r
theorem Wu(N:Nat):AG Tryz.prog 190 (Aer N):=by
 refine Ar x190.ok<|Aw<|Aa λm1=>Aa λm2=>Aa λm3=>Aa λm4=>AX λm5=>Ad<|Ii<|Aa λx6=>Ad<|Ad<|As λr h=>wx x190 (Aj) λ_ hS F=>?_
 dsimp only[x190,Ah];unfold CF at h;exact Ai hS F h
def GW(N:Nat)(m7:Int)(m8:Int)(m9:Int)(ei:Int)(eh:Bool)(x12:Int):Option Bool:=some (decide (m7=x12))
@[go_sem] def Aes(N:Nat):Spec:=p0<|pG<|pI λm7=>pI λm8=>pI λm9=>pI λei=>pB λeh=>pE<|pO<|pI λx12=>pE<|pE<|pF (GW N m7 m8 m9 ei eh x12) false λr=>.b r
theorem zZ(N:Nat):AG Tryz.prog 196 (Aes N):=by
 refine Ar x196.ok<|Aw<|Aa λm7=>Aa λm8=>Aa λm9=>Aa λei=>AX λeh=>Ad<|Ii<|Aa λx12=>Ad<|Ad<|As λr h=>wx x196 (Aj) λ_ hS F=>?_
 dsimp only[x196,Ah];unfold GW at h;exact Ai hS F h
def Lf(N:Nat)(ee:Int)(dh:Int)(d9:Int)(d8:Int)(d7:Bool)(x18:Int)(x19:Int)(x20:Int)(x21:Int)(x22:List (Int×Int))(x23:Int)(x24:Int)(zR:Int)(x26:Int)(x27:Int)(gD:Int)(x29:Int)(T1:Int)(x31:Int)(x32:Bool):Option Bool:=some (decide (dh=zR))
@[go_sem] def Aet(N:Nat):Spec:=p0<|pG<|pI λee=>pI λdh=>pI λd9=>pI λd8=>pB λd7=>pE<|pO<|pI λx18=>pI λx19=>pI λx20=>pI λx21=>pR Aq λx22=>pI λx23=>pI λx24=>pI λzR=>pI λx26=>pI λx27=>pI λgD=>pI λx29=>pI λT1=>pI λx31=>pB λx32=>pE<|pE<|pF (Lf N ee dh d9 d8 d7 x18 x19 x20 x21 x22 x23 x24 zR x26 x27 gD x29 T1 x31 x32) false λr=>.b r
theorem Aaa(N:Nat):AG Tryz.prog 147 (Aet N):=by
 refine Ar x147.ok<|Aw<|Aa λee=>Aa λdh=>Aa λd9=>Aa λd8=>AX λd7=>Ad<|Ii<|Aa λx18=>Aa λx19=>Aa λx20=>Aa λx21=>QI λx22=>Aa λx23=>Aa λx24=>Aa λzR=>Aa λx26=>Aa λx27=>Aa λgD=>Aa λx29=>Aa λT1=>Aa λx31=>AX λx32=>Ad<|Ad<|As λr h=>wx x147 (Aj) λ_ hS F=>?_
 dsimp only[x147,Ah,Aq];unfold Lf at h;exact Ai hS F h
def F0(N:Nat)(dg:Int)(dz:Int)(dw:Int)(du:Int)(dt:Bool)(ay:Int):Option Int:=(F3 N dg ay).bind λfm=>some fm
@[go_sem] def Aeu(N:Nat):Spec:=p0<|pG<|pI λdg=>pI λdz=>pI λdw=>pI λdu=>pB λdt=>pE<|pI λay=>pE<|pF (F0 N dg dz dw du dt ay) 0 λr=>.i r
theorem Aab(N:Nat):AG Tryz.prog 167 (Aeu N):=by
 refine Ar x167.ok<|Aw<|Aa λdg=>Aa λdz=>Aa λdw=>Aa λdu=>AX λdt=>Ad<|Aa λay=>Ad<|As λr h=>wx x167 (Ab (cI N)<|Aj) λ_ hS F=>?_
 dsimp only[x167,Ah];unfold F0 at h;obtain⟨fm,e9,h⟩:=un h;exact Ai hS (fc e9 F) h
def Bc(N:Nat)(s41:List (Int×Int×Int×Int×Bool))(bi:Int):Nat->Int->Option (Sum Unit Int)|0,_=>none|n+1,gI=>bif decide (gI<(s41.length:Int))then((A7 s41 gI).bind λ(x54,xP,x56,x57,x58)=>(CF N x54 xP x56 x57 x58 bi).bind λfj=>bif fj then(some (.inr gI))else(gd (Af (gI+1))<|Bc N s41 bi n (gI+1)))else(some (.inl ()))
def Bt(N:Nat)(s41:List (Int×Int×Int×Int×Bool))(bi:Int):Option Int:=(Bc N s41 bi N 0).bind λdp=>match dp with|.inl ()=>(some (-1))|.inr gg=>(some gg)
@[go_sem] def dE(N:Nat):Spec:=p0<|pS AA λs41=>pL 190<|pO<|pI λbi=>pE<|pE<|pE<|pF (Bt N s41 bi) 0 λr=>.i r
theorem Rh(N:Nat):AG Tryz.prog 191 (dE N):=by
 refine Ar x191.ok<|AF λs41=>Kn<|Ii<|Aa λbi=>Ad<|Ad<|Ad<|As λr h=>wx x191 (Ab (Wu N)<|Aj) λ_ hS F=>?_
 dsimp only[x191,Ah,AA];unfold Bt at h;obtain⟨dp,cj,h⟩:=un h;refine go hS F ?_;refine Bz dp (λz:Nat=>⟨[],[],z⟩) (λz=>(.inl ():Sum Unit Int)) (.x 0) ?_ ?_
 ·refine Bp (λn (y:Int×Nat)=>Bc N s41 bi n y.1) (λy=>⟨[(0,AS s41),(1,.clo (.func 190) [] [.ro [.i bi] 0]),(7,.i (s41.length:Int)),(8,.i y.1)],[],y.2⟩) (0,2) cj (Ch F) ?_;rintro n ⟨gI,fr⟩ ab;simp only[Bc]at ab;refine An hS F ab (λ_ ab=>?_) (λ_ ab=>?_)
  ·obtain⟨⟨x54,xP,x56,x57,x58⟩,fh,ab⟩:=un ab;obtain⟨gm,F⟩:=Cb BZ fh F;obtain⟨fj,e8,ab⟩:=un ab;replace F:=fc e8 F;refine An hS F ab (λ_ ab=>?_) (λ_ ab=>?_)
   ·obtain rfl:=yJ ab;exact Ai hS F h
   ·obtain⟨ej,ab⟩:=un ab;exact Cd hS F (n,gI+1,fr+1+1+1+1) ab
  ·exact B4 hS F (fr+1) ab
 ·rintro gw rfl;exact Ai hS F h
def Bd(N:Nat)(s67:List (Int×Int×Int×Int×Bool))(bh:Int):Nat->Int->Option (Sum Unit Int)|0,_=>none|n+1,x79=>bif decide (x79<(s67.length:Int))then((A7 s67 x79).bind λ(x80,x81,gM,pK,pV)=>(GW N x80 x81 gM pK pV bh).bind λr86=>bif r86 then(some (.inr x79))else(gd (Af (x79+1))<|Bd N s67 bh n (x79+1)))else(some (.inl ()))
def Bu(N:Nat)(s67:List (Int×Int×Int×Int×Bool))(bh:Int):Option Int:=(Bd N s67 bh N 0).bind λdm=>match dm with|.inl ()=>(some (-1))|.inr gc=>(some gc)
@[go_sem] def dF(N:Nat):Spec:=p0<|pS AA λs67=>pL 196<|pO<|pI λbh=>pE<|pE<|pE<|pF (Bu N s67 bh) 0 λr=>.i r
theorem Ri(N:Nat):AG Tryz.prog 191 (dF N):=by
 refine Ar x191.ok<|AF λs67=>Kn<|Ii<|Aa λbh=>Ad<|Ad<|Ad<|As λr h=>wx x191 (Ab (zZ N)<|Aj) λ_ hS F=>?_
 dsimp only[x191,Ah,AA];unfold Bu at h;obtain⟨dm,cj,h⟩:=un h;refine go hS F ?_;refine Bz dm (λz:Nat=>⟨[],[],z⟩) (λz=>(.inl ():Sum Unit Int)) (.x 0) ?_ ?_
 ·refine Bp (λn (y:Int×Nat)=>Bd N s67 bh n y.1) (λy=>⟨[(0,AS s67),(1,.clo (.func 196) [] [.ro [.i bh] 0]),(7,.i (s67.length:Int)),(8,.i y.1)],[],y.2⟩) (0,2) cj (Ch F) ?_;rintro n ⟨x79,fq⟩ ab;simp only[Bd]at ab;refine An hS F ab (λ_ ab=>?_) (λ_ ab=>?_)
  ·obtain⟨⟨x80,x81,gM,pK,pV⟩,fg,ab⟩:=un ab;obtain⟨gj,F⟩:=Cb BZ fg F;obtain⟨r86,eu,ab⟩:=un ab;replace F:=fc eu F;refine An hS F ab (λ_ ab=>?_) (λ_ ab=>?_)
   ·obtain rfl:=yJ ab;exact Ai hS F h
   ·obtain⟨ej,ab⟩:=un ab;exact Cd hS F (n,x79+1,fq+1+1+1+1) ab
  ·exact B4 hS F (fq+1) ab
 ·rintro gv rfl;exact Ai hS F h
def CB(N:Nat)(s93:List (Int×Int×Int×Int×Bool))(bg:Int)(bf:Int)(be:Int)(bb:Int)(ba:List (Int×Int))(az:Int)(av:Int)(au:Int)(aq:Int)(an:Int)(am:Int)(ak:Int)(aj:Int)(ai:Int)(ah:Bool):Nat->Int->Option (Sum Unit Int)|0,_=>none|n+1,x119=>bif decide (x119<(s93.length:Int))then((A7 s93 x119).bind λ(x120,x121,zS,x123,x124)=>(Lf N x120 x121 zS x123 x124 bg bf be bb ba az av au aq an am ak aj ai ah).bind λcq=>bif cq then(some (.inr x119))else(gd (Af (x119+1))<|CB N s93 bg bf be bb ba az av au aq an am ak aj ai ah n (x119+1)))else(some (.inl ()))
def DU(N:Nat)(s93:List (Int×Int×Int×Int×Bool))(bg:Int)(bf:Int)(be:Int)(bb:Int)(ba:List (Int×Int))(az:Int)(av:Int)(au:Int)(aq:Int)(an:Int)(am:Int)(ak:Int)(aj:Int)(ai:Int)(ah:Bool):Option Int:=(CB N s93 bg bf be bb ba az av au aq an am ak aj ai ah N 0).bind λci=>match ci with|.inl ()=>(some (-1))|.inr dl=>(some dl)
@[go_sem] def dG(N:Nat):Spec:=p0<|pS AA λs93=>pL 147<|pO<|pI λbg=>pI λbf=>pI λbe=>pI λbb=>pR Aq λba=>pI λaz=>pI λav=>pI λau=>pI λaq=>pI λan=>pI λam=>pI λak=>pI λaj=>pI λai=>pB λah=>pE<|pE<|pE<|pF (DU N s93 bg bf be bb ba az av au aq an am ak aj ai ah) 0 λr=>.i r
theorem XH(N:Nat):AG Tryz.prog 191 (dG N):=by
 refine Ar x191.ok<|AF λs93=>Kn<|Ii<|Aa λbg=>Aa λbf=>Aa λbe=>Aa λbb=>QI λba=>Aa λaz=>Aa λav=>Aa λau=>Aa λaq=>Aa λan=>Aa λam=>Aa λak=>Aa λaj=>Aa λai=>AX λah=>Ad<|Ad<|Ad<|As λr h=>wx x191 (Ab (Aaa N)<|Aj) λ_ hS F=>?_
 dsimp only[x191,Ah,Aq,AA];unfold DU at h;obtain⟨ci,cj,h⟩:=un h;refine go hS F ?_;refine Bz ci (λz:Nat=>⟨[],[],z⟩) (λz=>(.inl ():Sum Unit Int)) (.x 0) ?_ ?_
 ·refine Bp (λn (y:Int×Nat)=>CB N s93 bg bf be bb ba az av au aq an am ak aj ai ah n y.1) (λy=>⟨[(0,AS s93),(1,.clo (.func 147) [] [.ro [.i bg,.i bf,.i be,.i bb,BP ba,.i az,.i av,.i au,.i aq,.i an,.i am,.i ak,.i aj,.i ai,.b ah] 0]),(7,.i (s93.length:Int)),(8,.i y.1)],[],y.2⟩) (0,2) cj (Ch F) ?_;rintro n ⟨x119,db⟩ ab;simp only[CB]at ab;refine An hS F ab (λ_ ab=>?_) (λ_ ab=>?_)
  ·obtain⟨⟨x120,x121,zS,x123,x124⟩,da,ab⟩:=un ab;obtain⟨fp,F⟩:=Cb BZ da F;obtain⟨cq,cy,ab⟩:=un ab;replace F:=fc cy F;refine An hS F ab (λ_ ab=>?_) (λ_ ab=>?_)
   ·obtain rfl:=yJ ab;exact Ai hS F h
   ·obtain⟨ej,ab⟩:=un ab;exact Cd hS F (n,x119+1,db+1+1+1+1) ab
  ·exact B4 hS F (db+1) ab
 ·rintro gt rfl;exact Ai hS F h
def CC(N:Nat)(aw:List (Int×Int×Int×Int×Bool))(ce:Int)(b9:Int)(b7:Int)(bz:Int)(bw:List (Int×Int))(bv:Int)(bu:Int)(br:Int)(bq:Int)(bp:Int)(bo:Int)(bn:Int)(bm:Int)(bl:Int)(bj:Bool):Option Bool:=(DU N aw ce b9 b7 bz bw bv bu br bq bp bo bn bm bl bj).bind λco=>some (decide (0<=co))
@[go_sem] def dH(N:Nat):Spec:=p0<|pS AA λaw=>pL 147<|pO<|pI λce=>pI λb9=>pI λb7=>pI λbz=>pR Aq λbw=>pI λbv=>pI λbu=>pI λbr=>pI λbq=>pI λbp=>pI λbo=>pI λbn=>pI λbm=>pI λbl=>pB λbj=>pE<|pE<|pE<|pF (CC N aw ce b9 b7 bz bw bv bu br bq bp bo bn bm bl bj) false λr=>.b r
theorem XI(N:Nat):AG Tryz.prog 146 (dH N):=by
 refine Ar x146.ok<|AF λaw=>Kn<|Ii<|Aa λce=>Aa λb9=>Aa λb7=>Aa λbz=>QI λbw=>Aa λbv=>Aa λbu=>Aa λbr=>Aa λbq=>Aa λbp=>Aa λbo=>Aa λbn=>Aa λbm=>Aa λbl=>AX λbj=>Ad<|Ad<|Ad<|As λr h=>wx x146 (Ab (XH N)<|Aj) λ_ hS F=>?_
 dsimp only[x146,Ah,Aq,AA];unfold CC at h;obtain⟨co,cu,h⟩:=un h;exact Ai hS (fc cu F) h
def AT(N:Nat)(x151:List (Int×Int×Int×Int×Bool))(aa:Int):Nat->Int->Int->Option Int|0,_,_=>none|n+1,ae,af=>bif decide (ae<af)then(gd (Af (ae+af))<|(A7 x151 (IntKind.wrap .i64 (CW .shr .u64 (IntKind.wrap .u64 (ae+af)) 1))).bind λ(x165,x166,x167,cm,x169)=>(F0 N x165 x166 x167 cm x169 aa).bind λcn=>bif decide (cn<0)then(gd (Af ((IntKind.wrap .i64 (CW .shr .u64 (IntKind.wrap .u64 (ae+af)) 1))+1))<|AT N x151 aa n ((IntKind.wrap .i64 (CW .shr .u64 (IntKind.wrap .u64 (ae+af)) 1))+1) af)else(AT N x151 aa n ae (IntKind.wrap .i64 (CW .shr .u64 (IntKind.wrap .u64 (ae+af)) 1))))else(some ae)
def BE(N:Nat)(x151:List (Int×Int×Int×Int×Bool))(aa:Int):Option (Int×Bool):=(AT N x151 aa N 0 (x151.length:Int)).bind λi177=>gd ((decide (i177<(x151.length:Int)))=true->(0<=i177/\i177<(x151.length:Int)))<|gd ((decide (i177<(x151.length:Int)))=true->((F0 N ((x151.getD i177.toNat (0,0,0,0,false)).1) ((x151.getD i177.toNat (0,0,0,0,false)).2.1) ((x151.getD i177.toNat (0,0,0,0,false)).2.2.1) ((x151.getD i177.toNat (0,0,0,0,false)).2.2.2.1) ((x151.getD i177.toNat (0,0,0,0,false)).2.2.2.2) aa).isSome=true))<|some (i177,(decide (i177<(x151.length:Int)))&&(decide ((F0 N ((x151.getD i177.toNat (0,0,0,0,false)).1) ((x151.getD i177.toNat (0,0,0,0,false)).2.1) ((x151.getD i177.toNat (0,0,0,0,false)).2.2.1) ((x151.getD i177.toNat (0,0,0,0,false)).2.2.2.1) ((x151.getD i177.toNat (0,0,0,0,false)).2.2.2.2) aa).getD 0=0)))
@[go_sem] def dI(N:Nat):Spec:=p0<|pS AA λx151=>pI λaa=>pL 167<|pE<|pE<|pF (BE N x151 aa) (0,false) λr=>.tup [.i r.1,.b r.2]
theorem XJ(N:Nat):AG Tryz.prog 166 (dI N):=by
 refine Ar x166.ok<|AF λx151=>Aa λaa=>Kn<|Ad<|Ad<|As λr h=>wx x166 (Ab (Aab N)<|Aj) λ_ hS F=>?_
 dsimp only[x166,Ah,AA];unfold BE at h;obtain⟨dq,cj,h⟩:=un h;refine go hS F ?_;refine Bz dq (λz:Int×Nat=>⟨[(0,AS x151),(1,.i aa),(2,.clo (.func 167) [] []),(8,.i (x151.length:Int)),(9,.i z.1)],[],z.2⟩) (λz=>(z.1:Int)) (.x 0) ?_ ?_
 ·refine Bp (λn (y:Int×Int×Nat)=>AT N x151 aa n y.1 y.2.1) (λy=>⟨[(0,AS x151),(1,.i aa),(2,.clo (.func 167) [] []),(8,.i (x151.length:Int)),(9,.i y.1),(10,.i y.2.1)],[],y.2.2⟩) (0,(x151.length:Int),3) cj (Ch F) ?_;rintro n ⟨ae,af,ck⟩ ab;simp only[AT]at ab;refine An hS F ab (λ_ ab=>?_) (λ_ ab=>?_)
  ·obtain⟨ej,⟨x165,x166,x167,cm,x169⟩,cz,ab⟩:=un ab;obtain⟨fo,F⟩:=Cb BZ cz F;obtain⟨cn,cr,ab⟩:=un ab;replace F:=fc cr F;refine An hS F ab (λ_ ab=>?_) (λ_ ab=>?_)
   ·obtain⟨gu,ab⟩:=un ab;exact Cd hS F (n,(IntKind.wrap .i64 (CW .shr .u64 (IntKind.wrap .u64 (ae+af)) 1))+1,af,ck+1+1+1+1) ab
   ·exact Cd hS F (n,ae,IntKind.wrap .i64 (CW .shr .u64 (IntKind.wrap .u64 (ae+af)) 1),ck+1+1+1+1) ab
  ·exact B4 hS F (ae,ck+1) ab
 ·rintro⟨i177,gr⟩ rfl;obtain⟨gi,gh,h⟩:=un h;by_cases hi:i177<(x151.length:Int)
  ·have hd:decide (i177<(x151.length:Int))=true:=aA hi;obtain⟨c,hc⟩:=yX (gh hd);have hq:=(Cb BZ (Ou (0,0,0,0,false) (gi hd).1 hi) F).2.1;exact Ai hS (fc hc (fc hd (fc hq F))) h
  ·have hd:decide (i177<(x151.length:Int))=false:=aB hi;exact Ai hS (fc (bI BZ hi) (fc hd F)) h
end
attribute [local irreducible] Ax BO BB Bj BC Bk AY BD BK Cq
def Kq(x:List (Int×Int)):List AV:=[BP x]
def SC:List AV->List (Int×Int)|[.sl _ _ a1 _]=>(a1.map Jx)|_=>[]
def Zt:Rw (List (Int×Int)):=⟨1,Kq,SC,[.sl 0 true [] []]⟩
def QP(l:List (List (Int×Int))):AV:=.sl 1 false (l.map Kq) [.sl 0 true [] []]
def AbW(l:List (List (Int×Int))):AV:=.sl 1 true (l.map Kq) [.sl 0 true [] []]
attribute [go_sem] Zt QP AbW Kq SC
def Bq(N:Nat)(slices1478:List (List (Int×Int))):Nat->Int->Int->Option Int|0,_,_=>none|n+1,aa,ai=>bif decide (ai<(slices1478.length:Int))then((A7 slices1478 ai).bind λx1485=>gd (Af (aa+(x1485.length:Int)))<|gd ((decide (aa+(x1485.length:Int)<0))=false)<|gd (Af (ai+1))<|Bq N slices1478 n (aa+(x1485.length:Int)) (ai+1))else(some aa)
def Br(N:Nat)(slices1478:List (List (Int×Int))):Nat->Int->(List (Int×Int))->Option ((List (Int×Int)))|0,_,_=>none|n+1,ah,l1512=>bif decide (ah<(slices1478.length:Int))then((A7 slices1478 ah).bind λx1513=>gd ((l1512.length+x1513.length)*16<=140737488355328)<|gd (Af (ah+1))<|Br N slices1478 n (ah+1) (l1512++x1513))else(some l1512)
def C7(N:Nat)(slices1478:List (List (Int×Int))):Nat->Int->(List (Int×Int))->Option ((List (Int×Int)))|0,_,_=>none|n+1,af,l1530=>bif decide (af<(slices1478.length:Int))then((A7 slices1478 af).bind λx1531=>gd ((l1530.length+x1531.length)*16<=140737488355328)<|gd (Af (af+1))<|C7 N slices1478 n (af+1) (l1530++x1531))else(some l1530)
def BX(N:Nat)(slices1478:List (List (Int×Int))):Option (List (Int×Int)):=(Bq N slices1478 N 0 0).bind λab=>gd ((decide (ab<0))=false)<|gd (Af (ab-0))<|bif decide (0<ab-0)then(gd (0<=0/\0<=0/\0<=0)<|gd (0<ab-0)<|gd ((ab-0)*16<=140737488355328)<|(Br N slices1478 N 0 []).bind λaq=>some aq)else((C7 N slices1478 N 0 []).bind λan=>some an)
@[go_sem] def AdU(N:Nat):Spec:=p0<|pD Zt λslices1478=>pE<|pF (BX N slices1478) [] λr=>BP r
theorem yK(N:Nat):AG Tryz.prog 193 (AdU N):=by
 refine Ar x193.ok<|AM λslices1478=>Ad<|As λr h=>wx x193 (rL<|Aj) λ_ hS F=>?_
 dsimp only[x193,Ah,Zt];unfold BX at h;obtain⟨bf,b9,h⟩:=un h;refine go hS F ?_;refine Bz bf (λz:Int×Nat=>⟨[(0,QP slices1478),(3,.i z.1)],[],z.2⟩) (λz=>(z.1:Int)) (.x 0) ?_ ?_
 ·refine Bp (λn (y:Int×Int×Nat)=>Bq N slices1478 n y.1 y.2.1) (λy=>⟨[(0,QP slices1478),(3,.i y.1),(9,QP slices1478),(10,.i (slices1478.length:Int)),(11,.i y.2.1)],[],y.2.2⟩) (0,0,3) b9 (Ch F) ?_;rintro n ⟨aa,ai,aw⟩ am;simp only[Bq]at am;refine An hS F am (λ_ am=>?_) (λ_ am=>?_)
  ·obtain⟨x1485,ba,cj,bp,am⟩:=un am;obtain⟨bi,F⟩:=Cb Kq ba F;refine go hS F ?_;refine cb F (decide (aa+(x1485.length:Int)<0)) (λhc5=>?_) (λhc5=>?_)
   ·exact Bool.noConfusion (hc5.symm.trans bp)
   obtain⟨ci,am⟩:=un am;exact Cd hS F (n,aa+(x1485.length:Int),ai+1,aw+1+1+1+1+1) am
  ·exact B4 hS F (aa,aw+1) am
 ·rintro⟨ab,ae⟩ rfl;refine go hS F ?_;refine GO hS 1 x205.hf x205.hc x205.hn x205.ok rfl (ev F) (ev F) ?_ rfl (ev F) (kM rfl) λhb=>?_
  ·exact Bl hS F
  dsimp only[x205,Ah];obtain⟨bo,h⟩:=un h;refine go hS F ?_;refine cb F (decide (ab<0)) (λhc8=>?_) (λhc8=>?_)
  ·exact Bool.noConfusion (hc8.symm.trans bo)
  obtain⟨ce,h⟩:=un h;refine An hS F h (λ_ h=>?_) (λ_ h=>?_)
  ·obtain⟨b7,bz,bw,h⟩:=un h;obtain⟨be,bl,h⟩:=un h;refine go hS F ?_;refine Bz be (λz:(List (Int×Int))×Nat=>⟨[(6,.own (508,ae+1+1+1+1+1+1) z.1.length)],[(.a (508,ae+1+1+1+1+1+1),LK z.1)],z.2⟩) (λz=>(z.1:(List (Int×Int)))) (.x 2) ?_ ?_
   ·refine Bp (λn (y:Int×(List (Int×Int))×Nat)=>Br N slices1478 n y.1 y.2.1) (λy=>⟨[(6,.own (508,ae+1+1+1+1+1+1) y.2.1.length),(25,QP slices1478),(26,.i (slices1478.length:Int)),(27,.i y.1)],[(.a (508,ae+1+1+1+1+1+1),LK y.2.1)],y.2.2⟩) (0,[],ae+1+1+1+1+1+1+1+1+1) bl (Ch F) ?_;rintro n ⟨ah,l1512,av⟩ ak;simp only[Br]at ak;refine An hS F ak (λ_ ak=>?_) (λ_ ak=>?_)
    ·obtain⟨x1513,az,bv,bu,ak⟩:=un ak;obtain⟨bh,F⟩:=Cb Kq az F;exact Cd hS F (n,ah+1,l1512++x1513,av+1+1+1+1) ak
    ·exact B4 hS F (l1512,av+1) ak
   ·rintro⟨aq,bn⟩ rfl;exact Ai hS F h
  ·refine go hS F ?_;refine DT 1000001 6 2 [.i 0,.i 0] (by show(6:Nat)<36;omega) (by omega) (ev F) ?_;obtain⟨bb,bj,h⟩:=un h;refine go hS F ?_;refine Bz bb (λz:(List (Int×Int))×Nat=>⟨[(6,.own (1000001,ae+1+1+1+1+1+1+1+1+1) z.1.length)],[(.a (1000001,ae+1+1+1+1+1+1+1+1+1),LK z.1)],z.2⟩) (λz=>(z.1:(List (Int×Int)))) (.x 2) ?_ ?_
   ·refine Bp (λn (y:Int×(List (Int×Int))×Nat)=>C7 N slices1478 n y.1 y.2.1) (λy=>⟨[(6,.own (1000001,ae+1+1+1+1+1+1+1+1+1) y.2.1.length),(25,QP slices1478),(26,.i (slices1478.length:Int)),(27,.i y.1)],[(.a (1000001,ae+1+1+1+1+1+1+1+1+1),LK y.2.1)],y.2.2⟩) (0,[],ae+1+1+1+1+1+1+1+1+1) bj (Ch F) ?_;rintro n ⟨af,l1530,au⟩ aj;simp only[C7]at aj;refine An hS F aj (λ_ aj=>?_) (λ_ aj=>?_)
    ·obtain⟨x1531,ay,br,bq,aj⟩:=un aj;obtain⟨bg,F⟩:=Cb Kq ay F;exact Cd hS F (n,af+1,l1530++x1531,au+1+1+1+1) aj
    ·exact B4 hS F (l1530,au+1) aj
   ·rintro⟨an,bm⟩ rfl;exact Ai hS F h
