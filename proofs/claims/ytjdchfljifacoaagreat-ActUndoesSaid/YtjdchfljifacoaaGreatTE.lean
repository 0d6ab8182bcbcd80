import Derived.Test.YtjdchfljifacoaaGreatU1
set_option linter.all false
set_option maxRecDepth 100000
set_option maxHeartbeats 8000000
namespace Go.Proofs.YtjdchfljifacoaaGreat.Am
open Go
section
attribute [local irreducible] Ax BO BB Bj BC Bk AY BD BK Cq
theorem AcQ{S F G:Prop}{E:Type}{a r:E}(hS:S)(f:F)(h:some a=some r)(t:S->(r=a/\F)->G:=by
 intro hS f
 repeat' (first
  |(with_reducible (first|apply DD|apply EA|apply Eu|apply FL|apply DE|apply DF|apply GD|apply GE);(·(first|exact Ctx.fn_ok hS|exact Ctx.rd_ok hS|assumption|exact yT|exact Ctx.rdG_ok hS));iterate 2 (·(simp only[go_sem,seval,f]<;>eq_refl)))
  |with_reducible (first|apply Dz|apply En|apply Di|apply Dj|apply CX|apply Cw|apply CK|apply DW|apply Ec|apply Eo|apply Ep|apply Er|apply Es)
  |(with_reducible apply Et;(·first|rfl|decide))
  |(with_reducible apply A4;(·simp))
  |with_reducible (first|apply HV|apply HW|apply HX|apply DB|apply DC|apply Ex|apply Ey|apply Ez|apply yT|apply And.intro yT yT)
  |(fail_if_success with_reducible apply G1);(fail_if_success with_reducible apply Ew);first|with_reducible apply And.intro|omega|(simp only[go_sem,seval,f];done)|with_reducible assumption|(refine And.intro ?_ ?_)|(intro hg;simp_all;done)|decide|grind)
 refine uH (by simp only[go_sem,seval,f]<;>eq_refl) (by simp only[go_sem,seval,f]) (by simp only[go_sem,seval,f]) (by first|(simp only[go_sem,seval,f];done)|(simp only[go_sem,seval,f];rfl)) (by simp only[go_sem,seval,f]<;>rfl) rfl):G:=t hS ⟨(yJ h).symm,f⟩
def qD(N:Nat):Nat->List AV->List AV->Option (Prop×AV):=λf args vs=>if f=135 then(match args with|[.box _ 0,.agg [.v (.int .i64 a0),.v (.int .i64 a1),.v (.int .i64 a2),.v (.int .i64 a3),.sl _ _ _ _,.v (.int .i64 a5),.v (.int .i64 a6),.v (.int .i64 a7),.v (.int .i64 a8),.v (.int .i64 a9),.v (.int .i64 a10),.v (.int .i64 a11),.v (.int .i64 a12),.v (.int .i64 a13),.v (.bool a14)]]=>some (True,Ay [(2,(0,0,0,[],0,0),a1,0,0,(0,0,0,0,false))])|_=>none)else if f=158 then(match args with|[.box _ 0,.agg [.v (.int .i64 a0),.v (.int .i64 a1),.v (.int .i64 a2),.v (.int .i64 a3),.sl _ _ _ _,.v (.int .i64 a5),.v (.int .i64 a6),.v (.int .i64 a7),.v (.int .i64 a8),.v (.int .i64 a9),.v (.int .i64 a10),.v (.int .i64 a11),.v (.int .i64 a12),.v (.int .i64 a13),.v (.bool a14)]]=>some (Af (-a8)/\Af (-a9),Ay [(4,(0,0,0,[],0,0),a7,-a8,-a9,(0,0,0,0,false))])|_=>none)else if f=172 then(match args with|[.box _ 0,.agg [.v (.int .i64 a0),.v (.int .i64 a1),.v (.int .i64 a2),.v (.int .i64 a3),.sl _ _ _ _,.v (.int .i64 a5),.v (.int .i64 a6),.v (.int .i64 a7),.v (.int .i64 a8),.v (.int .i64 a9),.v (.int .i64 a10),.v (.int .i64 a11),.v (.int .i64 a12),.v (.int .i64 a13),.v (.bool a14)]]=>some (True,Ay [(7,(0,0,0,[],0,0),a7,0,0,(0,0,0,0,false))])|_=>none)else if f=174 then(match args with|[.box _ 0,.agg [.v (.int .i64 a0),.v (.int .i64 a1),.v (.int .i64 a2),.v (.int .i64 a3),.sl _ _ _ _,.v (.int .i64 a5),.v (.int .i64 a6),.v (.int .i64 a7),.v (.int .i64 a8),.v (.int .i64 a9),.v (.int .i64 a10),.v (.int .i64 a11),.v (.int .i64 a12),.v (.int .i64 a13),.v (.bool a14)]]=>some (True,Ay [(6,(0,0,0,[],0,0),a7,0,0,(0,0,0,0,false))])|_=>none)else
 if f=145 then(match args,vs with
  |[.box _ 0,.agg [.v (.int .i64 a0),.v (.int .i64 a1),.v (.int .i64 a2),.v (.int .i64 a3),.sl y4 false s4 d4,.v (.int .i64 a5),.v (.int .i64 a6),.v (.int .i64 a7),.v (.int .i64 a8),.v (.int .i64 a9),.v (.int .i64 a10),.v (.int .i64 a11),.v (.int .i64 a12),.v (.int .i64 a13),.v (.bool a14)]],[.agg [.sl y _ s _,.sl y2 _ s2 _],_]=>match N2 N (s.map B1) (s2.map E8) a0 a1 a2 a3 (s4.map Jx) a5 a6 a7 a8 a9 a10 a11 a12 a13 a14 with|some rr=>some (((y=6\/s=[])/\Hk s ((s.map B1).map Au))/\((y2=5\/s2=[])/\s2=(s2.map E8).map BZ)/\((y4=2/\d4=[.i 0,.i 0])/\s4=(s4.map Jx).map Cz),pZ rr)|none=>none
  |_,_=>none)else qU N f args vs
theorem N3(N:Nat):∀f args vs vc r,qD N f args vs=some (vc,r)->vc->Dh Tryz.prog f/\IA Tryz.prog f args vs r:=by
 intro f args vs vc r h hv;unfold qD at h;split at h
 ·rename_i hf;subst hf;split at h
  ·cases h
   exact⟨x135.ok,mQ⟩
  ·cases h
 split at h
 ·rename_i hf;subst hf;split at h
  ·cases h
   exact⟨x158.ok,fH hv.1 hv.2⟩
  ·cases h
 split at h
 ·rename_i hf;subst hf;split at h
  ·cases h
   exact⟨x172.ok,mR⟩
  ·cases h
 split at h
 ·rename_i hf;subst hf;split at h
  ·cases h
   exact⟨x174.ok,fI⟩
  ·cases h
 split at h
 ·rename_i hf;subst hf;split at h
  ·rename_i v2;split at h
   ·rename_i rr hu;cases h
    obtain⟨⟨h1,h2⟩,⟨h3,h4⟩,⟨h5,h6⟩,h7⟩:=hv;refine⟨x145.ok,λU hp xs gl hI hal hx hvs=>?_⟩;have hii:=hvs;simp only[jW,w6,List.cons.injEq,and_true]at hii;have e:=hii.2;rw[show∀l,qv hp (.agg l)=.agg l from λ_=>rfl]at e;subst e;exact mS N h1 h2 h3 h4 ⟨⟨⟨h5,rfl⟩,h6⟩,h7⟩ hu U hp xs gl hI hal hx hvs
   ·cases h
  ·cases h
 ·exact L3 N f args vs vc r h hv
end
section
attribute [local irreducible] Ax BO BB Bj BC Bk AY BD BK Cq
attribute [local go_sem] kF Nj JT JU qU qD pZ qv K2
def Mu(N:Nat)(s1:List (Int×Int×Int×(List (Int×Int))×Int×Int))(s2:List (Int×Int×Int×Int×Bool))(a4:Int)(a5:Int)(a6:Int)(a7:List (Int×Int))(a8:Int)(a9:Int)(jj:Int)(ji:Int)(jh:Int)(jg:Int)(jf:Int)(je:Int)(jd:Int)(jc:Bool):Option ((List (Int×(Int×Int×Int×(List (Int×Int))×Int×Int)×Int×Int×Int×(Int×Int×Int×Int×Bool)))×Bool):=(CZ N s1 s2 1 a4 a5 a6 a7 a8 a9 jj ji jh jg jf je jd jc).bind λ((lq,lm),r20)=>bif decide (r20≠0)then(some ([],false))else((Fj N a4 a5 a6 a7 a8 a9 jj ji jh jg jf je jd jc).bind λl6=>(Fh N s1 s2).bind λ(lj,li)=>some ([(2,(0,0,0,[],0,0),a4,0,0,(0,0,0,0,false))],true))
@[go_sem] def Aa9(N:Nat):Spec:=p0<|pG<|pD Ak λs1=>pD AA λs2=>pE<|pG<|pC 1<|pI λa4=>pI λa5=>pI λa6=>pD Aq λa7=>pI λa8=>pI λa9=>pI λjj=>pI λji=>pI λjh=>pI λjg=>pI λjf=>pI λje=>pI λjd=>pB λjc=>pE<|pE<|pF (Mu N s1 s2 a4 a5 a6 a7 a8 a9 jj ji jh jg jf je jd jc) ([],false) λr=>.tup [Ay r.1,.b r.2]
theorem mH(N:Nat):AG Tryz.prog 24 (Aa9 N):=by
 refine Ar x24.ok<|Aw<|AM λs1=>AM λs2=>Ad<|Aw<|Dn<|Aa λa4=>Aa λa5=>Aa λa6=>AM λa7=>Aa λa8=>Aa λa9=>Aa λjj=>Aa λji=>Aa λjh=>Aa λjg=>Aa λjf=>Aa λje=>Aa λjd=>AX λjc=>Ad<|Ad<|As λr h=>wx x24 (BG (Ab (MW N)<|Ab (Nk N)<|Ab (QZ N)<|Aj) (N3 N) (CP N) H3 (H2 N)) λ_ hS F=>?_
 dsimp only[x24,Ah,Aq,AA,Ak];unfold Mu at h;obtain⟨⟨⟨lq,lm⟩,r20⟩,kh,h⟩:=un h;replace F:=fc kh F;refine An hS F h (λ_ h=>?_) (λ_ h=>?_)
 ·exact E2 hS F h
 ·obtain⟨l6,kg,h⟩:=un h;replace F:=fc kg F;refine KR hS F ?_;obtain⟨⟨lj,li⟩,kf,h⟩:=un h;exact E2 hS (fc kf F) h
def Mv(N:Nat)(Xd:List (Int×Int×Int×(List (Int×Int))×Int×Int))(Wx:List (Int×Int×Int×Int×Bool))(fh:Int)(fg:Int)(e9:Int)(e8:List (Int×Int))(ez:Int)(eu:Int)(ej:Int)(ei:Int)(eh:Int)(ee:Int)(d9:Int)(d8:Int)(d7:Int)(d6:Bool):Option ((List (Int×(Int×Int×Int×(List (Int×Int))×Int×Int)×Int×Int×Int×(Int×Int×Int×Int×Bool)))×Bool):=(CZ N Xd Wx 2 fh fg e9 e8 ez eu ej ei eh ee d9 d8 d7 d6).bind λ((lh,lg),kq)=>bif decide (kq≠0)then(some ([],false))else((Fk N fh fg e9 e8 ez eu ej ei eh ee d9 d8 d7 d6).bind λl5=>(Fh N Xd Wx).bind λ(km,kl)=>(N2 N km kl 2 fh fg e9 e8 ez eu ej ei eh ee d9 d8 d7 d6).bind λl53=>some (l53, !l53.isEmpty))
@[go_sem] def Aba(N:Nat):Spec:=p0<|pG<|pD Ak λXd=>pD AA λWx=>pE<|pG<|pC 2<|pI λfh=>pI λfg=>pI λe9=>pD Aq λe8=>pI λez=>pI λeu=>pI λej=>pI λei=>pI λeh=>pI λee=>pI λd9=>pI λd8=>pI λd7=>pB λd6=>pE<|pE<|pF (Mv N Xd Wx fh fg e9 e8 ez eu ej ei eh ee d9 d8 d7 d6) ([],false) λr=>.tup [Ay r.1,.b r.2]
theorem mI(N:Nat):AG Tryz.prog 24 (Aba N):=by
 refine Ar x24.ok<|Aw<|AM λXd=>AM λWx=>Ad<|Aw<|Dn<|Aa λfh=>Aa λfg=>Aa λe9=>AM λe8=>Aa λez=>Aa λeu=>Aa λej=>Aa λei=>Aa λeh=>Aa λee=>Aa λd9=>Aa λd8=>Aa λd7=>AX λd6=>Ad<|Ad<|As λr h=>wx x24 (BG (Ab (MW N)<|Ab (Nl N)<|Ab (QZ N)<|Aj) (N3 N) (CP N) H3 (H2 N)) λ_ hS F=>?_
 dsimp only[x24,Ah,Aq,AA,Ak];unfold Mv at h;obtain⟨⟨⟨lh,lg⟩,kq⟩,ke,h⟩:=un h;replace F:=fc ke F;refine An hS F h (λ_ h=>?_) (λ_ h=>?_)
 ·exact E2 hS F h
 ·obtain⟨l5,ka,h⟩:=un h;replace F:=fc ka F;refine KR hS F ?_;obtain⟨⟨km,kl⟩,gc,h⟩:=un h;obtain⟨l53,fx,h⟩:=un h;cases l53 with
  |nil=>exact AcQ hS (fc fx (fc gc F)) h
  |cons x xs=>exact E2 hS (fc fx (fc gc F)) h
def Mw(N:Nat)(jk:List (Int×Int×Int×(List (Int×Int))×Int×Int))(YV:List (Int×Int×Int×Int×Bool))(jb:Int)(ja:Int)(i9:Int)(i8:List (Int×Int))(i7:Int)(i6:Int)(i5:Int)(i4:Int)(iz:Int)(iy:Int)(iw:Int)(iv:Int)(ir:Int)(iq:Bool):Option ((List (Int×(Int×Int×Int×(List (Int×Int))×Int×Int)×Int×Int×Int×(Int×Int×Int×Int×Bool)))×Bool):=(CZ N jk YV 3 jb ja i9 i8 i7 i6 i5 i4 iz iy iw iv ir iq).bind λ((lf,kz),kj)=>bif decide (kj≠0)then(some ([],false))else((Fl N jb ja i9 i8 i7 i6 i5 i4 iz iy iw iv ir iq).bind λlz=>some ([],false))
@[go_sem] def Abb(N:Nat):Spec:=p0<|pG<|pD Ak λjk=>pD AA λYV=>pE<|pG<|pC 3<|pI λjb=>pI λja=>pI λi9=>pD Aq λi8=>pI λi7=>pI λi6=>pI λi5=>pI λi4=>pI λiz=>pI λiy=>pI λiw=>pI λiv=>pI λir=>pB λiq=>pE<|pE<|pF (Mw N jk YV jb ja i9 i8 i7 i6 i5 i4 iz iy iw iv ir iq) ([],false) λr=>.tup [Ay r.1,.b r.2]
theorem mJ(N:Nat):AG Tryz.prog 24 (Abb N):=by
 refine Ar x24.ok<|Aw<|AM λjk=>AM λYV=>Ad<|Aw<|Dn<|Aa λjb=>Aa λja=>Aa λi9=>AM λi8=>Aa λi7=>Aa λi6=>Aa λi5=>Aa λi4=>Aa λiz=>Aa λiy=>Aa λiw=>Aa λiv=>Aa λir=>AX λiq=>Ad<|Ad<|As λr h=>wx x24 (BG (Ab (MW N)<|Ab (Nn N)<|Aj) (N3 N) (CP N) H3 (H2 N)) λ_ hS F=>?_
 dsimp only[x24,Ah,Aq,AA,Ak];unfold Mw at h;obtain⟨⟨⟨lf,kz⟩,kj⟩,j9,h⟩:=un h;replace F:=fc j9 F;refine An hS F h (λ_ h=>?_) (λ_ h=>?_)
 ·exact E2 hS F h
 ·obtain⟨lz,j8,h⟩:=un h;replace F:=fc j8 F;refine Om hS F ?_;exact E2 hS F h
def Mx(N:Nat)(Wo:List (Int×Int×Int×(List (Int×Int))×Int×Int))(S2:List (Int×Int×Int×Int×Bool))(ip:Int)(im:Int)(ij:Int)(ii:List (Int×Int))(ig:Int)(ic:Int)(d5:Int)(dz:Int)(dw:Int)(ib:Int)(g9:Int)(g8:Int)(gz:Int)(gy:Bool):Option ((List (Int×(Int×Int×Int×(List (Int×Int))×Int×Int)×Int×Int×Int×(Int×Int×Int×Int×Bool)))×Bool):=(CZ N Wo S2 4 ip im ij ii ig ic d5 dz dw ib g9 g8 gz gy).bind λ((kw,kv),ki)=>bif decide (ki≠0)then(some ([],false))else((Fm N ip im ij ii ig ic d5 dz dw ib g9 g8 gz gy).bind λlr=>(Fh N Wo S2).bind λ(jy,jx)=>gd (Af (-dz))<|gd (Af (-dw))<|some ([(4,(0,0,0,[],0,0),d5,-dz,-dw,(0,0,0,0,false))],true))
@[go_sem] def Abc(N:Nat):Spec:=p0<|pG<|pD Ak λWo=>pD AA λS2=>pE<|pG<|pC 4<|pI λip=>pI λim=>pI λij=>pD Aq λii=>pI λig=>pI λic=>pI λd5=>pI λdz=>pI λdw=>pI λib=>pI λg9=>pI λg8=>pI λgz=>pB λgy=>pE<|pE<|pF (Mx N Wo S2 ip im ij ii ig ic d5 dz dw ib g9 g8 gz gy) ([],false) λr=>.tup [Ay r.1,.b r.2]
theorem mK(N:Nat):AG Tryz.prog 24 (Abc N):=by
 refine Ar x24.ok<|Aw<|AM λWo=>AM λS2=>Ad<|Aw<|Dn<|Aa λip=>Aa λim=>Aa λij=>AM λii=>Aa λig=>Aa λic=>Aa λd5=>Aa λdz=>Aa λdw=>Aa λib=>Aa λg9=>Aa λg8=>Aa λgz=>AX λgy=>Ad<|Ad<|As λr h=>wx x24 (BG (Ab (MW N)<|Ab (No N)<|Ab (QZ N)<|Aj) (N3 N) (CP N) H3 (H2 N)) λ_ hS F=>?_
 dsimp only[x24,Ah,Aq,AA,Ak];unfold Mx at h;obtain⟨⟨⟨kw,kv⟩,ki⟩,j7,h⟩:=un h;replace F:=fc j7 F;refine An hS F h (λ_ h=>?_) (λ_ h=>?_)
 ·exact E2 hS F h
 ·obtain⟨lr,j6,h⟩:=un h;replace F:=fc j6 F;refine KR hS F ?_;obtain⟨⟨jy,jx⟩,gx,h⟩:=un h;obtain⟨kr,l7,h⟩:=un h;exact E2 hS (fc gx F) h
def My(N:Nat)(Tk:List (Int×Int×Int×(List (Int×Int))×Int×Int))(s105:List (Int×Int×Int×Int×Bool))(du:Int)(dt:Int)(dq:Int)(dm:List (Int×Int))(dh:Int)(dg:Int)(de:Int)(db:Int)(da:Int)(cz:Int)(cy:Int)(cu:Int)(cr:Int)(cq:Bool):Option ((List (Int×(Int×Int×Int×(List (Int×Int))×Int×Int)×Int×Int×Int×(Int×Int×Int×Int×Bool)))×Bool):=(CZ N Tk s105 5 du dt dq dm dh dg de db da cz cy cu cr cq).bind λ((jw,jv),fq)=>bif decide (fq≠0)then(some ([],false))else((Fo N du dt dq dm dh dg de db da cz cy cu cr cq).bind λj5=>some ([],false))
@[go_sem] def Abd(N:Nat):Spec:=p0<|pG<|pD Ak λTk=>pD AA λs105=>pE<|pG<|pC 5<|pI λdu=>pI λdt=>pI λdq=>pD Aq λdm=>pI λdh=>pI λdg=>pI λde=>pI λdb=>pI λda=>pI λcz=>pI λcy=>pI λcu=>pI λcr=>pB λcq=>pE<|pE<|pF (My N Tk s105 du dt dq dm dh dg de db da cz cy cu cr cq) ([],false) λr=>.tup [Ay r.1,.b r.2]
theorem mL(N:Nat):AG Tryz.prog 24 (Abd N):=by
 refine Ar x24.ok<|Aw<|AM λTk=>AM λs105=>Ad<|Aw<|Dn<|Aa λdu=>Aa λdt=>Aa λdq=>AM λdm=>Aa λdh=>Aa λdg=>Aa λde=>Aa λdb=>Aa λda=>Aa λcz=>Aa λcy=>Aa λcu=>Aa λcr=>AX λcq=>Ad<|Ad<|As λr h=>wx x24 (BG (Ab (MW N)<|Ab (Np N)<|Aj) (N3 N) (CP N) H3 (H2 N)) λ_ hS F=>?_
 dsimp only[x24,Ah,Aq,AA,Ak];unfold My at h;obtain⟨⟨⟨jw,jv⟩,fq⟩,gw,h⟩:=un h;replace F:=fc gw F;refine An hS F h (λ_ h=>?_) (λ_ h=>?_)
 ·exact E2 hS F h
 ·obtain⟨j5,gv,h⟩:=un h;replace F:=fc gv F;refine Om hS F ?_;exact E2 hS F h
def Mz(N:Nat)(RI:List (Int×Int×Int×(List (Int×Int))×Int×Int))(RG:List (Int×Int×Int×Int×Bool))(co:Int)(cn:Int)(ck:Int)(cj:List (Int×Int))(ci:Int)(ce:Int)(ab:Int)(b9:Int)(b7:Int)(bz:Int)(bw:Int)(bv:Int)(bu:Int)(br:Bool):Option ((List (Int×(Int×Int×Int×(List (Int×Int))×Int×Int)×Int×Int×Int×(Int×Int×Int×Int×Bool)))×Bool):=(CZ N RI RG 6 co cn ck cj ci ce ab b9 b7 bz bw bv bu br).bind λ((ju,jt),fp)=>bif decide (fp≠0)then(some ([],false))else((Fp N co cn ck cj ci ce ab b9 b7 bz bw bv bu br).bind λj4=>(Fh N RI RG).bind λ(js,jr)=>some ([(7,(0,0,0,[],0,0),ab,0,0,(0,0,0,0,false))],true))
@[go_sem] def Abe(N:Nat):Spec:=p0<|pG<|pD Ak λRI=>pD AA λRG=>pE<|pG<|pC 6<|pI λco=>pI λcn=>pI λck=>pD Aq λcj=>pI λci=>pI λce=>pI λab=>pI λb9=>pI λb7=>pI λbz=>pI λbw=>pI λbv=>pI λbu=>pB λbr=>pE<|pE<|pF (Mz N RI RG co cn ck cj ci ce ab b9 b7 bz bw bv bu br) ([],false) λr=>.tup [Ay r.1,.b r.2]
theorem mM(N:Nat):AG Tryz.prog 24 (Abe N):=by
 refine Ar x24.ok<|Aw<|AM λRI=>AM λRG=>Ad<|Aw<|Dn<|Aa λco=>Aa λcn=>Aa λck=>AM λcj=>Aa λci=>Aa λce=>Aa λab=>Aa λb9=>Aa λb7=>Aa λbz=>Aa λbw=>Aa λbv=>Aa λbu=>AX λbr=>Ad<|Ad<|As λr h=>wx x24 (BG (Ab (MW N)<|Ab (Nq N)<|Ab (QZ N)<|Aj) (N3 N) (CP N) H3 (H2 N)) λ_ hS F=>?_
 dsimp only[x24,Ah,Aq,AA,Ak];unfold Mz at h;obtain⟨⟨⟨ju,jt⟩,fp⟩,gu,h⟩:=un h;replace F:=fc gu F;refine An hS F h (λ_ h=>?_) (λ_ h=>?_)
 ·exact E2 hS F h
 ·obtain⟨j4,gt,h⟩:=un h;replace F:=fc gt F;refine KR hS F ?_;obtain⟨⟨js,jr⟩,gr,h⟩:=un h;exact E2 hS (fc gr F) h
def MA(N:Nat)(RH:List (Int×Int×Int×(List (Int×Int))×Int×Int))(RS:List (Int×Int×Int×Int×Bool))(bq:Int)(bp:Int)(bo:Int)(bn:List (Int×Int))(bm:Int)(bl:Int)(aa:Int)(bj:Int)(bi:Int)(bh:Int)(bg:Int)(bf:Int)(be:Int)(bb:Bool):Option ((List (Int×(Int×Int×Int×(List (Int×Int))×Int×Int)×Int×Int×Int×(Int×Int×Int×Int×Bool)))×Bool):=(CZ N RH RS 7 bq bp bo bn bm bl aa bj bi bh bg bf be bb).bind λ((jq,jp),fo)=>bif decide (fo≠0)then(some ([],false))else((Fq N bq bp bo bn bm bl aa bj bi bh bg bf be bb).bind λjz=>(Fh N RH RS).bind λ(jo,jn)=>some ([(6,(0,0,0,[],0,0),aa,0,0,(0,0,0,0,false))],true))
@[go_sem] def Abf(N:Nat):Spec:=p0<|pG<|pD Ak λRH=>pD AA λRS=>pE<|pG<|pC 7<|pI λbq=>pI λbp=>pI λbo=>pD Aq λbn=>pI λbm=>pI λbl=>pI λaa=>pI λbj=>pI λbi=>pI λbh=>pI λbg=>pI λbf=>pI λbe=>pB λbb=>pE<|pE<|pF (MA N RH RS bq bp bo bn bm bl aa bj bi bh bg bf be bb) ([],false) λr=>.tup [Ay r.1,.b r.2]
theorem mN(N:Nat):AG Tryz.prog 24 (Abf N):=by
 refine Ar x24.ok<|Aw<|AM λRH=>AM λRS=>Ad<|Aw<|Dn<|Aa λbq=>Aa λbp=>Aa λbo=>AM λbn=>Aa λbm=>Aa λbl=>Aa λaa=>Aa λbj=>Aa λbi=>Aa λbh=>Aa λbg=>Aa λbf=>Aa λbe=>AX λbb=>Ad<|Ad<|As λr h=>wx x24 (BG (Ab (MW N)<|Ab (Nr N)<|Ab (QZ N)<|Aj) (N3 N) (CP N) H3 (H2 N)) λ_ hS F=>?_
 dsimp only[x24,Ah,Aq,AA,Ak];unfold MA at h;obtain⟨⟨⟨jq,jp⟩,fo⟩,gm,h⟩:=un h;replace F:=fc gm F;refine An hS F h (λ_ h=>?_) (λ_ h=>?_)
 ·exact E2 hS F h
 ·obtain⟨jz,gj,h⟩:=un h;replace F:=fc gj F;refine KR hS F ?_;obtain⟨⟨jo,jn⟩,gi,h⟩:=un h;exact E2 hS (fc gi F) h
def MB(N:Nat)(I9:List (Int×Int×Int×(List (Int×Int))×Int×Int))(Ja:List (Int×Int×Int×Int×Bool))(ba:Int)(az:Int)(ay:Int)(aw:Int)(av:List (Int×Int))(au:Int)(aq:Int)(an:Int)(am:Int)(ak:Int)(aj:Int)(ai:Int)(ah:Int)(af:Int)(ae:Bool):Option ((List (Int×(Int×Int×Int×(List (Int×Int))×Int×Int)×Int×Int×Int×(Int×Int×Int×Int×Bool)))×Bool):=(CZ N I9 Ja ba az ay aw av au aq an am ak aj ai ah af ae).bind λ((jm,jl),fj)=>bif decide (fj≠0)then(some ([],false))else((Fr N ba az ay aw av au aq an am ak aj ai ah af ae).bind λfr=>gd (fr=false)<|some ([],false))
@[go_sem] def Abg(N:Nat):Spec:=p0<|pG<|pD Ak λI9=>pD AA λJa=>pE<|pG<|pI λba=>pI λaz=>pI λay=>pI λaw=>pD Aq λav=>pI λau=>pI λaq=>pI λan=>pI λam=>pI λak=>pI λaj=>pI λai=>pI λah=>pI λaf=>pB λae=>pE<|pE<|pF (MB N I9 Ja ba az ay aw av au aq an am ak aj ai ah af ae) ([],false) λr=>.tup [Ay r.1,.b r.2]
theorem mO(N:Nat):AG Tryz.prog 24 (Abg N):=by
 refine Ar x24.ok<|Aw<|AM λI9=>AM λJa=>Ad<|Aw<|Aa λba=>Aa λaz=>Aa λay=>Aa λaw=>AM λav=>Aa λau=>Aa λaq=>Aa λan=>Aa λam=>Aa λak=>Aa λaj=>Aa λai=>Aa λah=>Aa λaf=>AX λae=>Ad<|Ad<|As λr h=>wx x24 (BG (Ab (MW N)<|Ab (Ns N)<|Aj) (N3 N) (CP N) H3 (H2 N)) λ_ hS F=>?_
 dsimp only[x24,Ah,Aq,AA,Ak];unfold MB at h;obtain⟨⟨⟨jm,jl⟩,fj⟩,gh,h⟩:=un h;replace F:=fc gh F;refine An hS F h (λ_ h=>?_) (λ_ h=>?_)
 ·exact E2 hS F h
 ·obtain⟨fr,gg,kr,h⟩:=un h;replace F:=fc kr (fc gg F);refine Om hS F ?_;exact E2 hS F h
end
section
attribute [local irreducible] Ax BO BB Bj BC Bk AY BD BK Cq
attribute [local go_sem] Option.isSome_some gJ MR Cz Pq eX YS S42
theorem Z1:BT 159:=⟨by kernel_rfl,by decide⟩
theorem Abj(ns:List Int)(hn:ns.length<=1000000)(hne:E0 ns≠[]):PCall Tryz.prog 67 [.sl 1 false (ns.map Rq) [.i 0]] (.v (.string (sB (E0 ns)))):=by
 refine Vy S0 _ x67.hf x67.hc x67.hn (by decide) (rA rfl) λhb M=>?_
 have hS:=S0;have hOK:=Ctx.bd_ok (nt:=23) (hb:=hb) (N:=M) (X:=λ_=>False) (hnt:=by decide) hS;dsimp only[x67,Ah,BW];have hlen:=NC ns;refine go hS f0 ?_;refine Vx hS 0 rfl Z1 (by simp only[go_sem,seval]<;>eq_refl) yT λB=>⟨_,_,_,(by simp only[go_sem,seval]<;>eq_refl),yT,?_⟩
 refine go hS f0 ?_;refine IB (λx:Nat×Nat=>⟨[(10,.i x.1),(9,.i ns.length),(8,.sl 1 false (ns.map Rq) [.i 0]),(3,.v (.pointer (some ⟨B,0,none⟩))),(bk,gB B (E0 (ns.take x.1)))],[],x.2⟩)
  (λx=>x.1<=ns.length) (λx=>ns.length-x.1) (0,50) ?_ ?_ ?_
 ·exact tW _
 ·refine Le.of ?_ ?_ (by simp)<;>(simp only[go_sem,seval,E0];try simp)
 ·rintro⟨j,c⟩ hj;simp only at hj
  repeat' (first
  |((with_reducible first|apply DD|apply EA|apply Eu|apply FL|apply DE|apply DF);(·(first|exact Ctx.fn_ok hS|exact Ctx.rd_ok hS|assumption|exact yT));iterate 2 (·(simp only[go_sem,seval]<;>eq_refl)))
  |(with_reducible first|apply Dz|apply En|apply Di|apply Dj|apply CX|apply Cw|apply CK|apply DW|apply Ec|apply Eo|apply Ep|apply Er|apply Es)
  |(with_reducible apply Et;(·first|rfl|decide))
  |(with_reducible first|apply DB|apply DC|apply Ex|apply Ey|apply Ez|apply yT|apply And.intro yT yT)
  |(fail_if_success with_reducible apply G1);(fail_if_success with_reducible apply Ew);first|omega|(simp only[go_sem,seval];done)
  |fail)
  refine Sv ((j:Int)<ns.length) (by simp only[go_sem,seval]<;>eq_refl) (by first|simp only[Bool.decide_or,Bool.decide_and,decide_not]|simp) (λab=>?_) (λab=>?_)
  ·have hj':j<ns.length:=by omega
   have hrow:=eI_row ns [.i 0] j hj';have hsu:=Uu hj';have hle:=YT ns (j+1);rw[hsu,nL]at hle;have aa:(E0 (ns.take j)).length+(Lp (ns.getD j 0)).length<=140737488355328:=by omega
   repeat' (first
  |((with_reducible first|apply DD|apply EA|apply Eu|apply FL|apply DE|apply DF);(·(first|exact Ctx.fn_ok hS|exact Ctx.rd_ok hS|assumption|exact yT));iterate 2 (·(simp only[go_sem,seval,hrow]<;>eq_refl)))
  |(with_reducible first|apply Dz|apply En|apply Di|apply Dj|apply CX|apply Cw|apply CK|apply DW|apply Ec|apply Eo|apply Ep|apply Er|apply Es)
  |(with_reducible apply Et;(·first|rfl|decide))
  |(with_reducible first|apply DB|apply DC|apply Ex|apply Ey|apply Ez|apply yT|apply And.intro yT yT)
  |(fail_if_success with_reducible apply G1);(fail_if_success with_reducible apply Ew);first|omega|(simp only[go_sem,seval,hrow];done)
  |fail)
   refine KO hS 1 rfl W8 (by simp only[go_sem,seval]<;>eq_refl) yT (by simp only[go_sem,seval]<;>eq_refl) (by simp only[go_sem,seval]<;>eq_refl) (by simp only[go_sem,seval]<;>eq_refl) (by simp only[go_sem,seval,Ej]<;>eq_refl) rfl rfl (Q6 aa) (by simp only[go_sem,seval]<;>eq_refl) yT ?_
   repeat' (first
  |((with_reducible first|apply DD|apply EA|apply Eu|apply FL|apply DE|apply DF);(·(first|exact Ctx.fn_ok hS|exact Ctx.rd_ok hS|assumption|exact yT));iterate 2 (·(simp only[go_sem,seval]<;>eq_refl)))
  |(with_reducible first|apply Dz|apply En|apply Di|apply Dj|apply CX|apply Cw|apply CK|apply DW|apply Ec|apply Eo|apply Ep|apply Er|apply Es)
  |(with_reducible apply Et;(·first|rfl|decide))
  |(with_reducible first|apply DB|apply DC|apply Ex|apply Ey|apply Ez|apply yT|apply And.intro yT yT)
  |(fail_if_success with_reducible apply G1);(fail_if_success with_reducible apply Ew);first|omega|(simp only[go_sem,seval];done)
  |fail)
   refine JL (j+1,c+50) (by show j+1<=_;omega) (by show ns.length-(j+1)<ns.length-j;omega) (Le.of ?_ ?_ ?_)
   ·simp only[go_sem,seval,hsu]<;>simp
   ·simp only[go_sem,seval]
   ·simp
  ·refine go hS f0 ?_;have:j=ns.length:=by omega
   subst this;rw[L5];refine KO hS 0 (ax:=[]) rfl Ut (by simp only[go_sem,seval]<;>eq_refl) yT (by simp only[go_sem,seval]<;>eq_refl) (by simp only[go_sem,seval]<;>eq_refl) (by simp only[go_sem,seval]<;>eq_refl) yT rfl rfl (PO hne) (by simp only[go_sem,seval]<;>eq_refl) yT ?_;refine go hS f0 ?_
   first|refine Ma (by simp only[go_sem,seval]<;>eq_refl) (by simp only[go_sem,seval]) (by simp only[go_sem,seval]) ?_ rfl|refine Mb (by simp only[go_sem,seval]<;>eq_refl) (by simp only[go_sem,seval]) (by simp only[go_sem,seval]) ?_ rfl
   simp only[go_sem,seval]
def EN(_:Nat)(l:List Int):Option (List UInt8):=gd (l.length<=1000000)<|gd (E0 l≠[])<|some (E0 l)
@[go_sem] def s67(N:Nat):Spec:=p0<|pS SD λl=>pE<|pF (EN N l) [] λr=>.v (.string (sB r))
theorem KA(N:Nat):AG Tryz.prog 67 (s67 N):=by
 refine Ar x67.ok<|AF λl=>Ad<|As λr h=>?_
 unfold EN at h;obtain⟨h1,h2,h⟩:=un h;cases h
 exact Abj l h1 h2
end
section
attribute [local irreducible] Ax BO BB Bj BC Bk AY BD BK Cq
attribute [local go_sem] Pq Pq
def KI(N:Nat)(s1684:List UInt8):Option ((List UInt8)×Int):=bif decide (65536<(s1684.length:Int))then(some ([],10))else(gd (((Lp (s1684.length:Int))++s1684).length<=140737488355328)<|some ((Lp (s1684.length:Int))++s1684,0))
@[go_sem] def Aea(N:Nat):Spec:=p0<|pT λs1684=>pE<|pF (KI N s1684) ([],0) λr=>.tup [.v (.string (sB r.1)),.i r.2]
theorem yW(N:Nat):AG Tryz.prog 138 (Aea N):=by
 refine Ar x138.ok<|L1 λs1684=>Ad<|As λr h=>wx x138 (Ab W7<|Aj) λ_ hS F=>?_
 dsimp only[x138,Ah,BW];unfold KI at h;refine An hS F h (λ_ h=>?_) (λ_ h=>?_)
 ·exact Ai hS F h
 ·obtain⟨ah,h⟩:=un h;exact Ai hS F h
def Mp(N:Nat)(s1685:List UInt8)(ab:Int):Option ((List UInt8)×Int×Int):=(B3 N s1685 ab).bind λ(aa,r1688,ae)=>bif decide (ae≠0)then(some ([],0,ae))else(gd ((!((decide (aa<0))||(decide (65536<aa))))=true->(Af ((s1685.length:Int)-r1688)))<|bif ((decide (aa<0))||(decide (65536<aa)))||(decide ((s1685.length:Int)-r1688<aa))then(some ([],0,10))else(gd (Af (r1688+aa))<|gd (0<=r1688/\r1688<=r1688+aa/\r1688+aa<=(s1685.length:Int))<|gd (Af (r1688+aa))<|some ((s1685.drop r1688.toNat).take ((r1688+aa).toNat-r1688.toNat),r1688+aa,0)))
@[go_sem] def Wo(N:Nat):Spec:=p0<|pT λs1685=>pI λab=>pE<|pF (Mp N s1685 ab) ([],0,0) λr=>.tup [.v (.string (sB r.1)),.i r.2.1,.i r.2.2]
theorem Acb(N:Nat):AG Tryz.prog 78 (Wo N):=by
 refine Ar x78.ok<|L1 λs1685=>Aa λab=>Ad<|As λr h=>wx x78 (Ab (Zx N)<|Aj) λ_ hS F=>?_
 dsimp only[x78,Ah,BW];unfold Mp at h;obtain⟨⟨aa,r1688,ae⟩,af,h⟩:=un h;replace F:=fc af F;refine An hS F h (λ_ h=>?_) (λ_ h=>?_)
 ·exact Ai hS F h
 ·obtain⟨ah,h⟩:=un h;refine An hS F h (λ_ h=>?_) (λ_ h=>?_)
  ·exact Ai hS F h
  ·obtain⟨ak,aj,ai,h⟩:=un h;exact Ai hS F h
end
section
attribute [local irreducible] Ax BO BB Bj BC Bk AY BD BK Cq
def MC(N:Nat)(a1:Int)(a2:Int)(a3:Int)(a4:Int)(a5:List (Int×Int))(a6:Int)(a7:Int)(a8:Int)(a9:Int)(gw:Int)(gv:Int)(gu:Int)(gt:Int)(gr:Int)(gm:Bool):Option (List UInt8):=(HL N a2 a3 a4 a5 a6 a7).bind λ(g9,ib)=>(KI N g9).bind λ(g8,r20)=>some g8
@[go_sem] def AeN(N:Nat):Spec:=p0<|pG<|pI λa1=>pI λa2=>pI λa3=>pI λa4=>pS Aq λa5=>pI λa6=>pI λa7=>pI λa8=>pI λa9=>pI λgw=>pI λgv=>pI λgu=>pI λgt=>pI λgr=>pB λgm=>pE<|pE<|pF (MC N a1 a2 a3 a4 a5 a6 a7 a8 a9 gw gv gu gt gr gm) [] λr=>.v (.string (sB r))
theorem Abk(N:Nat):AG Tryz.prog 136 (AeN N):=by
 refine Ar x136.ok<|Aw<|Aa λa1=>Aa λa2=>Aa λa3=>Aa λa4=>AF λa5=>Aa λa6=>Aa λa7=>Aa λa8=>Aa λa9=>Aa λgw=>Aa λgv=>Aa λgu=>Aa λgt=>Aa λgr=>AX λgm=>Ad<|Ad<|As λr h=>wx x136 (Ab (AaJ N)<|Ab (yW N)<|Aj) λ_ hS F=>?_
 dsimp only[x136,Ah,Aq,BW];unfold MC at h;obtain⟨⟨g9,ib⟩,bj,h⟩:=un h;obtain⟨⟨g8,r20⟩,bi,h⟩:=un h;exact Ai hS (fc bi (fc bj F)) h
def LR(N:Nat)(gj:Int)(gi:Int)(gh:Int)(gg:Int)(gc:List (Int×Int))(fx:Int)(fr:Int)(bb:Int)(fq:Int)(fp:Int)(fo:Int)(fj:Int)(fh:Int)(fg:Int)(e9:Bool):Option (List UInt8):=(EN N [bb]).bind λgz=>some gz
@[go_sem] def AeO(N:Nat):Spec:=p0<|pG<|pI λgj=>pI λgi=>pI λgh=>pI λgg=>pS Aq λgc=>pI λfx=>pI λfr=>pI λbb=>pI λfq=>pI λfp=>pI λfo=>pI λfj=>pI λfh=>pI λfg=>pB λe9=>pE<|pE<|pF (LR N gj gi gh gg gc fx fr bb fq fp fo fj fh fg e9) [] λr=>.v (.string (sB r))
theorem Abl(N:Nat):AG Tryz.prog 149 (AeO N):=by
 refine Ar x149.ok<|Aw<|Aa λgj=>Aa λgi=>Aa λgh=>Aa λgg=>AF λgc=>Aa λfx=>Aa λfr=>Aa λbb=>Aa λfq=>Aa λfp=>Aa λfo=>Aa λfj=>Aa λfh=>Aa λfg=>AX λe9=>Ad<|Ad<|As λr h=>wx x149 (Ab (KA N)<|Aj) λ_ hS F=>?_
 dsimp only[x149,Ah,Aq,BW];unfold LR at h;obtain⟨gz,bh,h⟩:=un h;exact Ai hS (fc bh F) h
def LS(N:Nat)(e8:Int)(ba:Int)(ez:Int)(eu:Int)(ej:List (Int×Int))(ei:Int)(eh:Int)(az:Int)(ay:Int)(aw:Int)(ee:Int)(d9:Int)(d8:Int)(d7:Int)(d6:Bool):Option (List UInt8):=(EN N [az,ay,aw,ba]).bind λgy=>some gy
@[go_sem] def RS(N:Nat):Spec:=p0<|pG<|pI λe8=>pI λba=>pI λez=>pI λeu=>pS Aq λej=>pI λei=>pI λeh=>pI λaz=>pI λay=>pI λaw=>pI λee=>pI λd9=>pI λd8=>pI λd7=>pB λd6=>pE<|pE<|pF (LS N e8 ba ez eu ej ei eh az ay aw ee d9 d8 d7 d6) [] λr=>.v (.string (sB r))
theorem Abm(N:Nat):AG Tryz.prog 154 (RS N):=by
 refine Ar x154.ok<|Aw<|Aa λe8=>Aa λba=>Aa λez=>Aa λeu=>AF λej=>Aa λei=>Aa λeh=>Aa λaz=>Aa λay=>Aa λaw=>Aa λee=>Aa λd9=>Aa λd8=>Aa λd7=>AX λd6=>Ad<|Ad<|As λr h=>wx x154 (Ab (KA N)<|Aj) λ_ hS F=>?_
 dsimp only[x154,Ah,Aq,BW];unfold LS at h;obtain⟨gy,bg,h⟩:=un h;exact Ai hS (fc bg F) h
def LT(N:Nat)(d5:Int)(dz:Int)(dw:Int)(du:Int)(dt:List (Int×Int))(dq:Int)(dm:Int)(av:Int)(au:Int)(aq:Int)(dh:Int)(dg:Int)(de:Int)(db:Int)(da:Bool):Option (List UInt8):=(EN N [av,au,aq]).bind λgx=>some gx
@[go_sem] def AeP(N:Nat):Spec:=p0<|pG<|pI λd5=>pI λdz=>pI λdw=>pI λdu=>pS Aq λdt=>pI λdq=>pI λdm=>pI λav=>pI λau=>pI λaq=>pI λdh=>pI λdg=>pI λde=>pI λdb=>pB λda=>pE<|pE<|pF (LT N d5 dz dw du dt dq dm av au aq dh dg de db da) [] λr=>.v (.string (sB r))
theorem Abn(N:Nat):AG Tryz.prog 159 (AeP N):=by
 refine Ar x159.ok<|Aw<|Aa λd5=>Aa λdz=>Aa λdw=>Aa λdu=>AF λdt=>Aa λdq=>Aa λdm=>Aa λav=>Aa λau=>Aa λaq=>Aa λdh=>Aa λdg=>Aa λde=>Aa λdb=>AX λda=>Ad<|Ad<|As λr h=>wx x159 (Ab (KA N)<|Aj) λ_ hS F=>?_
 dsimp only[x159,Ah,Aq,BW];unfold LT at h;obtain⟨gx,bf,h⟩:=un h;exact Ai hS (fc bf F) h
def KC(N:Nat)(cz:Int)(cy:Int)(cu:Int)(cr:Int)(cq:List (Int×Int))(co:Int)(cn:Int)(an:Int)(ck:Int)(cj:Int)(ci:Int)(ce:Int)(b9:Int)(b7:Int)(bz:Bool):Option (List UInt8):=(EN N [an]).bind λr88=>some r88
@[go_sem] def AeQ(N:Nat):Spec:=p0<|pG<|pI λcz=>pI λcy=>pI λcu=>pI λcr=>pS Aq λcq=>pI λco=>pI λcn=>pI λan=>pI λck=>pI λcj=>pI λci=>pI λce=>pI λb9=>pI λb7=>pB λbz=>pE<|pE<|pF (KC N cz cy cu cr cq co cn an ck cj ci ce b9 b7 bz) [] λr=>.v (.string (sB r))
theorem fK(N:Nat):AG Tryz.prog 162 (AeQ N):=by
 refine Ar x162.ok<|Aw<|Aa λcz=>Aa λcy=>Aa λcu=>Aa λcr=>AF λcq=>Aa λco=>Aa λcn=>Aa λan=>Aa λck=>Aa λcj=>Aa λci=>Aa λce=>Aa λb9=>Aa λb7=>AX λbz=>Ad<|Ad<|As λr h=>wx x162 (Ab (KA N)<|Aj) λ_ hS F=>?_
 dsimp only[x162,Ah,Aq,BW];unfold KC at h;obtain⟨r88,be,h⟩:=un h;exact Ai hS (fc be F) h
def MD(N:Nat)(bw:Int)(bv:Int)(bu:Int)(br:Int)(bq:List (Int×Int))(bp:Int)(bo:Int)(bn:Int)(bm:Int)(bl:Int)(af:Int)(ae:Int)(ab:Int)(aa:Int)(ah:Bool):Option (List UInt8):=bif ah then((EN N [af,ae,ab,aa,1]).bind λaj=>some aj)else((EN N [af,ae,ab,aa,0]).bind λai=>some ai)
@[go_sem] def AeR(N:Nat):Spec:=p0<|pG<|pI λbw=>pI λbv=>pI λbu=>pI λbr=>pS Aq λbq=>pI λbp=>pI λbo=>pI λbn=>pI λbm=>pI λbl=>pI λaf=>pI λae=>pI λab=>pI λaa=>pB λah=>pE<|pE<|pF (MD N bw bv bu br bq bp bo bn bm bl af ae ab aa ah) [] λr=>.v (.string (sB r))
theorem Abo(N:Nat):AG Tryz.prog 169 (AeR N):=by
 refine Ar x169.ok<|Aw<|Aa λbw=>Aa λbv=>Aa λbu=>Aa λbr=>AF λbq=>Aa λbp=>Aa λbo=>Aa λbn=>Aa λbm=>Aa λbl=>Aa λaf=>Aa λae=>Aa λab=>Aa λaa=>AX λah=>Ad<|Ad<|As λr h=>wx x169 (Ab (KA N)<|Aj) λ_ hS F=>?_
 dsimp only[x169,Ah,Aq,BW];unfold MD at h;refine An hS F h (λ_ h=>?_) (λ_ h=>?_)
 ·obtain⟨aj,am,h⟩:=un h;exact Ai hS (fc am F) h
 ·obtain⟨ai,ak,h⟩:=un h;exact Ai hS (fc ak F) h
end
attribute [local irreducible] Ax BO BB Bj BC Bk AY BD BK Cq
def Lr(N:Nat)(ic:Int)(ib:Int)(g9:Int)(g8:List (Int×Int))(gz:Int)(gy:Int)(gx:Int)(gw:Int)(gv:Int)(gu:Int)(gt:Int)(gr:Int)(gm:Int)(gj:Bool):Option ((List UInt8)×Int):=(Fj N ic ib g9 g8 gz gy gx gw gv gu gt gr gm gj).bind λju=>bif !ju then(some ([],170))else((EN N [1]).bind λjm=>(MC N 1 ic ib g9 g8 gz gy gx gw gv gu gt gr gm gj).bind λjl=>gd ((jm++jl).length<=140737488355328)<|some (jm++jl,0))
@[go_sem] def AaT(N:Nat):Spec:=p0<|pG<|pC 1<|pI λic=>pI λib=>pI λg9=>pS Aq λg8=>pI λgz=>pI λgy=>pI λgx=>pI λgw=>pI λgv=>pI λgu=>pI λgt=>pI λgr=>pI λgm=>pB λgj=>pE<|pE<|pF (Lr N ic ib g9 g8 gz gy gx gw gv gu gt gr gm gj) ([],0) λr=>.tup [.v (.string (sB r.1)),.i r.2]
theorem lP(N:Nat):AG Tryz.prog 29 (AaT N):=by
 refine Ar x29.ok<|Aw<|Dn<|Aa λic=>Aa λib=>Aa λg9=>AF λg8=>Aa λgz=>Aa λgy=>Aa λgx=>Aa λgw=>Aa λgv=>Aa λgu=>Aa λgt=>Aa λgr=>Aa λgm=>AX λgj=>Ad<|Ad<|As λr h=>wx x29 (BG (Ab (Nk N)<|Ab (KA N)<|Ab (Abk N)<|Aj) DX (CP N) DY DZ) λ_ hS F=>?_
 dsimp only[x29,Ah,Aq,BW];unfold Lr at h;obtain⟨ju,kr,h⟩:=un h;replace F:=fc kr F;refine An hS F h (λ_ h=>?_) (λ_ h=>?_)
 ·exact Ai hS F h
 ·obtain⟨jm,kq,jl,km,i8,h⟩:=un h;exact Ai hS (fc km (fc kq F)) h
def Lt(N:Nat)(gi:Int)(gh:Int)(gg:Int)(gc:List (Int×Int))(fx:Int)(fr:Int)(fq:Int)(fp:Int)(fo:Int)(fj:Int)(fh:Int)(fg:Int)(e9:Int)(e8:Bool):Option ((List UInt8)×Int):=(Fk N gi gh gg gc fx fr fq fp fo fj fh fg e9 e8).bind λjt=>bif !jt then(some ([],170))else((EN N [2]).bind λjk=>(LR N 2 gi gh gg gc fx fr fq fp fo fj fh fg e9 e8).bind λjj=>gd ((jk++jj).length<=140737488355328)<|some (jk++jj,0))
@[go_sem] def AaU(N:Nat):Spec:=p0<|pG<|pC 2<|pI λgi=>pI λgh=>pI λgg=>pS Aq λgc=>pI λfx=>pI λfr=>pI λfq=>pI λfp=>pI λfo=>pI λfj=>pI λfh=>pI λfg=>pI λe9=>pB λe8=>pE<|pE<|pF (Lt N gi gh gg gc fx fr fq fp fo fj fh fg e9 e8) ([],0) λr=>.tup [.v (.string (sB r.1)),.i r.2]
theorem lQ(N:Nat):AG Tryz.prog 29 (AaU N):=by
 refine Ar x29.ok<|Aw<|Dn<|Aa λgi=>Aa λgh=>Aa λgg=>AF λgc=>Aa λfx=>Aa λfr=>Aa λfq=>Aa λfp=>Aa λfo=>Aa λfj=>Aa λfh=>Aa λfg=>Aa λe9=>AX λe8=>Ad<|Ad<|As λr h=>wx x29 (BG (Ab (Nl N)<|Ab (KA N)<|Ab (Abl N)<|Aj) DX (CP N) DY DZ) λ_ hS F=>?_
 dsimp only[x29,Ah,Aq,BW];unfold Lt at h;obtain⟨jt,kl,h⟩:=un h;replace F:=fc kl F;refine An hS F h (λ_ h=>?_) (λ_ h=>?_)
 ·exact Ai hS F h
 ·obtain⟨jk,kj,jj,ki,i8,h⟩:=un h;exact Ai hS (fc ki (fc kj F)) h
def Lu(N:Nat)(ez:Int)(eu:Int)(ej:Int)(ei:List (Int×Int))(eh:Int)(ee:Int)(d9:Int)(d8:Int)(d7:Int)(d6:Int)(d5:Int)(dz:Int)(dw:Int)(du:Bool):Option ((List UInt8)×Int):=(Fl N ez eu ej ei eh ee d9 d8 d7 d6 d5 dz dw du).bind λjs=>bif !js then(some ([],170))else((EN N [3]).bind λji=>(LS N 3 ez eu ej ei eh ee d9 d8 d7 d6 d5 dz dw du).bind λjh=>gd ((ji++jh).length<=140737488355328)<|some (ji++jh,0))
@[go_sem] def AaV(N:Nat):Spec:=p0<|pG<|pC 3<|pI λez=>pI λeu=>pI λej=>pS Aq λei=>pI λeh=>pI λee=>pI λd9=>pI λd8=>pI λd7=>pI λd6=>pI λd5=>pI λdz=>pI λdw=>pB λdu=>pE<|pE<|pF (Lu N ez eu ej ei eh ee d9 d8 d7 d6 d5 dz dw du) ([],0) λr=>.tup [.v (.string (sB r.1)),.i r.2]
theorem lR(N:Nat):AG Tryz.prog 29 (AaV N):=by
 refine Ar x29.ok<|Aw<|Dn<|Aa λez=>Aa λeu=>Aa λej=>AF λei=>Aa λeh=>Aa λee=>Aa λd9=>Aa λd8=>Aa λd7=>Aa λd6=>Aa λd5=>Aa λdz=>Aa λdw=>AX λdu=>Ad<|Ad<|As λr h=>wx x29 (BG (Ab (Nn N)<|Ab (KA N)<|Ab (Abm N)<|Aj) DX (CP N) DY DZ) λ_ hS F=>?_
 dsimp only[x29,Ah,Aq,BW];unfold Lu at h;obtain⟨js,kh,h⟩:=un h;replace F:=fc kh F;refine An hS F h (λ_ h=>?_) (λ_ h=>?_)
 ·exact Ai hS F h
 ·obtain⟨ji,kg,jh,kf,i8,h⟩:=un h;exact Ai hS (fc kf (fc kg F)) h
def Lv(N:Nat)(dt:Int)(dq:Int)(dm:Int)(dh:List (Int×Int))(dg:Int)(de:Int)(db:Int)(da:Int)(cz:Int)(cy:Int)(cu:Int)(cr:Int)(cq:Int)(co:Bool):Option ((List UInt8)×Int):=(Fm N dt dq dm dh dg de db da cz cy cu cr cq co).bind λjr=>bif !jr then(some ([],170))else((EN N [4]).bind λjg=>(LT N 4 dt dq dm dh dg de db da cz cy cu cr cq co).bind λjf=>gd ((jg++jf).length<=140737488355328)<|some (jg++jf,0))
@[go_sem] def AaW(N:Nat):Spec:=p0<|pG<|pC 4<|pI λdt=>pI λdq=>pI λdm=>pS Aq λdh=>pI λdg=>pI λde=>pI λdb=>pI λda=>pI λcz=>pI λcy=>pI λcu=>pI λcr=>pI λcq=>pB λco=>pE<|pE<|pF (Lv N dt dq dm dh dg de db da cz cy cu cr cq co) ([],0) λr=>.tup [.v (.string (sB r.1)),.i r.2]
theorem lS(N:Nat):AG Tryz.prog 29 (AaW N):=by
 refine Ar x29.ok<|Aw<|Dn<|Aa λdt=>Aa λdq=>Aa λdm=>AF λdh=>Aa λdg=>Aa λde=>Aa λdb=>Aa λda=>Aa λcz=>Aa λcy=>Aa λcu=>Aa λcr=>Aa λcq=>AX λco=>Ad<|Ad<|As λr h=>wx x29 (BG (Ab (No N)<|Ab (KA N)<|Ab (Abn N)<|Aj) DX (CP N) DY DZ) λ_ hS F=>?_
 dsimp only[x29,Ah,Aq,BW];unfold Lv at h;obtain⟨jr,ke,h⟩:=un h;replace F:=fc ke F;refine An hS F h (λ_ h=>?_) (λ_ h=>?_)
 ·exact Ai hS F h
 ·obtain⟨jg,ka,jf,j9,i8,h⟩:=un h;exact Ai hS (fc j9 (fc ka F)) h
def Lw(N:Nat)(cn:Int)(ck:Int)(cj:Int)(ci:List (Int×Int))(ce:Int)(b9:Int)(b7:Int)(bz:Int)(bw:Int)(bv:Int)(bu:Int)(br:Int)(bq:Int)(bp:Bool):Option ((List UInt8)×Int):=(Fo N cn ck cj ci ce b9 b7 bz bw bv bu br bq bp).bind λjq=>bif !jq then(some ([],170))else((EN N [5]).bind λje=>(MD N 5 cn ck cj ci ce b9 b7 bz bw bv bu br bq bp).bind λjd=>gd ((je++jd).length<=140737488355328)<|some (je++jd,0))
@[go_sem] def AaX(N:Nat):Spec:=p0<|pG<|pC 5<|pI λcn=>pI λck=>pI λcj=>pS Aq λci=>pI λce=>pI λb9=>pI λb7=>pI λbz=>pI λbw=>pI λbv=>pI λbu=>pI λbr=>pI λbq=>pB λbp=>pE<|pE<|pF (Lw N cn ck cj ci ce b9 b7 bz bw bv bu br bq bp) ([],0) λr=>.tup [.v (.string (sB r.1)),.i r.2]
theorem lT(N:Nat):AG Tryz.prog 29 (AaX N):=by
 refine Ar x29.ok<|Aw<|Dn<|Aa λcn=>Aa λck=>Aa λcj=>AF λci=>Aa λce=>Aa λb9=>Aa λb7=>Aa λbz=>Aa λbw=>Aa λbv=>Aa λbu=>Aa λbr=>Aa λbq=>AX λbp=>Ad<|Ad<|As λr h=>wx x29 (BG (Ab (Np N)<|Ab (KA N)<|Ab (Abo N)<|Aj) DX (CP N) DY DZ) λ_ hS F=>?_
 dsimp only[x29,Ah,Aq,BW];unfold Lw at h;obtain⟨jq,j8,h⟩:=un h;replace F:=fc j8 F;refine An hS F h (λ_ h=>?_) (λ_ h=>?_)
 ·exact Ai hS F h
 ·obtain⟨je,j7,jd,j6,i8,h⟩:=un h;exact Ai hS (fc j6 (fc j7 F)) h
def Lx(N:Nat)(bo:Int)(bn:Int)(bm:Int)(bl:List (Int×Int))(bj:Int)(bi:Int)(bh:Int)(bg:Int)(bf:Int)(be:Int)(bb:Int)(ba:Int)(az:Int)(ay:Bool):Option ((List UInt8)×Int):=(Fp N bo bn bm bl bj bi bh bg bf be bb ba az ay).bind λjp=>bif !jp then(some ([],170))else((EN N [6]).bind λjc=>(KC N 6 bo bn bm bl bj bi bh bg bf be bb ba az ay).bind λjb=>gd ((jc++jb).length<=140737488355328)<|some (jc++jb,0))
@[go_sem] def AaY(N:Nat):Spec:=p0<|pG<|pC 6<|pI λbo=>pI λbn=>pI λbm=>pS Aq λbl=>pI λbj=>pI λbi=>pI λbh=>pI λbg=>pI λbf=>pI λbe=>pI λbb=>pI λba=>pI λaz=>pB λay=>pE<|pE<|pF (Lx N bo bn bm bl bj bi bh bg bf be bb ba az ay) ([],0) λr=>.tup [.v (.string (sB r.1)),.i r.2]
theorem lU(N:Nat):AG Tryz.prog 29 (AaY N):=by
 refine Ar x29.ok<|Aw<|Dn<|Aa λbo=>Aa λbn=>Aa λbm=>AF λbl=>Aa λbj=>Aa λbi=>Aa λbh=>Aa λbg=>Aa λbf=>Aa λbe=>Aa λbb=>Aa λba=>Aa λaz=>AX λay=>Ad<|Ad<|As λr h=>wx x29 (BG (Ab (Nq N)<|Ab (KA N)<|Ab (fK N)<|Aj) DX (CP N) DY DZ) λ_ hS F=>?_
 dsimp only[x29,Ah,Aq,BW];unfold Lx at h;obtain⟨jp,j5,h⟩:=un h;replace F:=fc j5 F;refine An hS F h (λ_ h=>?_) (λ_ h=>?_)
 ·exact Ai hS F h
 ·obtain⟨jc,j4,jb,jz,i8,h⟩:=un h;exact Ai hS (fc jz (fc j4 F)) h
def Ly(N:Nat)(aw:Int)(av:Int)(au:Int)(aq:List (Int×Int))(an:Int)(am:Int)(ak:Int)(aj:Int)(ai:Int)(ah:Int)(af:Int)(ae:Int)(ab:Int)(aa:Bool):Option ((List UInt8)×Int):=(Fq N aw av au aq an am ak aj ai ah af ae ab aa).bind λjo=>bif !jo then(some ([],170))else((EN N [7]).bind λja=>(KC N 7 aw av au aq an am ak aj ai ah af ae ab aa).bind λi9=>gd ((ja++i9).length<=140737488355328)<|some (ja++i9,0))
@[go_sem] def AaZ(N:Nat):Spec:=p0<|pG<|pC 7<|pI λaw=>pI λav=>pI λau=>pS Aq λaq=>pI λan=>pI λam=>pI λak=>pI λaj=>pI λai=>pI λah=>pI λaf=>pI λae=>pI λab=>pB λaa=>pE<|pE<|pF (Ly N aw av au aq an am ak aj ai ah af ae ab aa) ([],0) λr=>.tup [.v (.string (sB r.1)),.i r.2]
theorem lV(N:Nat):AG Tryz.prog 29 (AaZ N):=by
 refine Ar x29.ok<|Aw<|Dn<|Aa λaw=>Aa λav=>Aa λau=>AF λaq=>Aa λan=>Aa λam=>Aa λak=>Aa λaj=>Aa λai=>Aa λah=>Aa λaf=>Aa λae=>Aa λab=>AX λaa=>Ad<|Ad<|As λr h=>wx x29 (BG (Ab (Nr N)<|Ab (KA N)<|Ab (fK N)<|Aj) DX (CP N) DY DZ) λ_ hS F=>?_
 dsimp only[x29,Ah,Aq,BW];unfold Ly at h;obtain⟨jo,jy,h⟩:=un h;replace F:=fc jy F;refine An hS F h (λ_ h=>?_) (λ_ h=>?_)
 ·exact Ai hS F h
 ·obtain⟨ja,jx,i9,jw,i8,h⟩:=un h;exact Ai hS (fc jw (fc jx F)) h
def Lz(N:Nat)(i7:Int)(i6:Int)(i5:Int)(i4:Int)(iz:List (Int×Int))(iy:Int)(iw:Int)(iv:Int)(ir:Int)(iq:Int)(ip:Int)(im:Int)(ij:Int)(ii:Int)(ig:Bool):Option ((List UInt8)×Int):=(Fr N i7 i6 i5 i4 iz iy iw iv ir iq ip im ij ii ig).bind λjn=>gd (jn=false)<|some ([],170)
@[go_sem] def Aa0(N:Nat):Spec:=p0<|pG<|pI λi7=>pI λi6=>pI λi5=>pI λi4=>pS Aq λiz=>pI λiy=>pI λiw=>pI λiv=>pI λir=>pI λiq=>pI λip=>pI λim=>pI λij=>pI λii=>pB λig=>pE<|pE<|pF (Lz N i7 i6 i5 i4 iz iy iw iv ir iq ip im ij ii ig) ([],0) λr=>.tup [.v (.string (sB r.1)),.i r.2]
theorem lW(N:Nat):AG Tryz.prog 29 (Aa0 N):=by
 refine Ar x29.ok<|Aw<|Aa λi7=>Aa λi6=>Aa λi5=>Aa λi4=>AF λiz=>Aa λiy=>Aa λiw=>Aa λiv=>Aa λir=>Aa λiq=>Aa λip=>Aa λim=>Aa λij=>Aa λii=>AX λig=>Ad<|Ad<|As λr h=>wx x29 (BG (Ab (Ns N)<|Aj) DX (CP N) DY DZ) λ_ hS F=>?_
 dsimp only[x29,Ah,Aq,BW];unfold Lz at h;obtain⟨jn,jv,i8,h⟩:=un h;replace F:=fc i8 (fc jv F);refine Om hS F ?_;exact Ai hS F h
