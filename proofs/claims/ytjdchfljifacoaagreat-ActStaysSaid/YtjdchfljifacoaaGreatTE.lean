import Derived.Test.YtjdchfljifacoaaGreatU1
set_option linter.all false
set_option maxRecDepth 100000
set_option maxHeartbeats 8000000
namespace Go.Proofs.YtjdchfljifacoaaGreat.Am
open Go
section
attribute [local irreducible] Ax BO BB Bj BC Bk AY BD BK Cq
theorem AcQ{S F G:Prop}{E:Type}{a r:E}(hS:S)(f:F)(h:some a=some r)(t:S->(r=a/\F)->G:=by
 intro hS f
 repeat' (first
  |(with_reducible (first|apply DD|apply EA|apply Eu|apply FL|apply DE|apply DF|apply GD|apply GE);(·(first|exact Ctx.fn_ok hS|exact Ctx.rd_ok hS|assumption|exact yT|exact Ctx.rdG_ok hS));iterate 2 (·(simp only[go_sem,seval,f]<;>eq_refl)))
  |with_reducible (first|apply Dz|apply En|apply Di|apply Dj|apply CX|apply Cw|apply CK|apply DW|apply Ec|apply Eo|apply Ep|apply Er|apply Es)
  |(with_reducible apply Et;(·first|rfl|decide))
  |(with_reducible apply A4;(·simp))
  |with_reducible (first|apply HV|apply HW|apply HX|apply DB|apply DC|apply Ex|apply Ey|apply Ez|apply yT|apply And.intro yT yT)
  |(fail_if_success with_reducible apply G1);(fail_if_success with_reducible apply Ew);first|with_reducible apply And.intro|omega|(simp only[go_sem,seval,f];done)|with_reducible assumption|(refine And.intro ?_ ?_)|(intro hg;simp_all;done)|decide|grind)
 refine uH (by simp only[go_sem,seval,f]<;>eq_refl) (by simp only[go_sem,seval,f]) (by simp only[go_sem,seval,f]) (by first|(simp only[go_sem,seval,f];done)|(simp only[go_sem,seval,f];rfl)) (by simp only[go_sem,seval,f]<;>rfl) rfl):G:=t hS ⟨(yJ h).symm,f⟩
def qD(N:Nat):Nat->List AV->List AV->Option (Prop×AV):=λf args vs=>if f=135 then(match args with|[.box _ 0,.agg [.v (.int .i64 a0),.v (.int .i64 a1),.v (.int .i64 a2),.v (.int .i64 a3),.sl _ _ _ _,.v (.int .i64 a5),.v (.int .i64 a6),.v (.int .i64 a7),.v (.int .i64 a8),.v (.int .i64 a9),.v (.int .i64 a10),.v (.int .i64 a11),.v (.int .i64 a12),.v (.int .i64 a13),.v (.bool a14)]]=>some (True,Ay [(2,(0,0,0,[],0,0),a1,0,0,(0,0,0,0,false))])|_=>none)else if f=158 then(match args with|[.box _ 0,.agg [.v (.int .i64 a0),.v (.int .i64 a1),.v (.int .i64 a2),.v (.int .i64 a3),.sl _ _ _ _,.v (.int .i64 a5),.v (.int .i64 a6),.v (.int .i64 a7),.v (.int .i64 a8),.v (.int .i64 a9),.v (.int .i64 a10),.v (.int .i64 a11),.v (.int .i64 a12),.v (.int .i64 a13),.v (.bool a14)]]=>some (Af (-a8)/\Af (-a9),Ay [(4,(0,0,0,[],0,0),a7,-a8,-a9,(0,0,0,0,false))])|_=>none)else if f=172 then(match args with|[.box _ 0,.agg [.v (.int .i64 a0),.v (.int .i64 a1),.v (.int .i64 a2),.v (.int .i64 a3),.sl _ _ _ _,.v (.int .i64 a5),.v (.int .i64 a6),.v (.int .i64 a7),.v (.int .i64 a8),.v (.int .i64 a9),.v (.int .i64 a10),.v (.int .i64 a11),.v (.int .i64 a12),.v (.int .i64 a13),.v (.bool a14)]]=>some (True,Ay [(7,(0,0,0,[],0,0),a7,0,0,(0,0,0,0,false))])|_=>none)else if f=174 then(match args with|[.box _ 0,.agg [.v (.int .i64 a0),.v (.int .i64 a1),.v (.int .i64 a2),.v (.int .i64 a3),.sl _ _ _ _,.v (.int .i64 a5),.v (.int .i64 a6),.v (.int .i64 a7),.v (.int .i64 a8),.v (.int .i64 a9),.v (.int .i64 a10),.v (.int .i64 a11),.v (.int .i64 a12),.v (.int .i64 a13),.v (.bool a14)]]=>some (True,Ay [(6,(0,0,0,[],0,0),a7,0,0,(0,0,0,0,false))])|_=>none)else
 if f=145 then(match args,vs with
  |[.box _ 0,.agg [.v (.int .i64 a0),.v (.int .i64 a1),.v (.int .i64 a2),.v (.int .i64 a3),.sl y4 false s4 d4,.v (.int .i64 a5),.v (.int .i64 a6),.v (.int .i64 a7),.v (.int .i64 a8),.v (.int .i64 a9),.v (.int .i64 a10),.v (.int .i64 a11),.v (.int .i64 a12),.v (.int .i64 a13),.v (.bool a14)]],[.agg [.sl y _ s _,.sl y2 _ s2 _],_]=>match N2 N (s.map B1) (s2.map E8) a0 a1 a2 a3 (s4.map Jx) a5 a6 a7 a8 a9 a10 a11 a12 a13 a14 with|some rr=>some (((y=6\/s=[])/\Hk s ((s.map B1).map Au))/\((y2=5\/s2=[])/\s2=(s2.map E8).map BZ)/\((y4=2/\d4=[.i 0,.i 0])/\s4=(s4.map Jx).map Cz),pZ rr)|none=>none
  |_,_=>none)else qU N f args vs
theorem N3(N:Nat):∀f args vs vc r,qD N f args vs=some (vc,r)->vc->Dh Tryz.prog f/\IA Tryz.prog f args vs r:=by
 intro f args vs vc r h hv;unfold qD at h;split at h
 ·rename_i hf;subst hf;split at h
  ·cases h
   exact⟨x135.ok,mQ⟩
  ·cases h
 split at h
 ·rename_i hf;subst hf;split at h
  ·cases h
   exact⟨x158.ok,fH hv.1 hv.2⟩
  ·cases h
 split at h
 ·rename_i hf;subst hf;split at h
  ·cases h
   exact⟨x172.ok,mR⟩
  ·cases h
 split at h
 ·rename_i hf;subst hf;split at h
  ·cases h
   exact⟨x174.ok,fI⟩
  ·cases h
 split at h
 ·rename_i hf;subst hf;split at h
  ·rename_i v2;split at h
   ·rename_i rr hu;cases h
    obtain⟨⟨h1,h2⟩,⟨h3,h4⟩,⟨h5,h6⟩,h7⟩:=hv;refine⟨x145.ok,λU hp xs gl hI hal hx hvs=>?_⟩;have hii:=hvs;simp only[iW,u7,List.cons.injEq,and_true]at hii;have e:=hii.2;rw[show∀l,qv hp (.agg l)=.agg l from λ_=>rfl]at e;subst e;exact mS N h1 h2 h3 h4 ⟨⟨⟨h5,rfl⟩,h6⟩,h7⟩ hu U hp xs gl hI hal hx hvs
   ·cases h
  ·cases h
 ·exact L3 N f args vs vc r h hv
end
section
attribute [local irreducible] Ax BO BB Bj BC Bk AY BD BK Cq
attribute [local go_sem] kF Nj JT JU qU qD pZ qv K2
def Mu(N:Nat)(s1:List (Int×Int×Int×(List (Int×Int))×Int×Int))(s2:List (Int×Int×Int×Int×Bool))(a4:Int)(a5:Int)(a6:Int)(a7:List (Int×Int))(a8:Int)(a9:Int)(jk:Int)(jj:Int)(ji:Int)(jh:Int)(jg:Int)(jf:Int)(je:Int)(jd:Bool):Option ((List (Int×(Int×Int×Int×(List (Int×Int))×Int×Int)×Int×Int×Int×(Int×Int×Int×Int×Bool)))×Bool):=(CZ N s1 s2 1 a4 a5 a6 a7 a8 a9 jk jj ji jh jg jf je jd).bind λ((lr,lq),r20)=>bif decide (r20≠0)then(some ([],false))else((Fj N a4 a5 a6 a7 a8 a9 jk jj ji jh jg jf je jd).bind λl7=>(Fh N s1 s2).bind λ(lm,lj)=>some ([(2,(0,0,0,[],0,0),a4,0,0,(0,0,0,0,false))],true))
@[go_sem] def Aa9(N:Nat):Spec:=p0<|pG<|pD Ak λs1=>pD AA λs2=>pE<|pG<|pC 1<|pI λa4=>pI λa5=>pI λa6=>pD Aq λa7=>pI λa8=>pI λa9=>pI λjk=>pI λjj=>pI λji=>pI λjh=>pI λjg=>pI λjf=>pI λje=>pB λjd=>pE<|pE<|pF (Mu N s1 s2 a4 a5 a6 a7 a8 a9 jk jj ji jh jg jf je jd) ([],false) λr=>.tup [Ay r.1,.b r.2]
theorem mH(N:Nat):AG Tryz.prog 24 (Aa9 N):=by
 refine Ar x24.ok<|Aw<|AM λs1=>AM λs2=>Ad<|Aw<|Dn<|Aa λa4=>Aa λa5=>Aa λa6=>AM λa7=>Aa λa8=>Aa λa9=>Aa λjk=>Aa λjj=>Aa λji=>Aa λjh=>Aa λjg=>Aa λjf=>Aa λje=>AX λjd=>Ad<|Ad<|As λr h=>wx x24 (BG (Ab (MW N)<|Ab (Nk N)<|Ab (QZ N)<|Aj) (N3 N) (CP N) H3 (H2 N)) λ_ hS F=>?_
 dsimp only[x24,Ah,Aq,AA,Ak];unfold Mu at h;obtain⟨⟨⟨lr,lq⟩,r20⟩,ki,h⟩:=un h;replace F:=fc ki F;refine An hS F h (λ_ h=>?_) (λ_ h=>?_)
 ·exact E2 hS F h
 ·obtain⟨l7,kh,h⟩:=un h;replace F:=fc kh F;refine KR hS F ?_;obtain⟨⟨lm,lj⟩,kg,h⟩:=un h;exact E2 hS (fc kg F) h
def Mv(N:Nat)(Xd:List (Int×Int×Int×(List (Int×Int))×Int×Int))(Wx:List (Int×Int×Int×Int×Bool))(fh:Int)(fg:Int)(e9:Int)(e8:List (Int×Int))(ez:Int)(eu:Int)(ej:Int)(ei:Int)(eh:Int)(ee:Int)(d9:Int)(d8:Int)(d7:Int)(d6:Bool):Option ((List (Int×(Int×Int×Int×(List (Int×Int))×Int×Int)×Int×Int×Int×(Int×Int×Int×Int×Bool)))×Bool):=(CZ N Xd Wx 2 fh fg e9 e8 ez eu ej ei eh ee d9 d8 d7 d6).bind λ((li,lh),kr)=>bif decide (kr≠0)then(some ([],false))else((Fk N fh fg e9 e8 ez eu ej ei eh ee d9 d8 d7 d6).bind λl6=>(Fh N Xd Wx).bind λ(kq,km)=>(N2 N kq km 2 fh fg e9 e8 ez eu ej ei eh ee d9 d8 d7 d6).bind λl53=>some (l53, !l53.isEmpty))
@[go_sem] def Aba(N:Nat):Spec:=p0<|pG<|pD Ak λXd=>pD AA λWx=>pE<|pG<|pC 2<|pI λfh=>pI λfg=>pI λe9=>pD Aq λe8=>pI λez=>pI λeu=>pI λej=>pI λei=>pI λeh=>pI λee=>pI λd9=>pI λd8=>pI λd7=>pB λd6=>pE<|pE<|pF (Mv N Xd Wx fh fg e9 e8 ez eu ej ei eh ee d9 d8 d7 d6) ([],false) λr=>.tup [Ay r.1,.b r.2]
theorem mI(N:Nat):AG Tryz.prog 24 (Aba N):=by
 refine Ar x24.ok<|Aw<|AM λXd=>AM λWx=>Ad<|Aw<|Dn<|Aa λfh=>Aa λfg=>Aa λe9=>AM λe8=>Aa λez=>Aa λeu=>Aa λej=>Aa λei=>Aa λeh=>Aa λee=>Aa λd9=>Aa λd8=>Aa λd7=>AX λd6=>Ad<|Ad<|As λr h=>wx x24 (BG (Ab (MW N)<|Ab (Nl N)<|Ab (QZ N)<|Aj) (N3 N) (CP N) H3 (H2 N)) λ_ hS F=>?_
 dsimp only[x24,Ah,Aq,AA,Ak];unfold Mv at h;obtain⟨⟨⟨li,lh⟩,kr⟩,kf,h⟩:=un h;replace F:=fc kf F;refine An hS F h (λ_ h=>?_) (λ_ h=>?_)
 ·exact E2 hS F h
 ·obtain⟨l6,ke,h⟩:=un h;replace F:=fc ke F;refine KR hS F ?_;obtain⟨⟨kq,km⟩,gg,h⟩:=un h;obtain⟨l53,gc,h⟩:=un h;cases l53 with
  |nil=>exact AcQ hS (fc gc (fc gg F)) h
  |cons x xs=>exact E2 hS (fc gc (fc gg F)) h
def Mw(N:Nat)(jl:List (Int×Int×Int×(List (Int×Int))×Int×Int))(YV:List (Int×Int×Int×Int×Bool))(jc:Int)(jb:Int)(ja:Int)(i9:List (Int×Int))(i8:Int)(i7:Int)(i6:Int)(i5:Int)(i4:Int)(iz:Int)(iy:Int)(iw:Int)(iv:Int)(ir:Bool):Option ((List (Int×(Int×Int×Int×(List (Int×Int))×Int×Int)×Int×Int×Int×(Int×Int×Int×Int×Bool)))×Bool):=(CZ N jl YV 3 jc jb ja i9 i8 i7 i6 i5 i4 iz iy iw iv ir).bind λ((lg,lf),kl)=>bif decide (kl≠0)then(some ([],false))else((Fl N jc jb ja i9 i8 i7 i6 i5 i4 iz iy iw iv ir).bind λl5=>some ([],false))
@[go_sem] def Abb(N:Nat):Spec:=p0<|pG<|pD Ak λjl=>pD AA λYV=>pE<|pG<|pC 3<|pI λjc=>pI λjb=>pI λja=>pD Aq λi9=>pI λi8=>pI λi7=>pI λi6=>pI λi5=>pI λi4=>pI λiz=>pI λiy=>pI λiw=>pI λiv=>pB λir=>pE<|pE<|pF (Mw N jl YV jc jb ja i9 i8 i7 i6 i5 i4 iz iy iw iv ir) ([],false) λr=>.tup [Ay r.1,.b r.2]
theorem mJ(N:Nat):AG Tryz.prog 24 (Abb N):=by
 refine Ar x24.ok<|Aw<|AM λjl=>AM λYV=>Ad<|Aw<|Dn<|Aa λjc=>Aa λjb=>Aa λja=>AM λi9=>Aa λi8=>Aa λi7=>Aa λi6=>Aa λi5=>Aa λi4=>Aa λiz=>Aa λiy=>Aa λiw=>Aa λiv=>AX λir=>Ad<|Ad<|As λr h=>wx x24 (BG (Ab (MW N)<|Ab (Nn N)<|Aj) (N3 N) (CP N) H3 (H2 N)) λ_ hS F=>?_
 dsimp only[x24,Ah,Aq,AA,Ak];unfold Mw at h;obtain⟨⟨⟨lg,lf⟩,kl⟩,ka,h⟩:=un h;replace F:=fc ka F;refine An hS F h (λ_ h=>?_) (λ_ h=>?_)
 ·exact E2 hS F h
 ·obtain⟨l5,j9,h⟩:=un h;replace F:=fc j9 F;refine Om hS F ?_;exact E2 hS F h
def Mx(N:Nat)(Wo:List (Int×Int×Int×(List (Int×Int))×Int×Int))(S2:List (Int×Int×Int×Int×Bool))(iq:Int)(ip:Int)(im:Int)(ij:List (Int×Int))(ii:Int)(ig:Int)(d5:Int)(dz:Int)(dw:Int)(ic:Int)(ib:Int)(g9:Int)(g8:Int)(gz:Bool):Option ((List (Int×(Int×Int×Int×(List (Int×Int))×Int×Int)×Int×Int×Int×(Int×Int×Int×Int×Bool)))×Bool):=(CZ N Wo S2 4 iq ip im ij ii ig d5 dz dw ic ib g9 g8 gz).bind λ((kz,kw),kj)=>bif decide (kj≠0)then(some ([],false))else((Fm N iq ip im ij ii ig d5 dz dw ic ib g9 g8 gz).bind λlz=>(Fh N Wo S2).bind λ(jz,jy)=>gd (Af (-dz))<|gd (Af (-dw))<|some ([(4,(0,0,0,[],0,0),d5,-dz,-dw,(0,0,0,0,false))],true))
@[go_sem] def Abc(N:Nat):Spec:=p0<|pG<|pD Ak λWo=>pD AA λS2=>pE<|pG<|pC 4<|pI λiq=>pI λip=>pI λim=>pD Aq λij=>pI λii=>pI λig=>pI λd5=>pI λdz=>pI λdw=>pI λic=>pI λib=>pI λg9=>pI λg8=>pB λgz=>pE<|pE<|pF (Mx N Wo S2 iq ip im ij ii ig d5 dz dw ic ib g9 g8 gz) ([],false) λr=>.tup [Ay r.1,.b r.2]
theorem mK(N:Nat):AG Tryz.prog 24 (Abc N):=by
 refine Ar x24.ok<|Aw<|AM λWo=>AM λS2=>Ad<|Aw<|Dn<|Aa λiq=>Aa λip=>Aa λim=>AM λij=>Aa λii=>Aa λig=>Aa λd5=>Aa λdz=>Aa λdw=>Aa λic=>Aa λib=>Aa λg9=>Aa λg8=>AX λgz=>Ad<|Ad<|As λr h=>wx x24 (BG (Ab (MW N)<|Ab (No N)<|Ab (QZ N)<|Aj) (N3 N) (CP N) H3 (H2 N)) λ_ hS F=>?_
 dsimp only[x24,Ah,Aq,AA,Ak];unfold Mx at h;obtain⟨⟨⟨kz,kw⟩,kj⟩,j8,h⟩:=un h;replace F:=fc j8 F;refine An hS F h (λ_ h=>?_) (λ_ h=>?_)
 ·exact E2 hS F h
 ·obtain⟨lz,j7,h⟩:=un h;replace F:=fc j7 F;refine KR hS F ?_;obtain⟨⟨jz,jy⟩,gy,h⟩:=un h;obtain⟨kv,ma,h⟩:=un h;exact E2 hS (fc gy F) h
def My(N:Nat)(Tk:List (Int×Int×Int×(List (Int×Int))×Int×Int))(s105:List (Int×Int×Int×Int×Bool))(du:Int)(dt:Int)(dq:Int)(dm:List (Int×Int))(dl:Int)(dh:Int)(dg:Int)(de:Int)(db:Int)(da:Int)(cy:Int)(cu:Int)(cr:Int)(cq:Bool):Option ((List (Int×(Int×Int×Int×(List (Int×Int))×Int×Int)×Int×Int×Int×(Int×Int×Int×Int×Bool)))×Bool):=(CZ N Tk s105 5 du dt dq dm dl dh dg de db da cy cu cr cq).bind λ((jx,jw),fq)=>bif decide (fq≠0)then(some ([],false))else((Fo N du dt dq dm dl dh dg de db da cy cu cr cq).bind λj6=>some ([],false))
@[go_sem] def Abd(N:Nat):Spec:=p0<|pG<|pD Ak λTk=>pD AA λs105=>pE<|pG<|pC 5<|pI λdu=>pI λdt=>pI λdq=>pD Aq λdm=>pI λdl=>pI λdh=>pI λdg=>pI λde=>pI λdb=>pI λda=>pI λcy=>pI λcu=>pI λcr=>pB λcq=>pE<|pE<|pF (My N Tk s105 du dt dq dm dl dh dg de db da cy cu cr cq) ([],false) λr=>.tup [Ay r.1,.b r.2]
theorem mL(N:Nat):AG Tryz.prog 24 (Abd N):=by
 refine Ar x24.ok<|Aw<|AM λTk=>AM λs105=>Ad<|Aw<|Dn<|Aa λdu=>Aa λdt=>Aa λdq=>AM λdm=>Aa λdl=>Aa λdh=>Aa λdg=>Aa λde=>Aa λdb=>Aa λda=>Aa λcy=>Aa λcu=>Aa λcr=>AX λcq=>Ad<|Ad<|As λr h=>wx x24 (BG (Ab (MW N)<|Ab (Np N)<|Aj) (N3 N) (CP N) H3 (H2 N)) λ_ hS F=>?_
 dsimp only[x24,Ah,Aq,AA,Ak];unfold My at h;obtain⟨⟨⟨jx,jw⟩,fq⟩,gx,h⟩:=un h;replace F:=fc gx F;refine An hS F h (λ_ h=>?_) (λ_ h=>?_)
 ·exact E2 hS F h
 ·obtain⟨j6,gw,h⟩:=un h;replace F:=fc gw F;refine Om hS F ?_;exact E2 hS F h
def Mz(N:Nat)(RI:List (Int×Int×Int×(List (Int×Int))×Int×Int))(RG:List (Int×Int×Int×Int×Bool))(co:Int)(cn:Int)(ck:Int)(cj:List (Int×Int))(ci:Int)(ce:Int)(ab:Int)(b9:Int)(b7:Int)(bz:Int)(bw:Int)(bv:Int)(bu:Int)(br:Bool):Option ((List (Int×(Int×Int×Int×(List (Int×Int))×Int×Int)×Int×Int×Int×(Int×Int×Int×Int×Bool)))×Bool):=(CZ N RI RG 6 co cn ck cj ci ce ab b9 b7 bz bw bv bu br).bind λ((jv,ju),fp)=>bif decide (fp≠0)then(some ([],false))else((Fp N co cn ck cj ci ce ab b9 b7 bz bw bv bu br).bind λj5=>(Fh N RI RG).bind λ(jt,js)=>some ([(7,(0,0,0,[],0,0),ab,0,0,(0,0,0,0,false))],true))
@[go_sem] def Abe(N:Nat):Spec:=p0<|pG<|pD Ak λRI=>pD AA λRG=>pE<|pG<|pC 6<|pI λco=>pI λcn=>pI λck=>pD Aq λcj=>pI λci=>pI λce=>pI λab=>pI λb9=>pI λb7=>pI λbz=>pI λbw=>pI λbv=>pI λbu=>pB λbr=>pE<|pE<|pF (Mz N RI RG co cn ck cj ci ce ab b9 b7 bz bw bv bu br) ([],false) λr=>.tup [Ay r.1,.b r.2]
theorem mM(N:Nat):AG Tryz.prog 24 (Abe N):=by
 refine Ar x24.ok<|Aw<|AM λRI=>AM λRG=>Ad<|Aw<|Dn<|Aa λco=>Aa λcn=>Aa λck=>AM λcj=>Aa λci=>Aa λce=>Aa λab=>Aa λb9=>Aa λb7=>Aa λbz=>Aa λbw=>Aa λbv=>Aa λbu=>AX λbr=>Ad<|Ad<|As λr h=>wx x24 (BG (Ab (MW N)<|Ab (Nq N)<|Ab (QZ N)<|Aj) (N3 N) (CP N) H3 (H2 N)) λ_ hS F=>?_
 dsimp only[x24,Ah,Aq,AA,Ak];unfold Mz at h;obtain⟨⟨⟨jv,ju⟩,fp⟩,gv,h⟩:=un h;replace F:=fc gv F;refine An hS F h (λ_ h=>?_) (λ_ h=>?_)
 ·exact E2 hS F h
 ·obtain⟨j5,gu,h⟩:=un h;replace F:=fc gu F;refine KR hS F ?_;obtain⟨⟨jt,js⟩,gt,h⟩:=un h;exact E2 hS (fc gt F) h
def MA(N:Nat)(RH:List (Int×Int×Int×(List (Int×Int))×Int×Int))(RS:List (Int×Int×Int×Int×Bool))(bq:Int)(bp:Int)(bo:Int)(bn:List (Int×Int))(bm:Int)(bl:Int)(aa:Int)(bj:Int)(bi:Int)(bh:Int)(bg:Int)(bf:Int)(be:Int)(bb:Bool):Option ((List (Int×(Int×Int×Int×(List (Int×Int))×Int×Int)×Int×Int×Int×(Int×Int×Int×Int×Bool)))×Bool):=(CZ N RH RS 7 bq bp bo bn bm bl aa bj bi bh bg bf be bb).bind λ((jr,jq),fo)=>bif decide (fo≠0)then(some ([],false))else((Fq N bq bp bo bn bm bl aa bj bi bh bg bf be bb).bind λj4=>(Fh N RH RS).bind λ(jp,jo)=>some ([(6,(0,0,0,[],0,0),aa,0,0,(0,0,0,0,false))],true))
@[go_sem] def Abf(N:Nat):Spec:=p0<|pG<|pD Ak λRH=>pD AA λRS=>pE<|pG<|pC 7<|pI λbq=>pI λbp=>pI λbo=>pD Aq λbn=>pI λbm=>pI λbl=>pI λaa=>pI λbj=>pI λbi=>pI λbh=>pI λbg=>pI λbf=>pI λbe=>pB λbb=>pE<|pE<|pF (MA N RH RS bq bp bo bn bm bl aa bj bi bh bg bf be bb) ([],false) λr=>.tup [Ay r.1,.b r.2]
theorem mN(N:Nat):AG Tryz.prog 24 (Abf N):=by
 refine Ar x24.ok<|Aw<|AM λRH=>AM λRS=>Ad<|Aw<|Dn<|Aa λbq=>Aa λbp=>Aa λbo=>AM λbn=>Aa λbm=>Aa λbl=>Aa λaa=>Aa λbj=>Aa λbi=>Aa λbh=>Aa λbg=>Aa λbf=>Aa λbe=>AX λbb=>Ad<|Ad<|As λr h=>wx x24 (BG (Ab (MW N)<|Ab (Nr N)<|Ab (QZ N)<|Aj) (N3 N) (CP N) H3 (H2 N)) λ_ hS F=>?_
 dsimp only[x24,Ah,Aq,AA,Ak];unfold MA at h;obtain⟨⟨⟨jr,jq⟩,fo⟩,gr,h⟩:=un h;replace F:=fc gr F;refine An hS F h (λ_ h=>?_) (λ_ h=>?_)
 ·exact E2 hS F h
 ·obtain⟨j4,gm,h⟩:=un h;replace F:=fc gm F;refine KR hS F ?_;obtain⟨⟨jp,jo⟩,gj,h⟩:=un h;exact E2 hS (fc gj F) h
def MB(N:Nat)(I9:List (Int×Int×Int×(List (Int×Int))×Int×Int))(Ja:List (Int×Int×Int×Int×Bool))(ba:Int)(az:Int)(ay:Int)(aw:Int)(av:List (Int×Int))(au:Int)(aq:Int)(an:Int)(am:Int)(ak:Int)(aj:Int)(ai:Int)(ah:Int)(af:Int)(ae:Bool):Option ((List (Int×(Int×Int×Int×(List (Int×Int))×Int×Int)×Int×Int×Int×(Int×Int×Int×Int×Bool)))×Bool):=(CZ N I9 Ja ba az ay aw av au aq an am ak aj ai ah af ae).bind λ((jn,jm),fj)=>bif decide (fj≠0)then(some ([],false))else((Fr N ba az ay aw av au aq an am ak aj ai ah af ae).bind λfr=>gd (fr=false)<|some ([],false))
@[go_sem] def Abg(N:Nat):Spec:=p0<|pG<|pD Ak λI9=>pD AA λJa=>pE<|pG<|pI λba=>pI λaz=>pI λay=>pI λaw=>pD Aq λav=>pI λau=>pI λaq=>pI λan=>pI λam=>pI λak=>pI λaj=>pI λai=>pI λah=>pI λaf=>pB λae=>pE<|pE<|pF (MB N I9 Ja ba az ay aw av au aq an am ak aj ai ah af ae) ([],false) λr=>.tup [Ay r.1,.b r.2]
theorem mO(N:Nat):AG Tryz.prog 24 (Abg N):=by
 refine Ar x24.ok<|Aw<|AM λI9=>AM λJa=>Ad<|Aw<|Aa λba=>Aa λaz=>Aa λay=>Aa λaw=>AM λav=>Aa λau=>Aa λaq=>Aa λan=>Aa λam=>Aa λak=>Aa λaj=>Aa λai=>Aa λah=>Aa λaf=>AX λae=>Ad<|Ad<|As λr h=>wx x24 (BG (Ab (MW N)<|Ab (Ns N)<|Aj) (N3 N) (CP N) H3 (H2 N)) λ_ hS F=>?_
 dsimp only[x24,Ah,Aq,AA,Ak];unfold MB at h;obtain⟨⟨⟨jn,jm⟩,fj⟩,gi,h⟩:=un h;replace F:=fc gi F;refine An hS F h (λ_ h=>?_) (λ_ h=>?_)
 ·exact E2 hS F h
 ·obtain⟨fr,gh,kv,h⟩:=un h;replace F:=fc kv (fc gh F);refine Om hS F ?_;exact E2 hS F h
end
section
attribute [local irreducible] Ax BO BB Bj BC Bk AY BD BK Cq
attribute [local go_sem] Option.isSome_some gJ MR Cz Pq eX YS S42
theorem Z1:BT 159:=⟨by kernel_rfl,by decide⟩
theorem Abj(ns:List Int)(hn:ns.length<=1000000)(hne:E0 ns≠[]):PCall Tryz.prog 67 [.sl 1 false (ns.map Rq) [.i 0]] (.v (.string (sB (E0 ns)))):=by
 refine Vy S0 _ x67.hf x67.hc x67.hn (by decide) (qZ rfl) λhb M=>?_
 have hS:=S0;have hOK:=Ctx.bd_ok (nt:=23) (hb:=hb) (N:=M) (X:=λ_=>False) (hnt:=by decide) hS;dsimp only[x67,Ah,BW];have hlen:=NC ns;refine go hS f0 ?_;refine Vx hS 0 rfl Z1 (by simp only[go_sem,seval]<;>eq_refl) yT λB=>⟨_,_,_,(by simp only[go_sem,seval]<;>eq_refl),yT,?_⟩
 refine go hS f0 ?_;refine IB (λx:Nat×Nat=>⟨[(10,.i x.1),(9,.i ns.length),(8,.sl 1 false (ns.map Rq) [.i 0]),(3,.v (.pointer (some ⟨B,0,none⟩))),(bk,gB B (E0 (ns.take x.1)))],[],x.2⟩)
  (λx=>x.1<=ns.length) (λx=>ns.length-x.1) (0,50) ?_ ?_ ?_
 ·exact tW _
 ·refine Le.of ?_ ?_ (by simp)<;>(simp only[go_sem,seval,E0];try simp)
 ·rintro⟨j,c⟩ hj;simp only at hj
  repeat' (first
  |((with_reducible first|apply DD|apply EA|apply Eu|apply FL|apply DE|apply DF);(·(first|exact Ctx.fn_ok hS|exact Ctx.rd_ok hS|assumption|exact yT));iterate 2 (·(simp only[go_sem,seval]<;>eq_refl)))
  |(with_reducible first|apply Dz|apply En|apply Di|apply Dj|apply CX|apply Cw|apply CK|apply DW|apply Ec|apply Eo|apply Ep|apply Er|apply Es)
  |(with_reducible apply Et;(·first|rfl|decide))
  |(with_reducible first|apply DB|apply DC|apply Ex|apply Ey|apply Ez|apply yT|apply And.intro yT yT)
  |(fail_if_success with_reducible apply G1);(fail_if_success with_reducible apply Ew);first|omega|(simp only[go_sem,seval];done)
  |fail)
  refine Sv ((j:Int)<ns.length) (by simp only[go_sem,seval]<;>eq_refl) (by first|simp only[Bool.decide_or,Bool.decide_and,decide_not]|simp) (λab=>?_) (λab=>?_)
  ·have hj':j<ns.length:=by omega
   have hrow:=eI_row ns [.i 0] j hj';have hsu:=Uu hj';have hle:=YT ns (j+1);rw[hsu,nK]at hle;have aa:(E0 (ns.take j)).length+(Lp (ns.getD j 0)).length<=140737488355328:=by omega
   repeat' (first
  |((with_reducible first|apply DD|apply EA|apply Eu|apply FL|apply DE|apply DF);(·(first|exact Ctx.fn_ok hS|exact Ctx.rd_ok hS|assumption|exact yT));iterate 2 (·(simp only[go_sem,seval,hrow]<;>eq_refl)))
  |(with_reducible first|apply Dz|apply En|apply Di|apply Dj|apply CX|apply Cw|apply CK|apply DW|apply Ec|apply Eo|apply Ep|apply Er|apply Es)
  |(with_reducible apply Et;(·first|rfl|decide))
  |(with_reducible first|apply DB|apply DC|apply Ex|apply Ey|apply Ez|apply yT|apply And.intro yT yT)
  |(fail_if_success with_reducible apply G1);(fail_if_success with_reducible apply Ew);first|omega|(simp only[go_sem,seval,hrow];done)
  |fail)
   refine KO hS 1 rfl W8 (by simp only[go_sem,seval]<;>eq_refl) yT (by simp only[go_sem,seval]<;>eq_refl) (by simp only[go_sem,seval]<;>eq_refl) (by simp only[go_sem,seval]<;>eq_refl) (by simp only[go_sem,seval,Ej]<;>eq_refl) rfl rfl (Q6 aa) (by simp only[go_sem,seval]<;>eq_refl) yT ?_
   repeat' (first
  |((with_reducible first|apply DD|apply EA|apply Eu|apply FL|apply DE|apply DF);(·(first|exact Ctx.fn_ok hS|exact Ctx.rd_ok hS|assumption|exact yT));iterate 2 (·(simp only[go_sem,seval]<;>eq_refl)))
  |(with_reducible first|apply Dz|apply En|apply Di|apply Dj|apply CX|apply Cw|apply CK|apply DW|apply Ec|apply Eo|apply Ep|apply Er|apply Es)
  |(with_reducible apply Et;(·first|rfl|decide))
  |(with_reducible first|apply DB|apply DC|apply Ex|apply Ey|apply Ez|apply yT|apply And.intro yT yT)
  |(fail_if_success with_reducible apply G1);(fail_if_success with_reducible apply Ew);first|omega|(simp only[go_sem,seval];done)
  |fail)
   refine JL (j+1,c+50) (by show j+1<=_;omega) (by show ns.length-(j+1)<ns.length-j;omega) (Le.of ?_ ?_ ?_)
   ·simp only[go_sem,seval,hsu]<;>simp
   ·simp only[go_sem,seval]
   ·simp
  ·refine go hS f0 ?_;have:j=ns.length:=by omega
   subst this;rw[ID];refine KO hS 0 (ax:=[]) rfl Ut (by simp only[go_sem,seval]<;>eq_refl) yT (by simp only[go_sem,seval]<;>eq_refl) (by simp only[go_sem,seval]<;>eq_refl) (by simp only[go_sem,seval]<;>eq_refl) yT rfl rfl (PO hne) (by simp only[go_sem,seval]<;>eq_refl) yT ?_;refine go hS f0 ?_
   first|refine Ma (by simp only[go_sem,seval]<;>eq_refl) (by simp only[go_sem,seval]) (by simp only[go_sem,seval]) ?_ rfl|refine Mb (by simp only[go_sem,seval]<;>eq_refl) (by simp only[go_sem,seval]) (by simp only[go_sem,seval]) ?_ rfl
   simp only[go_sem,seval]
def EN(_:Nat)(l:List Int):Option (List UInt8):=gd (l.length<=1000000)<|gd (E0 l≠[])<|some (E0 l)
@[go_sem] def s67(N:Nat):Spec:=p0<|pS SD λl=>pE<|pF (EN N l) [] λr=>.v (.string (sB r))
theorem KA(N:Nat):AG Tryz.prog 67 (s67 N):=by
 refine Ar x67.ok<|AF λl=>Ad<|As λr h=>?_
 unfold EN at h;obtain⟨h1,h2,h⟩:=un h;cases h
 exact Abj l h1 h2
end
section
attribute [local irreducible] Ax BO BB Bj BC Bk AY BD BK Cq
attribute [local go_sem] Pq Pq
def KI(N:Nat)(s1684:List UInt8):Option ((List UInt8)×Int):=bif decide (65536<(s1684.length:Int))then(some ([],10))else(gd (((Lp (s1684.length:Int))++s1684).length<=140737488355328)<|some ((Lp (s1684.length:Int))++s1684,0))
@[go_sem] def Aea(N:Nat):Spec:=p0<|pT λs1684=>pE<|pF (KI N s1684) ([],0) λr=>.tup [.v (.string (sB r.1)),.i r.2]
theorem yW(N:Nat):AG Tryz.prog 138 (Aea N):=by
 refine Ar x138.ok<|L1 λs1684=>Ad<|As λr h=>wx x138 (Ab W7<|Aj) λ_ hS F=>?_
 dsimp only[x138,Ah,BW];unfold KI at h;refine An hS F h (λ_ h=>?_) (λ_ h=>?_)
 ·exact Ai hS F h
 ·obtain⟨ah,h⟩:=un h;exact Ai hS F h
def Mp(N:Nat)(s1685:List UInt8)(ab:Int):Option ((List UInt8)×Int×Int):=(B3 N s1685 ab).bind λ(aa,r1688,ae)=>bif decide (ae≠0)then(some ([],0,ae))else(gd ((!((decide (aa<0))||(decide (65536<aa))))=true->(Af ((s1685.length:Int)-r1688)))<|bif ((decide (aa<0))||(decide (65536<aa)))||(decide ((s1685.length:Int)-r1688<aa))then(some ([],0,10))else(gd (Af (r1688+aa))<|gd (0<=r1688/\r1688<=r1688+aa/\r1688+aa<=(s1685.length:Int))<|gd (Af (r1688+aa))<|some ((s1685.drop r1688.toNat).take ((r1688+aa).toNat-r1688.toNat),r1688+aa,0)))
@[go_sem] def Wo(N:Nat):Spec:=p0<|pT λs1685=>pI λab=>pE<|pF (Mp N s1685 ab) ([],0,0) λr=>.tup [.v (.string (sB r.1)),.i r.2.1,.i r.2.2]
theorem Acb(N:Nat):AG Tryz.prog 78 (Wo N):=by
 refine Ar x78.ok<|L1 λs1685=>Aa λab=>Ad<|As λr h=>wx x78 (Ab (Zx N)<|Aj) λ_ hS F=>?_
 dsimp only[x78,Ah,BW];unfold Mp at h;obtain⟨⟨aa,r1688,ae⟩,af,h⟩:=un h;replace F:=fc af F;refine An hS F h (λ_ h=>?_) (λ_ h=>?_)
 ·exact Ai hS F h
 ·obtain⟨ah,h⟩:=un h;refine An hS F h (λ_ h=>?_) (λ_ h=>?_)
  ·exact Ai hS F h
  ·obtain⟨ak,aj,ai,h⟩:=un h;exact Ai hS F h
end
section
attribute [local irreducible] Ax BO BB Bj BC Bk AY BD BK Cq
def MC(N:Nat)(a1:Int)(a2:Int)(a3:Int)(a4:Int)(a5:List (Int×Int))(a6:Int)(a7:Int)(a8:Int)(a9:Int)(gx:Int)(gw:Int)(gv:Int)(gu:Int)(gt:Int)(gr:Bool):Option (List UInt8):=(HL N a2 a3 a4 a5 a6 a7).bind λ(ib,ic)=>(KI N ib).bind λ(g9,r20)=>some g9
@[go_sem] def AeN(N:Nat):Spec:=p0<|pG<|pI λa1=>pI λa2=>pI λa3=>pI λa4=>pS Aq λa5=>pI λa6=>pI λa7=>pI λa8=>pI λa9=>pI λgx=>pI λgw=>pI λgv=>pI λgu=>pI λgt=>pB λgr=>pE<|pE<|pF (MC N a1 a2 a3 a4 a5 a6 a7 a8 a9 gx gw gv gu gt gr) [] λr=>.v (.string (sB r))
theorem Abk(N:Nat):AG Tryz.prog 136 (AeN N):=by
 refine Ar x136.ok<|Aw<|Aa λa1=>Aa λa2=>Aa λa3=>Aa λa4=>AF λa5=>Aa λa6=>Aa λa7=>Aa λa8=>Aa λa9=>Aa λgx=>Aa λgw=>Aa λgv=>Aa λgu=>Aa λgt=>AX λgr=>Ad<|Ad<|As λr h=>wx x136 (Ab (AaJ N)<|Ab (yW N)<|Aj) λ_ hS F=>?_
 dsimp only[x136,Ah,Aq,BW];unfold MC at h;obtain⟨⟨ib,ic⟩,bj,h⟩:=un h;obtain⟨⟨g9,r20⟩,bi,h⟩:=un h;exact Ai hS (fc bi (fc bj F)) h
def LR(N:Nat)(gm:Int)(gj:Int)(gi:Int)(gh:Int)(gg:List (Int×Int))(gc:Int)(fr:Int)(bb:Int)(fq:Int)(fp:Int)(fo:Int)(fj:Int)(fh:Int)(fg:Int)(e9:Bool):Option (List UInt8):=(EN N [bb]).bind λg8=>some g8
@[go_sem] def AeO(N:Nat):Spec:=p0<|pG<|pI λgm=>pI λgj=>pI λgi=>pI λgh=>pS Aq λgg=>pI λgc=>pI λfr=>pI λbb=>pI λfq=>pI λfp=>pI λfo=>pI λfj=>pI λfh=>pI λfg=>pB λe9=>pE<|pE<|pF (LR N gm gj gi gh gg gc fr bb fq fp fo fj fh fg e9) [] λr=>.v (.string (sB r))
theorem Abl(N:Nat):AG Tryz.prog 149 (AeO N):=by
 refine Ar x149.ok<|Aw<|Aa λgm=>Aa λgj=>Aa λgi=>Aa λgh=>AF λgg=>Aa λgc=>Aa λfr=>Aa λbb=>Aa λfq=>Aa λfp=>Aa λfo=>Aa λfj=>Aa λfh=>Aa λfg=>AX λe9=>Ad<|Ad<|As λr h=>wx x149 (Ab (KA N)<|Aj) λ_ hS F=>?_
 dsimp only[x149,Ah,Aq,BW];unfold LR at h;obtain⟨g8,bh,h⟩:=un h;exact Ai hS (fc bh F) h
def LS(N:Nat)(e8:Int)(ba:Int)(ez:Int)(eu:Int)(ej:List (Int×Int))(ei:Int)(eh:Int)(az:Int)(ay:Int)(aw:Int)(ee:Int)(d9:Int)(d8:Int)(d7:Int)(d6:Bool):Option (List UInt8):=(EN N [az,ay,aw,ba]).bind λgz=>some gz
@[go_sem] def RS(N:Nat):Spec:=p0<|pG<|pI λe8=>pI λba=>pI λez=>pI λeu=>pS Aq λej=>pI λei=>pI λeh=>pI λaz=>pI λay=>pI λaw=>pI λee=>pI λd9=>pI λd8=>pI λd7=>pB λd6=>pE<|pE<|pF (LS N e8 ba ez eu ej ei eh az ay aw ee d9 d8 d7 d6) [] λr=>.v (.string (sB r))
theorem Abm(N:Nat):AG Tryz.prog 154 (RS N):=by
 refine Ar x154.ok<|Aw<|Aa λe8=>Aa λba=>Aa λez=>Aa λeu=>AF λej=>Aa λei=>Aa λeh=>Aa λaz=>Aa λay=>Aa λaw=>Aa λee=>Aa λd9=>Aa λd8=>Aa λd7=>AX λd6=>Ad<|Ad<|As λr h=>wx x154 (Ab (KA N)<|Aj) λ_ hS F=>?_
 dsimp only[x154,Ah,Aq,BW];unfold LS at h;obtain⟨gz,bg,h⟩:=un h;exact Ai hS (fc bg F) h
def LT(N:Nat)(d5:Int)(dz:Int)(dw:Int)(du:Int)(dt:List (Int×Int))(dq:Int)(dm:Int)(av:Int)(au:Int)(aq:Int)(dl:Int)(dh:Int)(dg:Int)(de:Int)(db:Bool):Option (List UInt8):=(EN N [av,au,aq]).bind λgy=>some gy
@[go_sem] def AeP(N:Nat):Spec:=p0<|pG<|pI λd5=>pI λdz=>pI λdw=>pI λdu=>pS Aq λdt=>pI λdq=>pI λdm=>pI λav=>pI λau=>pI λaq=>pI λdl=>pI λdh=>pI λdg=>pI λde=>pB λdb=>pE<|pE<|pF (LT N d5 dz dw du dt dq dm av au aq dl dh dg de db) [] λr=>.v (.string (sB r))
theorem Abn(N:Nat):AG Tryz.prog 159 (AeP N):=by
 refine Ar x159.ok<|Aw<|Aa λd5=>Aa λdz=>Aa λdw=>Aa λdu=>AF λdt=>Aa λdq=>Aa λdm=>Aa λav=>Aa λau=>Aa λaq=>Aa λdl=>Aa λdh=>Aa λdg=>Aa λde=>AX λdb=>Ad<|Ad<|As λr h=>wx x159 (Ab (KA N)<|Aj) λ_ hS F=>?_
 dsimp only[x159,Ah,Aq,BW];unfold LT at h;obtain⟨gy,bf,h⟩:=un h;exact Ai hS (fc bf F) h
def KC(N:Nat)(da:Int)(cy:Int)(cu:Int)(cr:Int)(cq:List (Int×Int))(co:Int)(cn:Int)(an:Int)(ck:Int)(cj:Int)(ci:Int)(ce:Int)(b9:Int)(b7:Int)(bz:Bool):Option (List UInt8):=(EN N [an]).bind λr88=>some r88
@[go_sem] def AeQ(N:Nat):Spec:=p0<|pG<|pI λda=>pI λcy=>pI λcu=>pI λcr=>pS Aq λcq=>pI λco=>pI λcn=>pI λan=>pI λck=>pI λcj=>pI λci=>pI λce=>pI λb9=>pI λb7=>pB λbz=>pE<|pE<|pF (KC N da cy cu cr cq co cn an ck cj ci ce b9 b7 bz) [] λr=>.v (.string (sB r))
theorem fK(N:Nat):AG Tryz.prog 162 (AeQ N):=by
 refine Ar x162.ok<|Aw<|Aa λda=>Aa λcy=>Aa λcu=>Aa λcr=>AF λcq=>Aa λco=>Aa λcn=>Aa λan=>Aa λck=>Aa λcj=>Aa λci=>Aa λce=>Aa λb9=>Aa λb7=>AX λbz=>Ad<|Ad<|As λr h=>wx x162 (Ab (KA N)<|Aj) λ_ hS F=>?_
 dsimp only[x162,Ah,Aq,BW];unfold KC at h;obtain⟨r88,be,h⟩:=un h;exact Ai hS (fc be F) h
def MD(N:Nat)(bw:Int)(bv:Int)(bu:Int)(br:Int)(bq:List (Int×Int))(bp:Int)(bo:Int)(bn:Int)(bm:Int)(bl:Int)(af:Int)(ae:Int)(ab:Int)(aa:Int)(ah:Bool):Option (List UInt8):=bif ah then((EN N [af,ae,ab,aa,1]).bind λaj=>some aj)else((EN N [af,ae,ab,aa,0]).bind λai=>some ai)
@[go_sem] def AeR(N:Nat):Spec:=p0<|pG<|pI λbw=>pI λbv=>pI λbu=>pI λbr=>pS Aq λbq=>pI λbp=>pI λbo=>pI λbn=>pI λbm=>pI λbl=>pI λaf=>pI λae=>pI λab=>pI λaa=>pB λah=>pE<|pE<|pF (MD N bw bv bu br bq bp bo bn bm bl af ae ab aa ah) [] λr=>.v (.string (sB r))
theorem Abo(N:Nat):AG Tryz.prog 169 (AeR N):=by
 refine Ar x169.ok<|Aw<|Aa λbw=>Aa λbv=>Aa λbu=>Aa λbr=>AF λbq=>Aa λbp=>Aa λbo=>Aa λbn=>Aa λbm=>Aa λbl=>Aa λaf=>Aa λae=>Aa λab=>Aa λaa=>AX λah=>Ad<|Ad<|As λr h=>wx x169 (Ab (KA N)<|Aj) λ_ hS F=>?_
 dsimp only[x169,Ah,Aq,BW];unfold MD at h;refine An hS F h (λ_ h=>?_) (λ_ h=>?_)
 ·obtain⟨aj,am,h⟩:=un h;exact Ai hS (fc am F) h
 ·obtain⟨ai,ak,h⟩:=un h;exact Ai hS (fc ak F) h
end
attribute [local irreducible] Ax BO BB Bj BC Bk AY BD BK Cq
def Lr(N:Nat)(ig:Int)(ic:Int)(ib:Int)(g9:List (Int×Int))(g8:Int)(gz:Int)(gy:Int)(gx:Int)(gw:Int)(gv:Int)(gu:Int)(gt:Int)(gr:Int)(gm:Bool):Option ((List UInt8)×Int):=(Fj N ig ic ib g9 g8 gz gy gx gw gv gu gt gr gm).bind λjv=>bif !jv then(some ([],170))else((EN N [1]).bind λjn=>(MC N 1 ig ic ib g9 g8 gz gy gx gw gv gu gt gr gm).bind λjm=>gd ((jn++jm).length<=140737488355328)<|some (jn++jm,0))
@[go_sem] def AaT(N:Nat):Spec:=p0<|pG<|pC 1<|pI λig=>pI λic=>pI λib=>pS Aq λg9=>pI λg8=>pI λgz=>pI λgy=>pI λgx=>pI λgw=>pI λgv=>pI λgu=>pI λgt=>pI λgr=>pB λgm=>pE<|pE<|pF (Lr N ig ic ib g9 g8 gz gy gx gw gv gu gt gr gm) ([],0) λr=>.tup [.v (.string (sB r.1)),.i r.2]
theorem lP(N:Nat):AG Tryz.prog 29 (AaT N):=by
 refine Ar x29.ok<|Aw<|Dn<|Aa λig=>Aa λic=>Aa λib=>AF λg9=>Aa λg8=>Aa λgz=>Aa λgy=>Aa λgx=>Aa λgw=>Aa λgv=>Aa λgu=>Aa λgt=>Aa λgr=>AX λgm=>Ad<|Ad<|As λr h=>wx x29 (BG (Ab (Nk N)<|Ab (KA N)<|Ab (Abk N)<|Aj) DX (CP N) DY DZ) λ_ hS F=>?_
 dsimp only[x29,Ah,Aq,BW];unfold Lr at h;obtain⟨jv,kv,h⟩:=un h;replace F:=fc kv F;refine An hS F h (λ_ h=>?_) (λ_ h=>?_)
 ·exact Ai hS F h
 ·obtain⟨jn,kr,jm,kq,i9,h⟩:=un h;exact Ai hS (fc kq (fc kr F)) h
def Lt(N:Nat)(gj:Int)(gi:Int)(gh:Int)(gg:List (Int×Int))(gc:Int)(fr:Int)(fq:Int)(fp:Int)(fo:Int)(fj:Int)(fh:Int)(fg:Int)(e9:Int)(e8:Bool):Option ((List UInt8)×Int):=(Fk N gj gi gh gg gc fr fq fp fo fj fh fg e9 e8).bind λju=>bif !ju then(some ([],170))else((EN N [2]).bind λjl=>(LR N 2 gj gi gh gg gc fr fq fp fo fj fh fg e9 e8).bind λjk=>gd ((jl++jk).length<=140737488355328)<|some (jl++jk,0))
@[go_sem] def AaU(N:Nat):Spec:=p0<|pG<|pC 2<|pI λgj=>pI λgi=>pI λgh=>pS Aq λgg=>pI λgc=>pI λfr=>pI λfq=>pI λfp=>pI λfo=>pI λfj=>pI λfh=>pI λfg=>pI λe9=>pB λe8=>pE<|pE<|pF (Lt N gj gi gh gg gc fr fq fp fo fj fh fg e9 e8) ([],0) λr=>.tup [.v (.string (sB r.1)),.i r.2]
theorem lQ(N:Nat):AG Tryz.prog 29 (AaU N):=by
 refine Ar x29.ok<|Aw<|Dn<|Aa λgj=>Aa λgi=>Aa λgh=>AF λgg=>Aa λgc=>Aa λfr=>Aa λfq=>Aa λfp=>Aa λfo=>Aa λfj=>Aa λfh=>Aa λfg=>Aa λe9=>AX λe8=>Ad<|Ad<|As λr h=>wx x29 (BG (Ab (Nl N)<|Ab (KA N)<|Ab (Abl N)<|Aj) DX (CP N) DY DZ) λ_ hS F=>?_
 dsimp only[x29,Ah,Aq,BW];unfold Lt at h;obtain⟨ju,km,h⟩:=un h;replace F:=fc km F;refine An hS F h (λ_ h=>?_) (λ_ h=>?_)
 ·exact Ai hS F h
 ·obtain⟨jl,kl,jk,kj,i9,h⟩:=un h;exact Ai hS (fc kj (fc kl F)) h
def Lu(N:Nat)(ez:Int)(eu:Int)(ej:Int)(ei:List (Int×Int))(eh:Int)(ee:Int)(d9:Int)(d8:Int)(d7:Int)(d6:Int)(d5:Int)(dz:Int)(dw:Int)(du:Bool):Option ((List UInt8)×Int):=(Fl N ez eu ej ei eh ee d9 d8 d7 d6 d5 dz dw du).bind λjt=>bif !jt then(some ([],170))else((EN N [3]).bind λjj=>(LS N 3 ez eu ej ei eh ee d9 d8 d7 d6 d5 dz dw du).bind λji=>gd ((jj++ji).length<=140737488355328)<|some (jj++ji,0))
@[go_sem] def AaV(N:Nat):Spec:=p0<|pG<|pC 3<|pI λez=>pI λeu=>pI λej=>pS Aq λei=>pI λeh=>pI λee=>pI λd9=>pI λd8=>pI λd7=>pI λd6=>pI λd5=>pI λdz=>pI λdw=>pB λdu=>pE<|pE<|pF (Lu N ez eu ej ei eh ee d9 d8 d7 d6 d5 dz dw du) ([],0) λr=>.tup [.v (.string (sB r.1)),.i r.2]
theorem lR(N:Nat):AG Tryz.prog 29 (AaV N):=by
 refine Ar x29.ok<|Aw<|Dn<|Aa λez=>Aa λeu=>Aa λej=>AF λei=>Aa λeh=>Aa λee=>Aa λd9=>Aa λd8=>Aa λd7=>Aa λd6=>Aa λd5=>Aa λdz=>Aa λdw=>AX λdu=>Ad<|Ad<|As λr h=>wx x29 (BG (Ab (Nn N)<|Ab (KA N)<|Ab (Abm N)<|Aj) DX (CP N) DY DZ) λ_ hS F=>?_
 dsimp only[x29,Ah,Aq,BW];unfold Lu at h;obtain⟨jt,ki,h⟩:=un h;replace F:=fc ki F;refine An hS F h (λ_ h=>?_) (λ_ h=>?_)
 ·exact Ai hS F h
 ·obtain⟨jj,kh,ji,kg,i9,h⟩:=un h;exact Ai hS (fc kg (fc kh F)) h
def Lv(N:Nat)(dt:Int)(dq:Int)(dm:Int)(dl:List (Int×Int))(dh:Int)(dg:Int)(de:Int)(db:Int)(da:Int)(cy:Int)(cu:Int)(cr:Int)(cq:Int)(co:Bool):Option ((List UInt8)×Int):=(Fm N dt dq dm dl dh dg de db da cy cu cr cq co).bind λjs=>bif !js then(some ([],170))else((EN N [4]).bind λjh=>(LT N 4 dt dq dm dl dh dg de db da cy cu cr cq co).bind λjg=>gd ((jh++jg).length<=140737488355328)<|some (jh++jg,0))
@[go_sem] def AaW(N:Nat):Spec:=p0<|pG<|pC 4<|pI λdt=>pI λdq=>pI λdm=>pS Aq λdl=>pI λdh=>pI λdg=>pI λde=>pI λdb=>pI λda=>pI λcy=>pI λcu=>pI λcr=>pI λcq=>pB λco=>pE<|pE<|pF (Lv N dt dq dm dl dh dg de db da cy cu cr cq co) ([],0) λr=>.tup [.v (.string (sB r.1)),.i r.2]
theorem lS(N:Nat):AG Tryz.prog 29 (AaW N):=by
 refine Ar x29.ok<|Aw<|Dn<|Aa λdt=>Aa λdq=>Aa λdm=>AF λdl=>Aa λdh=>Aa λdg=>Aa λde=>Aa λdb=>Aa λda=>Aa λcy=>Aa λcu=>Aa λcr=>Aa λcq=>AX λco=>Ad<|Ad<|As λr h=>wx x29 (BG (Ab (No N)<|Ab (KA N)<|Ab (Abn N)<|Aj) DX (CP N) DY DZ) λ_ hS F=>?_
 dsimp only[x29,Ah,Aq,BW];unfold Lv at h;obtain⟨js,kf,h⟩:=un h;replace F:=fc kf F;refine An hS F h (λ_ h=>?_) (λ_ h=>?_)
 ·exact Ai hS F h
 ·obtain⟨jh,ke,jg,ka,i9,h⟩:=un h;exact Ai hS (fc ka (fc ke F)) h
def Lw(N:Nat)(cn:Int)(ck:Int)(cj:Int)(ci:List (Int×Int))(ce:Int)(b9:Int)(b7:Int)(bz:Int)(bw:Int)(bv:Int)(bu:Int)(br:Int)(bq:Int)(bp:Bool):Option ((List UInt8)×Int):=(Fo N cn ck cj ci ce b9 b7 bz bw bv bu br bq bp).bind λjr=>bif !jr then(some ([],170))else((EN N [5]).bind λjf=>(MD N 5 cn ck cj ci ce b9 b7 bz bw bv bu br bq bp).bind λje=>gd ((jf++je).length<=140737488355328)<|some (jf++je,0))
@[go_sem] def AaX(N:Nat):Spec:=p0<|pG<|pC 5<|pI λcn=>pI λck=>pI λcj=>pS Aq λci=>pI λce=>pI λb9=>pI λb7=>pI λbz=>pI λbw=>pI λbv=>pI λbu=>pI λbr=>pI λbq=>pB λbp=>pE<|pE<|pF (Lw N cn ck cj ci ce b9 b7 bz bw bv bu br bq bp) ([],0) λr=>.tup [.v (.string (sB r.1)),.i r.2]
theorem lT(N:Nat):AG Tryz.prog 29 (AaX N):=by
 refine Ar x29.ok<|Aw<|Dn<|Aa λcn=>Aa λck=>Aa λcj=>AF λci=>Aa λce=>Aa λb9=>Aa λb7=>Aa λbz=>Aa λbw=>Aa λbv=>Aa λbu=>Aa λbr=>Aa λbq=>AX λbp=>Ad<|Ad<|As λr h=>wx x29 (BG (Ab (Np N)<|Ab (KA N)<|Ab (Abo N)<|Aj) DX (CP N) DY DZ) λ_ hS F=>?_
 dsimp only[x29,Ah,Aq,BW];unfold Lw at h;obtain⟨jr,j9,h⟩:=un h;replace F:=fc j9 F;refine An hS F h (λ_ h=>?_) (λ_ h=>?_)
 ·exact Ai hS F h
 ·obtain⟨jf,j8,je,j7,i9,h⟩:=un h;exact Ai hS (fc j7 (fc j8 F)) h
def Lx(N:Nat)(bo:Int)(bn:Int)(bm:Int)(bl:List (Int×Int))(bj:Int)(bi:Int)(bh:Int)(bg:Int)(bf:Int)(be:Int)(bb:Int)(ba:Int)(az:Int)(ay:Bool):Option ((List UInt8)×Int):=(Fp N bo bn bm bl bj bi bh bg bf be bb ba az ay).bind λjq=>bif !jq then(some ([],170))else((EN N [6]).bind λjd=>(KC N 6 bo bn bm bl bj bi bh bg bf be bb ba az ay).bind λjc=>gd ((jd++jc).length<=140737488355328)<|some (jd++jc,0))
@[go_sem] def AaY(N:Nat):Spec:=p0<|pG<|pC 6<|pI λbo=>pI λbn=>pI λbm=>pS Aq λbl=>pI λbj=>pI λbi=>pI λbh=>pI λbg=>pI λbf=>pI λbe=>pI λbb=>pI λba=>pI λaz=>pB λay=>pE<|pE<|pF (Lx N bo bn bm bl bj bi bh bg bf be bb ba az ay) ([],0) λr=>.tup [.v (.string (sB r.1)),.i r.2]
theorem lU(N:Nat):AG Tryz.prog 29 (AaY N):=by
 refine Ar x29.ok<|Aw<|Dn<|Aa λbo=>Aa λbn=>Aa λbm=>AF λbl=>Aa λbj=>Aa λbi=>Aa λbh=>Aa λbg=>Aa λbf=>Aa λbe=>Aa λbb=>Aa λba=>Aa λaz=>AX λay=>Ad<|Ad<|As λr h=>wx x29 (BG (Ab (Nq N)<|Ab (KA N)<|Ab (fK N)<|Aj) DX (CP N) DY DZ) λ_ hS F=>?_
 dsimp only[x29,Ah,Aq,BW];unfold Lx at h;obtain⟨jq,j6,h⟩:=un h;replace F:=fc j6 F;refine An hS F h (λ_ h=>?_) (λ_ h=>?_)
 ·exact Ai hS F h
 ·obtain⟨jd,j5,jc,j4,i9,h⟩:=un h;exact Ai hS (fc j4 (fc j5 F)) h
def Ly(N:Nat)(aw:Int)(av:Int)(au:Int)(aq:List (Int×Int))(an:Int)(am:Int)(ak:Int)(aj:Int)(ai:Int)(ah:Int)(af:Int)(ae:Int)(ab:Int)(aa:Bool):Option ((List UInt8)×Int):=(Fq N aw av au aq an am ak aj ai ah af ae ab aa).bind λjp=>bif !jp then(some ([],170))else((EN N [7]).bind λjb=>(KC N 7 aw av au aq an am ak aj ai ah af ae ab aa).bind λja=>gd ((jb++ja).length<=140737488355328)<|some (jb++ja,0))
@[go_sem] def AaZ(N:Nat):Spec:=p0<|pG<|pC 7<|pI λaw=>pI λav=>pI λau=>pS Aq λaq=>pI λan=>pI λam=>pI λak=>pI λaj=>pI λai=>pI λah=>pI λaf=>pI λae=>pI λab=>pB λaa=>pE<|pE<|pF (Ly N aw av au aq an am ak aj ai ah af ae ab aa) ([],0) λr=>.tup [.v (.string (sB r.1)),.i r.2]
theorem lV(N:Nat):AG Tryz.prog 29 (AaZ N):=by
 refine Ar x29.ok<|Aw<|Dn<|Aa λaw=>Aa λav=>Aa λau=>AF λaq=>Aa λan=>Aa λam=>Aa λak=>Aa λaj=>Aa λai=>Aa λah=>Aa λaf=>Aa λae=>Aa λab=>AX λaa=>Ad<|Ad<|As λr h=>wx x29 (BG (Ab (Nr N)<|Ab (KA N)<|Ab (fK N)<|Aj) DX (CP N) DY DZ) λ_ hS F=>?_
 dsimp only[x29,Ah,Aq,BW];unfold Ly at h;obtain⟨jp,jz,h⟩:=un h;replace F:=fc jz F;refine An hS F h (λ_ h=>?_) (λ_ h=>?_)
 ·exact Ai hS F h
 ·obtain⟨jb,jy,ja,jx,i9,h⟩:=un h;exact Ai hS (fc jx (fc jy F)) h
def Lz(N:Nat)(i8:Int)(i7:Int)(i6:Int)(i5:Int)(i4:List (Int×Int))(iz:Int)(iy:Int)(iw:Int)(iv:Int)(ir:Int)(iq:Int)(ip:Int)(im:Int)(ij:Int)(ii:Bool):Option ((List UInt8)×Int):=(Fr N i8 i7 i6 i5 i4 iz iy iw iv ir iq ip im ij ii).bind λjo=>gd (jo=false)<|some ([],170)
@[go_sem] def Aa0(N:Nat):Spec:=p0<|pG<|pI λi8=>pI λi7=>pI λi6=>pI λi5=>pS Aq λi4=>pI λiz=>pI λiy=>pI λiw=>pI λiv=>pI λir=>pI λiq=>pI λip=>pI λim=>pI λij=>pB λii=>pE<|pE<|pF (Lz N i8 i7 i6 i5 i4 iz iy iw iv ir iq ip im ij ii) ([],0) λr=>.tup [.v (.string (sB r.1)),.i r.2]
theorem lW(N:Nat):AG Tryz.prog 29 (Aa0 N):=by
 refine Ar x29.ok<|Aw<|Aa λi8=>Aa λi7=>Aa λi6=>Aa λi5=>AF λi4=>Aa λiz=>Aa λiy=>Aa λiw=>Aa λiv=>Aa λir=>Aa λiq=>Aa λip=>Aa λim=>Aa λij=>AX λii=>Ad<|Ad<|As λr h=>wx x29 (BG (Ab (Ns N)<|Aj) DX (CP N) DY DZ) λ_ hS F=>?_
 dsimp only[x29,Ah,Aq,BW];unfold Lz at h;obtain⟨jo,jw,i9,h⟩:=un h;replace F:=fc i9 (fc jw F);refine Om hS F ?_;exact Ai hS F h
