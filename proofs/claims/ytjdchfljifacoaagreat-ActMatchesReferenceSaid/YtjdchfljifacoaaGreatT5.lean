import Derived.Test.YtjdchfljifacoaaGreatU2
set_option linter.all false
set_option maxRecDepth 100000
set_option maxHeartbeats 8000000
namespace Go.Proofs.YtjdchfljifacoaaGreat.Am
open Go
section
attribute [local irreducible] Ax BO BB Bj BC Bk AY BD BK Cq
attribute [local go_sem] kF Nj JT JU qU qUD pZ qv K2
def Mu(N:Nat)(s1:List (Int×Int×Int×(List (Int×Int))×Int×Int))(s2:List (Int×Int×Int×Int×Bool))(a4:Int)(a5:Int)(a6:Int)(a7:List (Int×Int))(a8:Int)(a9:Int)(ki:Int)(kh:Int)(kg:Int)(kf:Int)(ke:Int)(ka:Int)(j9:Int)(j8:Bool):Option ((List (Int×(Int×Int×Int×(List (Int×Int))×Int×Int)×Int×Int×Int×(Int×Int×Int×Int×Bool)))×Bool):=(CZ N s1 s2 1 a4 a5 a6 a7 a8 a9 ki kh kg kf ke ka j9 j8).bind λ((lz,lr),r20)=>bif decide (r20≠0)then(some ([],false))else((Fj N a4 a5 a6 a7 a8 a9 ki kh kg kf ke ka j9 j8).bind λmc=>(Fh N s1 s2).bind λ(lq,lm)=>some ([(2,(0,0,0,[],0,0),a4,0,0,(0,0,0,0,false))],true))
@[go_sem] def Aa9(N:Nat):Spec:=p0<|(Aoh<|qD Ak<|qD AA<|Aof<|Aoh<|Aoe 1<|Aoi<|Aoi<|Aoi<|qD Aq<|Aoi<|Aoi<|Aoi<|Aoi<|Aoi<|Aoi<|Aoi<|Aoi<|Aoi<|Aod<|Aof<|Aof<|Aog ([],false) λr=>.tup [Ay r.1,.b r.2]) (Mu N)
theorem mH(N:Nat):AG Tryz.prog 24 (Aa9 N):=by
 refine fk (Aoq x24 (BG (Ab (MW N)<|Ab (Nk N)<|Ab (QZ N)<|Aj) (N3 N) (CP N) H3 (H2 N))) ?_;intro s1 s2 a4 a5 a6 a7 a8 a9 ki kh kg kf ke ka j9 j8 r h _ hS F;dsimp only[x24,Ah,Aq,AA,Ak];unfold Mu at h;obtain⟨⟨⟨lz,lr⟩,r20⟩,je,h⟩:=un h;replace F:=fc je F;refine An hS F h (λ_ h=>?_) (λ_ h=>?_)
 ·exact E2 hS F h
 ·obtain⟨mc,jd,h⟩:=un h;replace F:=fc jd F;refine KR hS F ?_;obtain⟨⟨lq,lm⟩,jc,h⟩:=un h;exact E2 hS (fc jc F) h
def Mv(N:Nat)(Xd:List (Int×Int×Int×(List (Int×Int))×Int×Int))(Wx:List (Int×Int×Int×Int×Bool))(gy:Int)(gx:Int)(gw:Int)(gv:List (Int×Int))(gu:Int)(gt:Int)(gr:Int)(gm:Int)(gj:Int)(gi:Int)(gh:Int)(gg:Int)(ge:Int)(gc:Bool):Option ((List (Int×(Int×Int×Int×(List (Int×Int))×Int×Int)×Int×Int×Int×(Int×Int×Int×Int×Bool)))×Bool):=(CZ N Xd Wx 2 gy gx gw gv gu gt gr gm gj gi gh gg ge gc).bind λ((lj,li),kr)=>bif decide (kr≠0)then(some ([],false))else((Fk N gy gx gw gv gu gt gr gm gj gi gh gg ge gc).bind λmb=>(Fh N Xd Wx).bind λ(kq,km)=>(N2 N kq km 2 gy gx gw gv gu gt gr gm gj gi gh gg ge gc).bind λl53=>some (l53, !l53.isEmpty))
@[go_sem] def Aba(N:Nat):Spec:=p0<|(Aoh<|qD Ak<|qD AA<|Aof<|Aoh<|Aoe 2<|Aoi<|Aoi<|Aoi<|qD Aq<|Aoi<|Aoi<|Aoi<|Aoi<|Aoi<|Aoi<|Aoi<|Aoi<|Aoi<|Aod<|Aof<|Aof<|Aog ([],false) λr=>.tup [Ay r.1,.b r.2]) (Mv N)
theorem mI(N:Nat):AG Tryz.prog 24 (Aba N):=by
 refine fk (Aoq x24 (BG (Ab (MW N)<|Ab (Nl N)<|Ab (QZ N)<|Aj) (N3 N) (CP N) H3 (H2 N))) ?_;intro Xd Wx gy gx gw gv gu gt gr gm gj gi gh gg ge gc r h _ hS F;dsimp only[x24,Ah,Aq,AA,Ak];unfold Mv at h;obtain⟨⟨⟨lj,li⟩,kr⟩,jb,h⟩:=un h;replace F:=fc jb F;refine An hS F h (λ_ h=>?_) (λ_ h=>?_)
 ·exact E2 hS F h
 ·obtain⟨mb,ja,h⟩:=un h;replace F:=fc ja F;refine KR hS F ?_;obtain⟨⟨kq,km⟩,ei,h⟩:=un h;obtain⟨l53,eh,h⟩:=un h;cases l53 with
  |nil=>exact AcQ hS (fc eh (fc ei F)) h
  |cons x xs=>exact E2 hS (fc eh (fc ei F)) h
def Mw(N:Nat)(s55:List (Int×Int×Int×(List (Int×Int))×Int×Int))(YV:List (Int×Int×Int×Int×Bool))(j7:Int)(j6:Int)(j5:Int)(j4:List (Int×Int))(jz:Int)(jy:Int)(jx:Int)(jw:Int)(jv:Int)(ju:Int)(jt:Int)(js:Int)(jr:Int)(jq:Bool):Option ((List (Int×(Int×Int×Int×(List (Int×Int))×Int×Int)×Int×Int×Int×(Int×Int×Int×Int×Bool)))×Bool):=(CZ N s55 YV 3 j7 j6 j5 j4 jz jy jx jw jv ju jt js jr jq).bind λ((lh,lg),kl)=>bif decide (kl≠0)then(some ([],false))else((Fl N j7 j6 j5 j4 jz jy jx jw jv ju jt js jr jq).bind λma=>some ([],false))
@[go_sem] def Abb(N:Nat):Spec:=p0<|(Aoh<|qD Ak<|qD AA<|Aof<|Aoh<|Aoe 3<|Aoi<|Aoi<|Aoi<|qD Aq<|Aoi<|Aoi<|Aoi<|Aoi<|Aoi<|Aoi<|Aoi<|Aoi<|Aoi<|Aod<|Aof<|Aof<|Aog ([],false) λr=>.tup [Ay r.1,.b r.2]) (Mw N)
theorem mJ(N:Nat):AG Tryz.prog 24 (Abb N):=by
 refine fk (Aoq x24 (BG (Ab (MW N)<|Ab (Nn N)<|Aj) (N3 N) (CP N) H3 (H2 N))) ?_;intro s55 YV j7 j6 j5 j4 jz jy jx jw jv ju jt js jr jq r h _ hS F;dsimp only[x24,Ah,Aq,AA,Ak];unfold Mw at h;obtain⟨⟨⟨lh,lg⟩,kl⟩,i9,h⟩:=un h;replace F:=fc i9 F;refine An hS F h (λ_ h=>?_) (λ_ h=>?_)
 ·exact E2 hS F h
 ·obtain⟨ma,i8,h⟩:=un h;replace F:=fc i8 F;refine Om hS F ?_;exact E2 hS F h
def Mx(N:Nat)(Wo:List (Int×Int×Int×(List (Int×Int))×Int×Int))(S2:List (Int×Int×Int×Int×Bool))(jp:Int)(jo:Int)(jn:Int)(jm:List (Int×Int))(jl:Int)(jk:Int)(fx:Int)(fr:Int)(fq:Int)(jj:Int)(ji:Int)(jh:Int)(jg:Int)(jf:Bool):Option ((List (Int×(Int×Int×Int×(List (Int×Int))×Int×Int)×Int×Int×Int×(Int×Int×Int×Int×Bool)))×Bool):=(CZ N Wo S2 4 jp jo jn jm jl jk fx fr fq jj ji jh jg jf).bind λ((lf,kz),kj)=>bif decide (kj≠0)then(some ([],false))else((Fm N jp jo jn jm jl jk fx fr fq jj ji jh jg jf).bind λl7=>(Fh N Wo S2).bind λ(iw,iv)=>gd (Af (-fr))<|gd (Af (-fq))<|some ([(4,(0,0,0,[],0,0),fx,-fr,-fq,(0,0,0,0,false))],true))
@[go_sem] def Abc(N:Nat):Spec:=p0<|(Aoh<|qD Ak<|qD AA<|Aof<|Aoh<|Aoe 4<|Aoi<|Aoi<|Aoi<|qD Aq<|Aoi<|Aoi<|Aoi<|Aoi<|Aoi<|Aoi<|Aoi<|Aoi<|Aoi<|Aod<|Aof<|Aof<|Aog ([],false) λr=>.tup [Ay r.1,.b r.2]) (Mx N)
theorem mK(N:Nat):AG Tryz.prog 24 (Abc N):=by
 refine fk (Aoq x24 (BG (Ab (MW N)<|Ab (No N)<|Ab (QZ N)<|Aj) (N3 N) (CP N) H3 (H2 N))) ?_;intro Wo S2 jp jo jn jm jl jk fx fr fq jj ji jh jg jf r h _ hS F;dsimp only[x24,Ah,Aq,AA,Ak];unfold Mx at h;obtain⟨⟨⟨lf,kz⟩,kj⟩,i7,h⟩:=un h;replace F:=fc i7 F;refine An hS F h (λ_ h=>?_) (λ_ h=>?_)
 ·exact E2 hS F h
 ·obtain⟨l7,i6,h⟩:=un h;replace F:=fc i6 F;refine KR hS F ?_;obtain⟨⟨iw,iv⟩,fp,h⟩:=un h;obtain⟨kv,md,h⟩:=un h;exact E2 hS (fc fp F) h
def My(N:Nat)(Tk:List (Int×Int×Int×(List (Int×Int))×Int×Int))(s105:List (Int×Int×Int×Int×Bool))(dw:Int)(du:Int)(dt:Int)(dq:List (Int×Int))(dm:Int)(dl:Int)(dh:Int)(dg:Int)(de:Int)(db:Int)(da:Int)(cz:Int)(cy:Int)(cu:Bool):Option ((List (Int×(Int×Int×Int×(List (Int×Int))×Int×Int)×Int×Int×Int×(Int×Int×Int×Int×Bool)))×Bool):=(CZ N Tk s105 5 dw du dt dq dm dl dh dg de db da cz cy cu).bind λ((ir,iq),d9)=>bif decide (d9≠0)then(some ([],false))else((Fo N dw du dt dq dm dl dh dg de db da cz cy cu).bind λi5=>some ([],false))
@[go_sem] def Abd(N:Nat):Spec:=p0<|(Aoh<|qD Ak<|qD AA<|Aof<|Aoh<|Aoe 5<|Aoi<|Aoi<|Aoi<|qD Aq<|Aoi<|Aoi<|Aoi<|Aoi<|Aoi<|Aoi<|Aoi<|Aoi<|Aoi<|Aod<|Aof<|Aof<|Aog ([],false) λr=>.tup [Ay r.1,.b r.2]) (My N)
theorem mL(N:Nat):AG Tryz.prog 24 (Abd N):=by
 refine fk (Aoq x24 (BG (Ab (MW N)<|Ab (Np N)<|Aj) (N3 N) (CP N) H3 (H2 N))) ?_;intro Tk s105 dw du dt dq dm dl dh dg de db da cz cy cu r h _ hS F;dsimp only[x24,Ah,Aq,AA,Ak];unfold My at h;obtain⟨⟨⟨ir,iq⟩,d9⟩,fo,h⟩:=un h;replace F:=fc fo F;refine An hS F h (λ_ h=>?_) (λ_ h=>?_)
 ·exact E2 hS F h
 ·obtain⟨i5,fm,h⟩:=un h;replace F:=fc fm F;refine Om hS F ?_;exact E2 hS F h
def Mz(N:Nat)(RI:List (Int×Int×Int×(List (Int×Int))×Int×Int))(RG:List (Int×Int×Int×Int×Bool))(cr:Int)(cq:Int)(co:Int)(cn:List (Int×Int))(cj:Int)(ci:Int)(ab:Int)(ce:Int)(b9:Int)(b7:Int)(bz:Int)(bw:Int)(bv:Int)(bu:Bool):Option ((List (Int×(Int×Int×Int×(List (Int×Int))×Int×Int)×Int×Int×Int×(Int×Int×Int×Int×Bool)))×Bool):=(CZ N RI RG 6 cr cq co cn cj ci ab ce b9 b7 bz bw bv bu).bind λ((ip,im),d8)=>bif decide (d8≠0)then(some ([],false))else((Fp N cr cq co cn cj ci ab ce b9 b7 bz bw bv bu).bind λiz=>(Fh N RI RG).bind λ(ij,ii)=>some ([(7,(0,0,0,[],0,0),ab,0,0,(0,0,0,0,false))],true))
@[go_sem] def Abe(N:Nat):Spec:=p0<|(Aoh<|qD Ak<|qD AA<|Aof<|Aoh<|Aoe 6<|Aoi<|Aoi<|Aoi<|qD Aq<|Aoi<|Aoi<|Aoi<|Aoi<|Aoi<|Aoi<|Aoi<|Aoi<|Aoi<|Aod<|Aof<|Aof<|Aog ([],false) λr=>.tup [Ay r.1,.b r.2]) (Mz N)
theorem mM(N:Nat):AG Tryz.prog 24 (Abe N):=by
 refine fk (Aoq x24 (BG (Ab (MW N)<|Ab (Nq N)<|Ab (QZ N)<|Aj) (N3 N) (CP N) H3 (H2 N))) ?_;intro RI RG cr cq co cn cj ci ab ce b9 b7 bz bw bv bu r h _ hS F;dsimp only[x24,Ah,Aq,AA,Ak];unfold Mz at h;obtain⟨⟨⟨ip,im⟩,d8⟩,fj,h⟩:=un h;replace F:=fc fj F;refine An hS F h (λ_ h=>?_) (λ_ h=>?_)
 ·exact E2 hS F h
 ·obtain⟨iz,fh,h⟩:=un h;replace F:=fc fh F;refine KR hS F ?_;obtain⟨⟨ij,ii⟩,fg,h⟩:=un h;exact E2 hS (fc fg F) h
def MA(N:Nat)(RH:List (Int×Int×Int×(List (Int×Int))×Int×Int))(RS:List (Int×Int×Int×Int×Bool))(br:Int)(bq:Int)(bp:Int)(bo:List (Int×Int))(bn:Int)(bm:Int)(aa:Int)(bl:Int)(bj:Int)(bi:Int)(bh:Int)(bg:Int)(bf:Int)(be:Bool):Option ((List (Int×(Int×Int×Int×(List (Int×Int))×Int×Int)×Int×Int×Int×(Int×Int×Int×Int×Bool)))×Bool):=(CZ N RH RS 7 br bq bp bo bn bm aa bl bj bi bh bg bf be).bind λ((ig,ic),d7)=>bif decide (d7≠0)then(some ([],false))else((Fq N br bq bp bo bn bm aa bl bj bi bh bg bf be).bind λiy=>(Fh N RH RS).bind λ(ib,g9)=>some ([(6,(0,0,0,[],0,0),aa,0,0,(0,0,0,0,false))],true))
@[go_sem] def Abf(N:Nat):Spec:=p0<|(Aoh<|qD Ak<|qD AA<|Aof<|Aoh<|Aoe 7<|Aoi<|Aoi<|Aoi<|qD Aq<|Aoi<|Aoi<|Aoi<|Aoi<|Aoi<|Aoi<|Aoi<|Aoi<|Aoi<|Aod<|Aof<|Aof<|Aog ([],false) λr=>.tup [Ay r.1,.b r.2]) (MA N)
theorem mN(N:Nat):AG Tryz.prog 24 (Abf N):=by
 refine fk (Aoq x24 (BG (Ab (MW N)<|Ab (Nr N)<|Ab (QZ N)<|Aj) (N3 N) (CP N) H3 (H2 N))) ?_;intro RH RS br bq bp bo bn bm aa bl bj bi bh bg bf be r h _ hS F;dsimp only[x24,Ah,Aq,AA,Ak];unfold MA at h;obtain⟨⟨⟨ig,ic⟩,d7⟩,e9,h⟩:=un h;replace F:=fc e9 F;refine An hS F h (λ_ h=>?_) (λ_ h=>?_)
 ·exact E2 hS F h
 ·obtain⟨iy,e8,h⟩:=un h;replace F:=fc e8 F;refine KR hS F ?_;obtain⟨⟨ib,g9⟩,ez,h⟩:=un h;exact E2 hS (fc ez F) h
def MB(N:Nat)(I9:List (Int×Int×Int×(List (Int×Int))×Int×Int))(Ja:List (Int×Int×Int×Int×Bool))(bb:Int)(ba:Int)(az:Int)(ay:Int)(av:List (Int×Int))(au:Int)(aq:Int)(an:Int)(am:Int)(ak:Int)(aj:Int)(ai:Int)(ah:Int)(af:Int)(ae:Bool):Option ((List (Int×(Int×Int×Int×(List (Int×Int))×Int×Int)×Int×Int×Int×(Int×Int×Int×Int×Bool)))×Bool):=(CZ N I9 Ja bb ba az ay av au aq an am ak aj ai ah af ae).bind λ((g8,gz),dz)=>bif decide (dz≠0)then(some ([],false))else((Fr N bb ba az ay av au aq an am ak aj ai ah af ae).bind λee=>gd (ee=false)<|some ([],false))
@[go_sem] def Abg(N:Nat):Spec:=p0<|(Aoh<|qD Ak<|qD AA<|Aof<|Aoh<|Aoi<|Aoi<|Aoi<|Aoi<|qD Aq<|Aoi<|Aoi<|Aoi<|Aoi<|Aoi<|Aoi<|Aoi<|Aoi<|Aoi<|Aod<|Aof<|Aof<|Aog ([],false) λr=>.tup [Ay r.1,.b r.2]) (MB N)
theorem mO(N:Nat):AG Tryz.prog 24 (Abg N):=by
 refine fk (Aoq x24 (BG (Ab (MW N)<|Ab (Ns N)<|Aj) (N3 N) (CP N) H3 (H2 N))) ?_;intro I9 Ja bb ba az ay av au aq an am ak aj ai ah af ae r h _ hS F;dsimp only[x24,Ah,Aq,AA,Ak];unfold MB at h;obtain⟨⟨⟨g8,gz⟩,dz⟩,ep,h⟩:=un h;replace F:=fc ep F;refine An hS F h (λ_ h=>?_) (λ_ h=>?_)
 ·exact E2 hS F h
 ·obtain⟨ee,ej,kv,h⟩:=un h;replace F:=fc kv (fc ej F);refine Om hS F ?_;exact E2 hS F h
end
section
attribute [local irreducible] Ax BO BB Bj BC Bk AY BD BK Cq
attribute [local go_sem] Option.isSome_some gJ MR Cz Pq eX YS S42
theorem Z1:BT 159:=⟨by kernel_rfl,by decide⟩
theorem Abj(ns:List Int)(hn:ns.length<=1000000)(hne:E0 ns≠[]):PCall Tryz.prog 67 [.sl 1 false (ns.map Rq) [.i 0]] (.v (.string (sB (E0 ns)))):=by
 refine Vy S0 _ x67.hf x67.hc x67.hn (by decide) (oL rfl) λhb M=>?_
 have hS:=S0;have hOK:=Ctx.bd_ok (nt:=23) (hb:=hb) (N:=M) (X:=λ_=>False) (hnt:=by decide) hS;dsimp only[x67,Ah,BW];have hlen:=NC ns;refine go hS f0 ?_;refine Vx hS 0 rfl Z1 (by simp only[go_sem,seval]<;>eq_refl) yT λB=>⟨_,_,_,(by simp only[go_sem,seval]<;>eq_refl),yT,?_⟩
 refine go hS f0 ?_;refine IB (λx:Nat×Nat=>⟨[(10,.i x.1),(9,.i ns.length),(8,.sl 1 false (ns.map Rq) [.i 0]),(3,.v (.pointer (some ⟨B,0,none⟩))),(bk,gB B (E0 (ns.take x.1)))],[],x.2⟩)
  (λx=>x.1<=ns.length) (λx=>ns.length-x.1) (0,50) ?_ ?_ ?_
 ·exact tD _
 ·refine Le.of ?_ ?_ (by simp)<;>(simp only[go_sem,seval,E0];try simp)
 ·rintro⟨j,c⟩ hj;simp only at hj
  repeat' (first
  |((with_reducible first|apply DD|apply EA|apply Eu|apply FL|apply DE|apply DF);(·(first|exact Ctx.fn_ok hS|exact Ctx.rd_ok hS|assumption|exact yT));iterate 2 (·(simp only[go_sem,seval]<;>eq_refl)))
  |(with_reducible first|apply Dz|apply En|apply Di|apply Dj|apply CX|apply Cw|apply CK|apply DW|apply Ec|apply Eo|apply Ep|apply Er|apply Es)
  |(with_reducible apply Et;(·first|rfl|decide))
  |(with_reducible first|apply DB|apply DC|apply Ex|apply Ey|apply Ez|apply yT|apply And.intro yT yT)
  |(fail_if_success with_reducible apply G1);(fail_if_success with_reducible apply Ew);first|omega|(simp only[go_sem,seval];done)
  |fail)
  refine Sv ((j:Int)<ns.length) (by simp only[go_sem,seval]<;>eq_refl) (by first|simp only[Bool.decide_or,Bool.decide_and,decide_not]|simp) (λab=>?_) (λab=>?_)
  ·have hj':j<ns.length:=by omega
   have hrow:=eI_row ns [.i 0] j hj';have hsu:=Uu hj';have hle:=YT ns (j+1);rw[hsu,jT]at hle;have aa:(E0 (ns.take j)).length+(Lp (ns.getD j 0)).length<=140737488355328:=by omega
   repeat' (first
  |((with_reducible first|apply DD|apply EA|apply Eu|apply FL|apply DE|apply DF);(·(first|exact Ctx.fn_ok hS|exact Ctx.rd_ok hS|assumption|exact yT));iterate 2 (·(simp only[go_sem,seval,hrow]<;>eq_refl)))
  |(with_reducible first|apply Dz|apply En|apply Di|apply Dj|apply CX|apply Cw|apply CK|apply DW|apply Ec|apply Eo|apply Ep|apply Er|apply Es)
  |(with_reducible apply Et;(·first|rfl|decide))
  |(with_reducible first|apply DB|apply DC|apply Ex|apply Ey|apply Ez|apply yT|apply And.intro yT yT)
  |(fail_if_success with_reducible apply G1);(fail_if_success with_reducible apply Ew);first|omega|(simp only[go_sem,seval,hrow];done)
  |fail)
   refine KO hS 1 rfl W8 (by simp only[go_sem,seval]<;>eq_refl) yT (by simp only[go_sem,seval]<;>eq_refl) (by simp only[go_sem,seval]<;>eq_refl) (by simp only[go_sem,seval]<;>eq_refl) (by simp only[go_sem,seval,Ej]<;>eq_refl) rfl rfl (Q6 aa) (by simp only[go_sem,seval]<;>eq_refl) yT ?_
   repeat' (first
  |((with_reducible first|apply DD|apply EA|apply Eu|apply FL|apply DE|apply DF);(·(first|exact Ctx.fn_ok hS|exact Ctx.rd_ok hS|assumption|exact yT));iterate 2 (·(simp only[go_sem,seval]<;>eq_refl)))
  |(with_reducible first|apply Dz|apply En|apply Di|apply Dj|apply CX|apply Cw|apply CK|apply DW|apply Ec|apply Eo|apply Ep|apply Er|apply Es)
  |(with_reducible apply Et;(·first|rfl|decide))
  |(with_reducible first|apply DB|apply DC|apply Ex|apply Ey|apply Ez|apply yT|apply And.intro yT yT)
  |(fail_if_success with_reducible apply G1);(fail_if_success with_reducible apply Ew);first|omega|(simp only[go_sem,seval];done)
  |fail)
   refine JL (j+1,c+50) (by show j+1<=_;omega) (by show ns.length-(j+1)<ns.length-j;omega) (Le.of ?_ ?_ ?_)
   ·simp only[go_sem,seval,hsu]<;>simp
   ·simp only[go_sem,seval]
   ·simp
  ·refine go hS f0 ?_;have:j=ns.length:=by omega
   subst this;rw[KJ];refine KO hS 0 (ax:=[]) rfl Ut (by simp only[go_sem,seval]<;>eq_refl) yT (by simp only[go_sem,seval]<;>eq_refl) (by simp only[go_sem,seval]<;>eq_refl) (by simp only[go_sem,seval]<;>eq_refl) yT rfl rfl (PO hne) (by simp only[go_sem,seval]<;>eq_refl) yT ?_;refine go hS f0 ?_
   first|refine Ma (by simp only[go_sem,seval]<;>eq_refl) (by simp only[go_sem,seval]) (by simp only[go_sem,seval]) ?_ rfl|refine Mb (by simp only[go_sem,seval]<;>eq_refl) (by simp only[go_sem,seval]) (by simp only[go_sem,seval]) ?_ rfl
   simp only[go_sem,seval]
def EN(_:Nat)(l:List Int):Option (List UInt8):=gd (l.length<=1000000)<|gd (E0 l≠[])<|some (E0 l)
@[go_sem] def s67(N:Nat):Spec:=p0<|pS SD λl=>pE<|pF (EN N l) [] λr=>.v (.string (sB r))
theorem KA(N:Nat):AG Tryz.prog 67 (s67 N):=by
 refine Ar x67.ok<|AF λl=>Ad<|As λr h=>?_
 unfold EN at h;obtain⟨h1,h2,h⟩:=un h;cases h
 exact Abj l h1 h2
end
section
attribute [local irreducible] Ax BO BB Bj BC Bk AY BD BK Cq
attribute [local go_sem] Pq Pq
def KI(N:Nat)(s1684:List UInt8):Option ((List UInt8)×Int):=bif decide (65536<(s1684.length:Int))then(some ([],10))else(gd (((Lp (s1684.length:Int))++s1684).length<=140737488355328)<|some ((Lp (s1684.length:Int))++s1684,0))
@[go_sem] def Aea(N:Nat):Spec:=p0<|(Aoo<|Aof<|Aog ([],0) λr=>.tup [.v (.string (sB r.1)),.i r.2]) (KI N)
theorem yW(N:Nat):AG Tryz.prog 138 (Aea N):=by
 refine fk (Aoq AlK (Ab W7<|Aj)) ?_;intro s1684 r h _ hS F;dsimp only[AlK,Ah,BW];unfold KI at h;refine An hS F h (λ_ h=>?_) (λ_ h=>?_)
 ·exact Ai hS F h
 ·obtain⟨ah,h⟩:=un h;exact Ai hS F h
def Mp(N:Nat)(s1685:List UInt8)(ae:Int):Option ((List UInt8)×Int×Int):=(B3 N s1685 ae).bind λ(aa,r1688,ab)=>bif decide (ab≠0)then(some ([],0,ab))else(gd ((!((decide (aa<0))||(decide (65536<aa))))=true->(Af ((s1685.length:Int)-r1688)))<|bif ((decide (aa<0))||(decide (65536<aa)))||(decide ((s1685.length:Int)-r1688<aa))then(some ([],0,10))else(gd (Af (r1688+aa))<|gd (0<=r1688/\r1688<=r1688+aa/\r1688+aa<=(s1685.length:Int))<|gd (Af (r1688+aa))<|some ((s1685.drop r1688.toNat).take ((r1688+aa).toNat-r1688.toNat),r1688+aa,0)))
@[go_sem] def Wo(N:Nat):Spec:=p0<|(Aoo<|Aoi<|Aof<|Aog ([],0,0) λr=>.tup [.v (.string (sB r.1)),.i r.2.1,.i r.2.2]) (Mp N)
theorem Acb(N:Nat):AG Tryz.prog 78 (Wo N):=by
 refine fk (Aoq x78 (Ab (Zx N)<|Aj)) ?_;intro s1685 ae r h _ hS F;dsimp only[x78,Ah,BW];unfold Mp at h;obtain⟨⟨aa,r1688,ab⟩,af,h⟩:=un h;replace F:=fc af F;refine An hS F h (λ_ h=>?_) (λ_ h=>?_)
 ·exact Ai hS F h
 ·obtain⟨ah,h⟩:=un h;refine An hS F h (λ_ h=>?_) (λ_ h=>?_)
  ·exact Ai hS F h
  ·obtain⟨ak,aj,ai,h⟩:=un h;exact Ai hS F h
end
section
attribute [local irreducible] Ax BO BB Bj BC Bk AY BD BK Cq
def MC(N:Nat)(a1:Int)(a2:Int)(a3:Int)(a4:Int)(a5:List (Int×Int))(a6:Int)(a7:Int)(a8:Int)(a9:Int)(ic:Int)(ib:Int)(g9:Int)(g8:Int)(gz:Int)(gy:Bool):Option (List UInt8):=(HL N a2 a3 a4 a5 a6 a7).bind λ(bg,br)=>(KI N bg).bind λ(bf,r20)=>some bf
@[go_sem] def AeN(N:Nat):Spec:=p0<|(Aoh<|Aoi<|Aoi<|Aoi<|Aoi<|Aon Aq<|Aoi<|Aoi<|Aoi<|Aoi<|Aoi<|Aoi<|Aoi<|Aoi<|Aoi<|Aod<|Aof<|Aof<|Aog [] λr=>.v (.string (sB r))) (MC N)
theorem Abk(N:Nat):AG Tryz.prog 136 (AeN N):=by refine fk (Aoq AlJ (Ab (AaJ N)<|Ab (yW N)<|Aj)) ?_;intro a1 a2 a3 a4 a5 a6 a7 a8 a9 ic ib g9 g8 gz gy r h _ hS F;dsimp only[AlJ,Ah,Aq,BW];unfold MC at h;obtain⟨⟨bg,br⟩,az,h⟩:=un h;obtain⟨⟨bf,r20⟩,ay,h⟩:=un h;exact Ai hS (fc ay (fc az F)) h
def LR(N:Nat)(gx:Int)(gw:Int)(gv:Int)(gu:Int)(gt:List (Int×Int))(gr:Int)(gm:Int)(bq:Int)(gj:Int)(gi:Int)(gh:Int)(gg:Int)(ge:Int)(gc:Int)(fx:Bool):Option (List UInt8):=(EN N [bq]).bind λbe=>some be
@[go_sem] def AeO(N:Nat):Spec:=p0<|(Aoh<|Aoi<|Aoi<|Aoi<|Aoi<|Aon Aq<|Aoi<|Aoi<|Aoi<|Aoi<|Aoi<|Aoi<|Aoi<|Aoi<|Aoi<|Aod<|Aof<|Aof<|Aog [] λr=>.v (.string (sB r))) (LR N)
theorem Abl(N:Nat):AG Tryz.prog 149 (AeO N):=by refine fk (Aoq AkQ (Ab (KA N)<|Aj)) ?_;intro gx gw gv gu gt gr gm bq gj gi gh gg ge gc fx r h _ hS F;dsimp only[AkQ,Ah,Aq,BW];unfold LR at h;obtain⟨be,av,h⟩:=un h;exact Ai hS (fc av F) h
def LS(N:Nat)(fr:Int)(bp:Int)(fq:Int)(fp:Int)(fo:List (Int×Int))(fm:Int)(fj:Int)(bo:Int)(bn:Int)(bm:Int)(fh:Int)(fg:Int)(e9:Int)(e8:Int)(ez:Bool):Option (List UInt8):=(EN N [bo,bn,bm,bp]).bind λbb=>some bb
@[go_sem] def RS(N:Nat):Spec:=p0<|(Aoh<|Aoi<|Aoi<|Aoi<|Aoi<|Aon Aq<|Aoi<|Aoi<|Aoi<|Aoi<|Aoi<|Aoi<|Aoi<|Aoi<|Aoi<|Aod<|Aof<|Aof<|Aog [] λr=>.v (.string (sB r))) (LS N)
theorem Abm(N:Nat):AG Tryz.prog 154 (RS N):=by refine fk (Aoq Ak1 (Ab (KA N)<|Aj)) ?_;intro fr bp fq fp fo fm fj bo bn bm fh fg e9 e8 ez r h _ hS F;dsimp only[Ak1,Ah,Aq,BW];unfold LS at h;obtain⟨bb,au,h⟩:=un h;exact Ai hS (fc au F) h
def LT(N:Nat)(ep:Int)(ej:Int)(ei:Int)(eh:Int)(ee:List (Int×Int))(d9:Int)(d8:Int)(bl:Int)(bj:Int)(bi:Int)(d7:Int)(dz:Int)(dw:Int)(du:Int)(dt:Bool):Option (List UInt8):=(EN N [bl,bj,bi]).bind λba=>some ba
@[go_sem] def AeP(N:Nat):Spec:=p0<|(Aoh<|Aoi<|Aoi<|Aoi<|Aoi<|Aon Aq<|Aoi<|Aoi<|Aoi<|Aoi<|Aoi<|Aoi<|Aoi<|Aoi<|Aoi<|Aod<|Aof<|Aof<|Aog [] λr=>.v (.string (sB r))) (LT N)
theorem Abn(N:Nat):AG Tryz.prog 159 (AeP N):=by refine fk (Aoq AlR (Ab (KA N)<|Aj)) ?_;intro ep ej ei eh ee d9 d8 bl bj bi d7 dz dw du dt r h _ hS F;dsimp only[AlR,Ah,Aq,BW];unfold LT at h;obtain⟨ba,aq,h⟩:=un h;exact Ai hS (fc aq F) h
def KC(N:Nat)(dq:Int)(dm:Int)(dl:Int)(dh:Int)(dg:List (Int×Int))(de:Int)(db:Int)(bh:Int)(da:Int)(cz:Int)(cy:Int)(cu:Int)(cr:Int)(cq:Int)(co:Bool):Option (List UInt8):=(EN N [bh]).bind λr88=>some r88
@[go_sem] def AeQ(N:Nat):Spec:=p0<|(Aoh<|Aoi<|Aoi<|Aoi<|Aoi<|Aon Aq<|Aoi<|Aoi<|Aoi<|Aoi<|Aoi<|Aoi<|Aoi<|Aoi<|Aoi<|Aod<|Aof<|Aof<|Aog [] λr=>.v (.string (sB r))) (KC N)
theorem fK(N:Nat):AG Tryz.prog 162 (AeQ N):=by refine fk (Aoq Akc (Ab (KA N)<|Aj)) ?_;intro dq dm dl dh dg de db bh da cz cy cu cr cq co r h _ hS F;dsimp only[Akc,Ah,Aq,BW];unfold KC at h;obtain⟨r88,an,h⟩:=un h;exact Ai hS (fc an F) h
def MD(N:Nat)(cn:Int)(cj:Int)(ci:Int)(ce:Int)(b9:List (Int×Int))(b7:Int)(bz:Int)(bw:Int)(bv:Int)(bu:Int)(af:Int)(ae:Int)(ab:Int)(aa:Int)(am:Bool):Option (List UInt8):=bif am then((EN N [af,ae,ab,aa,1]).bind λai=>some ai)else((EN N [af,ae,ab,aa,0]).bind λah=>some ah)
@[go_sem] def AeR(N:Nat):Spec:=p0<|(Aoh<|Aoi<|Aoi<|Aoi<|Aoi<|Aon Aq<|Aoi<|Aoi<|Aoi<|Aoi<|Aoi<|Aoi<|Aoi<|Aoi<|Aoi<|Aod<|Aof<|Aof<|Aog [] λr=>.v (.string (sB r))) (MD N)
theorem Abo(N:Nat):AG Tryz.prog 169 (AeR N):=by
 refine fk (Aoq AkV (Ab (KA N)<|Aj)) ?_;intro cn cj ci ce b9 b7 bz bw bv bu af ae ab aa am r h _ hS F;dsimp only[AkV,Ah,Aq,BW];unfold MD at h;refine An hS F h (λ_ h=>?_) (λ_ h=>?_)
 ·obtain⟨ai,ak,h⟩:=un h;exact Ai hS (fc ak F) h
 ·obtain⟨ah,aj,h⟩:=un h;exact Ai hS (fc aj F) h
end
section
attribute [local irreducible] Ax BO BB Bj BC Bk AY BD BK Cq
def Lr(N:Nat)(i9:Int)(i8:Int)(i7:Int)(i6:List (Int×Int))(i5:Int)(iz:Int)(iy:Int)(iw:Int)(iv:Int)(ir:Int)(iq:Int)(ip:Int)(im:Int)(ij:Bool):Option ((List UInt8)×Int):=(Fj N i9 i8 i7 i6 i5 iz iy iw iv ir iq ip im ij).bind λjh=>bif !jh then(some ([],170))else((EN N [1]).bind λaz=>(MC N 1 i9 i8 i7 i6 i5 iz iy iw iv ir iq ip im ij).bind λay=>gd ((az++ay).length<=140737488355328)<|some (az++ay,0))
@[go_sem] def AaT(N:Nat):Spec:=p0<|(Aoh<|Aoe 1<|Aoi<|Aoi<|Aoi<|Aon Aq<|Aoi<|Aoi<|Aoi<|Aoi<|Aoi<|Aoi<|Aoi<|Aoi<|Aoi<|Aod<|Aof<|Aof<|Aog ([],0) λr=>.tup [.v (.string (sB r.1)),.i r.2]) (Lr N)
theorem lP(N:Nat):AG Tryz.prog 29 (AaT N):=by
 refine fk (Aoq x29 (BG (Ab (Nk N)<|Ab (KA N)<|Ab (Abk N)<|Aj) DX (CP N) DY DZ)) ?_;intro i9 i8 i7 i6 i5 iz iy iw iv ir iq ip im ij r h _ hS F;dsimp only[x29,Ah,Aq,BW];unfold Lr at h;obtain⟨jh,j7,h⟩:=un h;replace F:=fc j7 F;refine An hS F h (λ_ h=>?_) (λ_ h=>?_)
 ·exact Ai hS F h
 ·obtain⟨az,j6,ay,j5,aa,h⟩:=un h;exact Ai hS (fc j5 (fc j6 F)) h
def Lt(N:Nat)(ii:Int)(ig:Int)(ic:Int)(ib:List (Int×Int))(g9:Int)(g8:Int)(gz:Int)(gy:Int)(gx:Int)(gw:Int)(gv:Int)(gu:Int)(gt:Int)(gr:Bool):Option ((List UInt8)×Int):=(Fk N ii ig ic ib g9 g8 gz gy gx gw gv gu gt gr).bind λjg=>bif !jg then(some ([],170))else((EN N [2]).bind λav=>(LR N 2 ii ig ic ib g9 g8 gz gy gx gw gv gu gt gr).bind λau=>gd ((av++au).length<=140737488355328)<|some (av++au,0))
@[go_sem] def AaU(N:Nat):Spec:=p0<|(Aoh<|Aoe 2<|Aoi<|Aoi<|Aoi<|Aon Aq<|Aoi<|Aoi<|Aoi<|Aoi<|Aoi<|Aoi<|Aoi<|Aoi<|Aoi<|Aod<|Aof<|Aof<|Aog ([],0) λr=>.tup [.v (.string (sB r.1)),.i r.2]) (Lt N)
theorem lQ(N:Nat):AG Tryz.prog 29 (AaU N):=by
 refine fk (Aoq x29 (BG (Ab (Nl N)<|Ab (KA N)<|Ab (Abl N)<|Aj) DX (CP N) DY DZ)) ?_;intro ii ig ic ib g9 g8 gz gy gx gw gv gu gt gr r h _ hS F;dsimp only[x29,Ah,Aq,BW];unfold Lt at h;obtain⟨jg,j4,h⟩:=un h;replace F:=fc j4 F;refine An hS F h (λ_ h=>?_) (λ_ h=>?_)
 ·exact Ai hS F h
 ·obtain⟨av,jz,au,jy,aa,h⟩:=un h;exact Ai hS (fc jy (fc jz F)) h
def Lu(N:Nat)(gm:Int)(gj:Int)(gi:Int)(gh:List (Int×Int))(gg:Int)(ge:Int)(gc:Int)(fx:Int)(fr:Int)(fq:Int)(fp:Int)(fo:Int)(fm:Int)(fj:Bool):Option ((List UInt8)×Int):=(Fl N gm gj gi gh gg ge gc fx fr fq fp fo fm fj).bind λjf=>bif !jf then(some ([],170))else((EN N [3]).bind λaq=>(LS N 3 gm gj gi gh gg ge gc fx fr fq fp fo fm fj).bind λan=>gd ((aq++an).length<=140737488355328)<|some (aq++an,0))
@[go_sem] def AaV(N:Nat):Spec:=p0<|(Aoh<|Aoe 3<|Aoi<|Aoi<|Aoi<|Aon Aq<|Aoi<|Aoi<|Aoi<|Aoi<|Aoi<|Aoi<|Aoi<|Aoi<|Aoi<|Aod<|Aof<|Aof<|Aog ([],0) λr=>.tup [.v (.string (sB r.1)),.i r.2]) (Lu N)
theorem lR(N:Nat):AG Tryz.prog 29 (AaV N):=by
 refine fk (Aoq x29 (BG (Ab (Nn N)<|Ab (KA N)<|Ab (Abm N)<|Aj) DX (CP N) DY DZ)) ?_;intro gm gj gi gh gg ge gc fx fr fq fp fo fm fj r h _ hS F;dsimp only[x29,Ah,Aq,BW];unfold Lu at h;obtain⟨jf,jx,h⟩:=un h;replace F:=fc jx F;refine An hS F h (λ_ h=>?_) (λ_ h=>?_)
 ·exact Ai hS F h
 ·obtain⟨aq,jw,an,jv,aa,h⟩:=un h;exact Ai hS (fc jv (fc jw F)) h
def Lv(N:Nat)(fh:Int)(fg:Int)(e9:Int)(e8:List (Int×Int))(ez:Int)(ep:Int)(ej:Int)(ei:Int)(eh:Int)(ee:Int)(d9:Int)(d8:Int)(d7:Int)(dz:Bool):Option ((List UInt8)×Int):=(Fm N fh fg e9 e8 ez ep ej ei eh ee d9 d8 d7 dz).bind λje=>bif !je then(some ([],170))else((EN N [4]).bind λam=>(LT N 4 fh fg e9 e8 ez ep ej ei eh ee d9 d8 d7 dz).bind λak=>gd ((am++ak).length<=140737488355328)<|some (am++ak,0))
@[go_sem] def AaW(N:Nat):Spec:=p0<|(Aoh<|Aoe 4<|Aoi<|Aoi<|Aoi<|Aon Aq<|Aoi<|Aoi<|Aoi<|Aoi<|Aoi<|Aoi<|Aoi<|Aoi<|Aoi<|Aod<|Aof<|Aof<|Aog ([],0) λr=>.tup [.v (.string (sB r.1)),.i r.2]) (Lv N)
theorem lS(N:Nat):AG Tryz.prog 29 (AaW N):=by
 refine fk (Aoq x29 (BG (Ab (No N)<|Ab (KA N)<|Ab (Abn N)<|Aj) DX (CP N) DY DZ)) ?_;intro fh fg e9 e8 ez ep ej ei eh ee d9 d8 d7 dz r h _ hS F;dsimp only[x29,Ah,Aq,BW];unfold Lv at h;obtain⟨je,ju,h⟩:=un h;replace F:=fc ju F;refine An hS F h (λ_ h=>?_) (λ_ h=>?_)
 ·exact Ai hS F h
 ·obtain⟨am,jt,ak,js,aa,h⟩:=un h;exact Ai hS (fc js (fc jt F)) h
def Lw(N:Nat)(dw:Int)(du:Int)(dt:Int)(dq:List (Int×Int))(dm:Int)(dl:Int)(dh:Int)(dg:Int)(de:Int)(db:Int)(da:Int)(cz:Int)(cy:Int)(cu:Bool):Option ((List UInt8)×Int):=(Fo N dw du dt dq dm dl dh dg de db da cz cy cu).bind λjd=>bif !jd then(some ([],170))else((EN N [5]).bind λaj=>(MD N 5 dw du dt dq dm dl dh dg de db da cz cy cu).bind λai=>gd ((aj++ai).length<=140737488355328)<|some (aj++ai,0))
@[go_sem] def AaX(N:Nat):Spec:=p0<|(Aoh<|Aoe 5<|Aoi<|Aoi<|Aoi<|Aon Aq<|Aoi<|Aoi<|Aoi<|Aoi<|Aoi<|Aoi<|Aoi<|Aoi<|Aoi<|Aod<|Aof<|Aof<|Aog ([],0) λr=>.tup [.v (.string (sB r.1)),.i r.2]) (Lw N)
theorem lT(N:Nat):AG Tryz.prog 29 (AaX N):=by
 refine fk (Aoq x29 (BG (Ab (Np N)<|Ab (KA N)<|Ab (Abo N)<|Aj) DX (CP N) DY DZ)) ?_;intro dw du dt dq dm dl dh dg de db da cz cy cu r h _ hS F;dsimp only[x29,Ah,Aq,BW];unfold Lw at h;obtain⟨jd,jr,h⟩:=un h;replace F:=fc jr F;refine An hS F h (λ_ h=>?_) (λ_ h=>?_)
 ·exact Ai hS F h
 ·obtain⟨aj,jq,ai,jp,aa,h⟩:=un h;exact Ai hS (fc jp (fc jq F)) h
def Lx(N:Nat)(cr:Int)(cq:Int)(co:Int)(cn:List (Int×Int))(cj:Int)(ci:Int)(ce:Int)(b9:Int)(b7:Int)(bz:Int)(bw:Int)(bv:Int)(bu:Int)(br:Bool):Option ((List UInt8)×Int):=(Fp N cr cq co cn cj ci ce b9 b7 bz bw bv bu br).bind λjc=>bif !jc then(some ([],170))else((EN N [6]).bind λah=>(KC N 6 cr cq co cn cj ci ce b9 b7 bz bw bv bu br).bind λaf=>gd ((ah++af).length<=140737488355328)<|some (ah++af,0))
@[go_sem] def AaY(N:Nat):Spec:=p0<|(Aoh<|Aoe 6<|Aoi<|Aoi<|Aoi<|Aon Aq<|Aoi<|Aoi<|Aoi<|Aoi<|Aoi<|Aoi<|Aoi<|Aoi<|Aoi<|Aod<|Aof<|Aof<|Aog ([],0) λr=>.tup [.v (.string (sB r.1)),.i r.2]) (Lx N)
theorem lU(N:Nat):AG Tryz.prog 29 (AaY N):=by
 refine fk (Aoq x29 (BG (Ab (Nq N)<|Ab (KA N)<|Ab (fK N)<|Aj) DX (CP N) DY DZ)) ?_;intro cr cq co cn cj ci ce b9 b7 bz bw bv bu br r h _ hS F;dsimp only[x29,Ah,Aq,BW];unfold Lx at h;obtain⟨jc,jo,h⟩:=un h;replace F:=fc jo F;refine An hS F h (λ_ h=>?_) (λ_ h=>?_)
 ·exact Ai hS F h
 ·obtain⟨ah,jn,af,jm,aa,h⟩:=un h;exact Ai hS (fc jm (fc jn F)) h
def Ly(N:Nat)(bq:Int)(bp:Int)(bo:Int)(bn:List (Int×Int))(bm:Int)(bl:Int)(bj:Int)(bi:Int)(bh:Int)(bg:Int)(bf:Int)(be:Int)(bb:Int)(ba:Bool):Option ((List UInt8)×Int):=(Fq N bq bp bo bn bm bl bj bi bh bg bf be bb ba).bind λjb=>bif !jb then(some ([],170))else((EN N [7]).bind λae=>(KC N 7 bq bp bo bn bm bl bj bi bh bg bf be bb ba).bind λab=>gd ((ae++ab).length<=140737488355328)<|some (ae++ab,0))
@[go_sem] def AaZ(N:Nat):Spec:=p0<|(Aoh<|Aoe 7<|Aoi<|Aoi<|Aoi<|Aon Aq<|Aoi<|Aoi<|Aoi<|Aoi<|Aoi<|Aoi<|Aoi<|Aoi<|Aoi<|Aod<|Aof<|Aof<|Aog ([],0) λr=>.tup [.v (.string (sB r.1)),.i r.2]) (Ly N)
theorem lV(N:Nat):AG Tryz.prog 29 (AaZ N):=by
 refine fk (Aoq x29 (BG (Ab (Nr N)<|Ab (KA N)<|Ab (fK N)<|Aj) DX (CP N) DY DZ)) ?_;intro bq bp bo bn bm bl bj bi bh bg bf be bb ba r h _ hS F;dsimp only[x29,Ah,Aq,BW];unfold Ly at h;obtain⟨jb,jl,h⟩:=un h;replace F:=fc jl F;refine An hS F h (λ_ h=>?_) (λ_ h=>?_)
 ·exact Ai hS F h
 ·obtain⟨ae,jk,ab,jj,aa,h⟩:=un h;exact Ai hS (fc jj (fc jk F)) h
def Lz(N:Nat)(kz:Int)(kv:Int)(kr:Int)(kq:Int)(km:List (Int×Int))(kl:Int)(kj:Int)(ki:Int)(kh:Int)(kg:Int)(kf:Int)(ke:Int)(ka:Int)(j9:Int)(j8:Bool):Option ((List UInt8)×Int):=(Fr N kz kv kr kq km kl kj ki kh kg kf ke ka j9 j8).bind λja=>gd (ja=false)<|some ([],170)
@[go_sem] def Aa0(N:Nat):Spec:=p0<|(Aoh<|Aoi<|Aoi<|Aoi<|Aoi<|Aon Aq<|Aoi<|Aoi<|Aoi<|Aoi<|Aoi<|Aoi<|Aoi<|Aoi<|Aoi<|Aod<|Aof<|Aof<|Aog ([],0) λr=>.tup [.v (.string (sB r.1)),.i r.2]) (Lz N)
theorem lW(N:Nat):AG Tryz.prog 29 (Aa0 N):=by refine fk (Aoq x29 (BG (Ab (Ns N)<|Aj) DX (CP N) DY DZ)) ?_;intro kz kv kr kq km kl kj ki kh kg kf ke ka j9 j8 r h _ hS F;dsimp only[x29,Ah,Aq,BW];unfold Lz at h;obtain⟨ja,ji,aa,h⟩:=un h;replace F:=fc aa (fc ji F);refine Om hS F ?_;exact Ai hS F h
end
attribute [local irreducible] Ax BO BB Bj BC Bk AY BD BK Cq
def Kk(N:Nat)(cy:Int)(cu:Int)(cr:Int)(cq:Int)(co:List (Int×Int))(cn:Int)(cj:Int)(ci:Int)(ce:Int)(b9:Int)(b7:Int)(bz:Int)(bw:Int)(bv:Int)(bu:Bool):Option ((List Int)×(List Int)):=if cy=1 then JX N cu cr cq co cn cj ci ce b9 b7 bz bw bv bu else if cy=2 then JY N cu cr cq co cn cj ci ce b9 b7 bz bw bv bu else if cy=3 then JZ N cu cr cq co cn cj ci ce b9 b7 bz bw bv bu else if cy=4 then J0 N cu cr cq co cn cj ci ce b9 b7 bz bw bv bu else if cy=5 then J1 N cu cr cq co cn cj ci ce b9 b7 bz bw bv bu else if cy=6 then J2 N cu cr cq co cn cj ci ce b9 b7 bz bw bv bu else if cy=7 then J3 N cu cr cq co cn cj ci ce b9 b7 bz bw bv bu else J4 N cy cu cr cq co cn cj ci ce b9 b7 bz bw bv bu
@[go_sem] def Xd(N:Nat):Spec:=p0<|(Aoh<|Aoi<|Aoi<|Aoi<|Aoi<|Aon Aq<|Aoi<|Aoi<|Aoi<|Aoi<|Aoi<|Aoi<|Aoi<|Aoi<|Aoi<|Aod<|Aof<|Aof<|Aog ([],[]) λr=>.tup [FW r.1,FW r.2]) (Kk N)
theorem AcN(N:Nat):AG Tryz.prog 27 (Xd N):=by
 refine Ar x27.ok<|Aw<|Aa λcy=>Aa λcu=>Aa λcr=>Aa λcq=>AF λco=>Aa λcn=>Aa λcj=>Aa λci=>Aa λce=>Aa λb9=>Aa λb7=>Aa λbz=>Aa λbw=>Aa λbv=>AX λbu=>Ad<|Ad<|As λr h=>?_
 dsimp only[Aq];unfold Kk at h;split at h
 ·rename_i e;subst e;exact Bv (lX N) (by simp only[go_sem,seval,h]<;>eq_refl) (by simp only[go_sem,seval,h])
 split at h
 ·rename_i e;subst e;exact Bv (lY N) (by simp only[go_sem,seval,h]<;>eq_refl) (by simp only[go_sem,seval,h])
 split at h
 ·rename_i e;subst e;exact Bv (lZ N) (by simp only[go_sem,seval,h]<;>eq_refl) (by simp only[go_sem,seval,h])
 split at h
 ·rename_i e;subst e;exact Bv (mA N) (by simp only[go_sem,seval,h]<;>eq_refl) (by simp only[go_sem,seval,h])
 split at h
 ·rename_i e;subst e;exact Bv (mB N) (by simp only[go_sem,seval,h]<;>eq_refl) (by simp only[go_sem,seval,h])
 split at h
 ·rename_i e;subst e;exact Bv (mC N) (by simp only[go_sem,seval,h]<;>eq_refl) (by simp only[go_sem,seval,h])
 split at h
 ·rename_i e;subst e;exact Bv (mD N) (by simp only[go_sem,seval,h]<;>eq_refl) (by simp only[go_sem,seval,h])
 exact Bv (mF N) (by simp only[go_sem,seval,h]<;>eq_refl) (by simp only[go_sem,seval,h])
def MX(N:Nat)(I9:List (Int×Int×Int×(List (Int×Int))×Int×Int))(Ja:List (Int×Int×Int×Int×Bool))(br:Int)(bq:Int)(bp:Int)(bo:Int)(bn:List (Int×Int))(bm:Int)(bl:Int)(bj:Int)(bi:Int)(bh:Int)(bg:Int)(bf:Int)(be:Int)(bb:Int)(ba:Bool):Option ((List (Int×(Int×Int×Int×(List (Int×Int))×Int×Int)×Int×Int×Int×(Int×Int×Int×Int×Bool)))×Bool):=if br=1 then Mu N I9 Ja bq bp bo bn bm bl bj bi bh bg bf be bb ba else if br=2 then Mv N I9 Ja bq bp bo bn bm bl bj bi bh bg bf be bb ba else if br=3 then Mw N I9 Ja bq bp bo bn bm bl bj bi bh bg bf be bb ba else if br=4 then Mx N I9 Ja bq bp bo bn bm bl bj bi bh bg bf be bb ba else if br=5 then My N I9 Ja bq bp bo bn bm bl bj bi bh bg bf be bb ba else if br=6 then Mz N I9 Ja bq bp bo bn bm bl bj bi bh bg bf be bb ba else if br=7 then MA N I9 Ja bq bp bo bn bm bl bj bi bh bg bf be bb ba else MB N I9 Ja br bq bp bo bn bm bl bj bi bh bg bf be bb ba
@[go_sem] def s24(N:Nat):Spec:=p0<|(Aoh<|qD Ak<|qD AA<|Aof<|Aoh<|Aoi<|Aoi<|Aoi<|Aoi<|qD Aq<|Aoi<|Aoi<|Aoi<|Aoi<|Aoi<|Aoi<|Aoi<|Aoi<|Aoi<|Aod<|Aof<|Aof<|Aog ([],false) λr=>.tup [Ay r.1,.b r.2]) (MX N)
theorem AcO(N:Nat):AG Tryz.prog 24 (s24 N):=by
 refine Ar x24.ok<|Aw<|AM λI9=>AM λJa=>Ad<|Aw<|Aa λbr=>Aa λbq=>Aa λbp=>Aa λbo=>AM λbn=>Aa λbm=>Aa λbl=>Aa λbj=>Aa λbi=>Aa λbh=>Aa λbg=>Aa λbf=>Aa λbe=>Aa λbb=>AX λba=>Ad<|Ad<|As λr h=>?_
 dsimp only[Aq,AA,Ak];unfold MX at h;split at h
 ·rename_i e;subst e;exact Bv (mH N) (by simp only[go_sem,seval,h]<;>eq_refl) (by simp only[go_sem,seval,h])
 split at h
 ·rename_i e;subst e;exact Bv (mI N) (by simp only[go_sem,seval,h]<;>eq_refl) (by simp only[go_sem,seval,h])
 split at h
 ·rename_i e;subst e;exact Bv (mJ N) (by simp only[go_sem,seval,h]<;>eq_refl) (by simp only[go_sem,seval,h])
 split at h
 ·rename_i e;subst e;exact Bv (mK N) (by simp only[go_sem,seval,h]<;>eq_refl) (by simp only[go_sem,seval,h])
 split at h
 ·rename_i e;subst e;exact Bv (mL N) (by simp only[go_sem,seval,h]<;>eq_refl) (by simp only[go_sem,seval,h])
 split at h
 ·rename_i e;subst e;exact Bv (mM N) (by simp only[go_sem,seval,h]<;>eq_refl) (by simp only[go_sem,seval,h])
 split at h
 ·rename_i e;subst e;exact Bv (mN N) (by simp only[go_sem,seval,h]<;>eq_refl) (by simp only[go_sem,seval,h])
 exact Bv (mO N) (by simp only[go_sem,seval,h]<;>eq_refl) (by simp only[go_sem,seval,h])
def ND(N:Nat)(az:Int)(ay:Int)(av:Int)(au:Int)(aq:List (Int×Int))(an:Int)(am:Int)(ak:Int)(aj:Int)(ai:Int)(ah:Int)(af:Int)(ae:Int)(ab:Int)(aa:Bool):Option ((List UInt8)×Int):=if az=1 then Lr N ay av au aq an am ak aj ai ah af ae ab aa else if az=2 then Lt N ay av au aq an am ak aj ai ah af ae ab aa else if az=3 then Lu N ay av au aq an am ak aj ai ah af ae ab aa else if az=4 then Lv N ay av au aq an am ak aj ai ah af ae ab aa else if az=5 then Lw N ay av au aq an am ak aj ai ah af ae ab aa else if az=6 then Lx N ay av au aq an am ak aj ai ah af ae ab aa else if az=7 then Ly N ay av au aq an am ak aj ai ah af ae ab aa else Lz N az ay av au aq an am ak aj ai ah af ae ab aa
@[go_sem] def s29(N:Nat):Spec:=p0<|(Aoh<|Aoi<|Aoi<|Aoi<|Aoi<|Aon Aq<|Aoi<|Aoi<|Aoi<|Aoi<|Aoi<|Aoi<|Aoi<|Aoi<|Aoi<|Aod<|Aof<|Aof<|Aog ([],0) λr=>.tup [.v (.string (sB r.1)),.i r.2]) (ND N)
theorem AcP(N:Nat):AG Tryz.prog 29 (s29 N):=by
 refine Ar x29.ok<|Aw<|Aa λaz=>Aa λay=>Aa λav=>Aa λau=>AF λaq=>Aa λan=>Aa λam=>Aa λak=>Aa λaj=>Aa λai=>Aa λah=>Aa λaf=>Aa λae=>Aa λab=>AX λaa=>Ad<|Ad<|As λr h=>?_
 dsimp only[Aq,BW];unfold ND at h;split at h
 ·rename_i e;subst e;exact Bv (lP N) (by simp only[go_sem,seval,h]<;>eq_refl) (by simp only[go_sem,seval,h])
 split at h
 ·rename_i e;subst e;exact Bv (lQ N) (by simp only[go_sem,seval,h]<;>eq_refl) (by simp only[go_sem,seval,h])
 split at h
 ·rename_i e;subst e;exact Bv (lR N) (by simp only[go_sem,seval,h]<;>eq_refl) (by simp only[go_sem,seval,h])
 split at h
 ·rename_i e;subst e;exact Bv (lS N) (by simp only[go_sem,seval,h]<;>eq_refl) (by simp only[go_sem,seval,h])
 split at h
 ·rename_i e;subst e;exact Bv (lT N) (by simp only[go_sem,seval,h]<;>eq_refl) (by simp only[go_sem,seval,h])
 split at h
 ·rename_i e;subst e;exact Bv (lU N) (by simp only[go_sem,seval,h]<;>eq_refl) (by simp only[go_sem,seval,h])
 split at h
 ·rename_i e;subst e;exact Bv (lV N) (by simp only[go_sem,seval,h]<;>eq_refl) (by simp only[go_sem,seval,h])
 exact Bv (lW N) (by simp only[go_sem,seval,h]<;>eq_refl) (by simp only[go_sem,seval,h])
