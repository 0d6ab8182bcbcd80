import Derived.Test.YtjdchfljifacoaaGreatTU
set_option linter.all false
set_option maxRecDepth 100000
set_option maxHeartbeats 8000000
namespace Go.Proofs.YtjdchfljifacoaaGreat.Am
section
open Go
attribute [local irreducible] Ax BO BB Bj BC Bk AY BD BK Cq
attribute [local go_sem] Option.isSome_some gJ MR Cz Pq eX YS S42
theorem Z1:BT 159:=⟨by kernel_rfl,by decide⟩
theorem Abj(ns:List Int)(hn:ns.length<=1000000)(hne:E0 ns≠[]):PCall Tryz.prog 67 [.sl 1 false (ns.map Rq) [.i 0]] (.v (.string (sB (E0 ns)))):=by
 refine Vy S0 _ x67.hf x67.hc x67.hn (by decide) (kM rfl) λhb M=>?_
 have hS:=S0;have hOK:=Ctx.bd_ok (nt:=23) (hb:=hb) (N:=M) (X:=λ_=>False) (hnt:=by decide) hS;dsimp only[x67,Ah,BW];have hlen:=NC ns;refine go hS f0 ?_;refine Vx hS 0 rfl Z1 (by simp only[go_sem,seval]<;>eq_refl) yT λB=>⟨_,_,_,(by simp only[go_sem,seval]<;>eq_refl),yT,?_⟩
 refine go hS f0 ?_;refine IB (λx:Nat×Nat=>⟨[(10,.i x.1),(9,.i ns.length),(8,.sl 1 false (ns.map Rq) [.i 0]),(3,.v (.pointer (some ⟨B,0,none⟩))),(bk,gB B (E0 (ns.take x.1)))],[],x.2⟩)
  (λx=>x.1<=ns.length) (λx=>ns.length-x.1) (0,50) ?_ ?_ ?_
 ·exact rB _
 ·refine Le.of ?_ ?_ (by simp)<;>(simp only[go_sem,seval,E0];try simp)
 ·rintro⟨j,c⟩ hj;simp only at hj
  repeat' (first
  |((with_reducible first|apply DD|apply EA|apply Eu|apply FL|apply DE|apply DF);(·(first|exact Ctx.fn_ok hS|exact Ctx.rd_ok hS|assumption|exact yT));iterate 2 (·(simp only[go_sem,seval]<;>eq_refl)))
  |(with_reducible first|apply Dz|apply En|apply Di|apply Dj|apply CX|apply Cw|apply CK|apply DW|apply Ec|apply Eo|apply Ep|apply Er|apply Es)
  |(with_reducible apply Et;(·first|rfl|decide))
  |(with_reducible first|apply DB|apply DC|apply Ex|apply Ey|apply Ez|apply yT|apply And.intro yT yT)
  |(fail_if_success with_reducible apply G1);(fail_if_success with_reducible apply Ew);first|omega|(simp only[go_sem,seval];done)
  |fail)
  refine Sv ((j:Int)<ns.length) (by simp only[go_sem,seval]<;>eq_refl) (by first|simp only[Bool.decide_or,Bool.decide_and,decide_not]|simp) (λab=>?_) (λab=>?_)
  ·have hj':j<ns.length:=by omega
   have hrow:=eI_row ns [.i 0] j hj';have hsu:=Uu hj';have hle:=YT ns (j+1);rw[hsu,fN]at hle;have aa:(E0 (ns.take j)).length+(Lp (ns.getD j 0)).length<=140737488355328:=by omega
   repeat' (first
  |((with_reducible first|apply DD|apply EA|apply Eu|apply FL|apply DE|apply DF);(·(first|exact Ctx.fn_ok hS|exact Ctx.rd_ok hS|assumption|exact yT));iterate 2 (·(simp only[go_sem,seval,hrow]<;>eq_refl)))
  |(with_reducible first|apply Dz|apply En|apply Di|apply Dj|apply CX|apply Cw|apply CK|apply DW|apply Ec|apply Eo|apply Ep|apply Er|apply Es)
  |(with_reducible apply Et;(·first|rfl|decide))
  |(with_reducible first|apply DB|apply DC|apply Ex|apply Ey|apply Ez|apply yT|apply And.intro yT yT)
  |(fail_if_success with_reducible apply G1);(fail_if_success with_reducible apply Ew);first|omega|(simp only[go_sem,seval,hrow];done)
  |fail)
   refine KO hS 1 rfl W8 (by simp only[go_sem,seval]<;>eq_refl) yT (by simp only[go_sem,seval]<;>eq_refl) (by simp only[go_sem,seval]<;>eq_refl) (by simp only[go_sem,seval]<;>eq_refl) (by simp only[go_sem,seval,Ej]<;>eq_refl) rfl rfl (Q6 aa) (by simp only[go_sem,seval]<;>eq_refl) yT ?_
   repeat' (first
  |((with_reducible first|apply DD|apply EA|apply Eu|apply FL|apply DE|apply DF);(·(first|exact Ctx.fn_ok hS|exact Ctx.rd_ok hS|assumption|exact yT));iterate 2 (·(simp only[go_sem,seval]<;>eq_refl)))
  |(with_reducible first|apply Dz|apply En|apply Di|apply Dj|apply CX|apply Cw|apply CK|apply DW|apply Ec|apply Eo|apply Ep|apply Er|apply Es)
  |(with_reducible apply Et;(·first|rfl|decide))
  |(with_reducible first|apply DB|apply DC|apply Ex|apply Ey|apply Ez|apply yT|apply And.intro yT yT)
  |(fail_if_success with_reducible apply G1);(fail_if_success with_reducible apply Ew);first|omega|(simp only[go_sem,seval];done)
  |fail)
   refine JL (j+1,c+50) (by show j+1<=_;omega) (by show ns.length-(j+1)<ns.length-j;omega) (Le.of ?_ ?_ ?_)
   ·simp only[go_sem,seval,hsu]<;>simp
   ·simp only[go_sem,seval]
   ·simp
  ·refine go hS f0 ?_;have:j=ns.length:=by omega
   subst this;rw[F4];refine KO hS 0 (ax:=[]) rfl Ut (by simp only[go_sem,seval]<;>eq_refl) yT (by simp only[go_sem,seval]<;>eq_refl) (by simp only[go_sem,seval]<;>eq_refl) (by simp only[go_sem,seval]<;>eq_refl) yT rfl rfl (PO hne) (by simp only[go_sem,seval]<;>eq_refl) yT ?_;refine go hS f0 ?_
   first|refine Ma (by simp only[go_sem,seval]<;>eq_refl) (by simp only[go_sem,seval]) (by simp only[go_sem,seval]) ?_ rfl|refine Mb (by simp only[go_sem,seval]<;>eq_refl) (by simp only[go_sem,seval]) (by simp only[go_sem,seval]) ?_ rfl
   simp only[go_sem,seval]
def EN(_:Nat)(l:List Int):Option (List UInt8):=gd (l.length<=1000000)<|gd (E0 l≠[])<|some (E0 l)
@[go_sem] def s67(N:Nat):Spec:=p0<|pS SD λl=>pE<|pF (EN N l) [] λr=>.v (.string (sB r))
theorem KA(N:Nat):AG Tryz.prog 67 (s67 N):=by
 refine Ar x67.ok<|AF λl=>Ad<|As λr h=>?_
 unfold EN at h;obtain⟨h1,h2,h⟩:=un h;cases h
 exact Abj l h1 h2
end
section
open Go
attribute [local irreducible] Ax BO BB Bj BC Bk AY BD BK Cq
attribute [local go_sem] Pq Pq
def KI(N:Nat)(s1684:List UInt8):Option ((List UInt8)×Int):=bif decide (65536<(s1684.length:Int))then(some ([],10))else(gd (((Lp (s1684.length:Int))++s1684).length<=140737488355328)<|some ((Lp (s1684.length:Int))++s1684,0))
@[go_sem] def Aea(N:Nat):Spec:=p0<|pT λs1684=>pE<|pF (KI N s1684) ([],0) λr=>.tup [.v (.string (sB r.1)),.i r.2]
theorem yW(N:Nat):AG Tryz.prog 138 (Aea N):=by
 refine Ar x138.ok<|L1 λs1684=>Ad<|As λr h=>wx x138 (Ab W7<|Aj) λ_ hS F=>?_
 dsimp only[x138,Ah,BW];unfold KI at h;refine An hS F h (λ_ h=>?_) (λ_ h=>?_)
 ·exact Ai hS F h
 ·obtain⟨ah,h⟩:=un h;exact Ai hS F h
def Mp(N:Nat)(s1685:List UInt8)(ab:Int):Option ((List UInt8)×Int×Int):=(B3 N s1685 ab).bind λ(aa,r1688,ae)=>bif decide (ae≠0)then(some ([],0,ae))else(gd ((!((decide (aa<0))||(decide (65536<aa))))=true->(Af ((s1685.length:Int)-r1688)))<|bif ((decide (aa<0))||(decide (65536<aa)))||(decide ((s1685.length:Int)-r1688<aa))then(some ([],0,10))else(gd (Af (r1688+aa))<|gd (0<=r1688/\r1688<=r1688+aa/\r1688+aa<=(s1685.length:Int))<|gd (Af (r1688+aa))<|some ((s1685.drop r1688.toNat).take ((r1688+aa).toNat-r1688.toNat),r1688+aa,0)))
@[go_sem] def Wo(N:Nat):Spec:=p0<|pT λs1685=>pI λab=>pE<|pF (Mp N s1685 ab) ([],0,0) λr=>.tup [.v (.string (sB r.1)),.i r.2.1,.i r.2.2]
theorem Acb(N:Nat):AG Tryz.prog 78 (Wo N):=by
 refine Ar x78.ok<|L1 λs1685=>Aa λab=>Ad<|As λr h=>wx x78 (Ab (Zx N)<|Aj) λ_ hS F=>?_
 dsimp only[x78,Ah,BW];unfold Mp at h;obtain⟨⟨aa,r1688,ae⟩,af,h⟩:=un h;replace F:=fc af F;refine An hS F h (λ_ h=>?_) (λ_ h=>?_)
 ·exact Ai hS F h
 ·obtain⟨ah,h⟩:=un h;refine An hS F h (λ_ h=>?_) (λ_ h=>?_)
  ·exact Ai hS F h
  ·obtain⟨ak,aj,ai,h⟩:=un h;exact Ai hS F h
end
section
open Go
attribute [local irreducible] Ax BO BB Bj BC Bk AY BD BK Cq
def MC(N:Nat)(a1:Int)(a2:Int)(a3:Int)(a4:Int)(a5:List (Int×Int))(a6:Int)(a7:Int)(a8:Int)(a9:Int)(gx:Int)(gw:Int)(gv:Int)(gu:Int)(gt:Int)(gr:Bool):Option (List UInt8):=(HL N a2 a3 a4 a5 a6 a7).bind λ(ib,ic)=>(KI N ib).bind λ(g9,r20)=>some g9
@[go_sem] def AeN(N:Nat):Spec:=p0<|pG<|pI λa1=>pI λa2=>pI λa3=>pI λa4=>pS Aq λa5=>pI λa6=>pI λa7=>pI λa8=>pI λa9=>pI λgx=>pI λgw=>pI λgv=>pI λgu=>pI λgt=>pB λgr=>pE<|pE<|pF (MC N a1 a2 a3 a4 a5 a6 a7 a8 a9 gx gw gv gu gt gr) [] λr=>.v (.string (sB r))
theorem Abk(N:Nat):AG Tryz.prog 136 (AeN N):=by
 refine Ar x136.ok<|Aw<|Aa λa1=>Aa λa2=>Aa λa3=>Aa λa4=>AF λa5=>Aa λa6=>Aa λa7=>Aa λa8=>Aa λa9=>Aa λgx=>Aa λgw=>Aa λgv=>Aa λgu=>Aa λgt=>AX λgr=>Ad<|Ad<|As λr h=>wx x136 (Ab (AaJ N)<|Ab (yW N)<|Aj) λ_ hS F=>?_
 dsimp only[x136,Ah,Aq,BW];unfold MC at h;obtain⟨⟨ib,ic⟩,bj,h⟩:=un h;obtain⟨⟨g9,r20⟩,bi,h⟩:=un h;exact Ai hS (fc bi (fc bj F)) h
def LR(N:Nat)(gm:Int)(gj:Int)(gi:Int)(gh:Int)(gg:List (Int×Int))(gc:Int)(fr:Int)(bb:Int)(fq:Int)(fp:Int)(fo:Int)(fm:Int)(fj:Int)(fh:Int)(fg:Bool):Option (List UInt8):=(EN N [bb]).bind λg8=>some g8
@[go_sem] def AeO(N:Nat):Spec:=p0<|pG<|pI λgm=>pI λgj=>pI λgi=>pI λgh=>pS Aq λgg=>pI λgc=>pI λfr=>pI λbb=>pI λfq=>pI λfp=>pI λfo=>pI λfm=>pI λfj=>pI λfh=>pB λfg=>pE<|pE<|pF (LR N gm gj gi gh gg gc fr bb fq fp fo fm fj fh fg) [] λr=>.v (.string (sB r))
theorem Abl(N:Nat):AG Tryz.prog 149 (AeO N):=by
 refine Ar x149.ok<|Aw<|Aa λgm=>Aa λgj=>Aa λgi=>Aa λgh=>AF λgg=>Aa λgc=>Aa λfr=>Aa λbb=>Aa λfq=>Aa λfp=>Aa λfo=>Aa λfm=>Aa λfj=>Aa λfh=>AX λfg=>Ad<|Ad<|As λr h=>wx x149 (Ab (KA N)<|Aj) λ_ hS F=>?_
 dsimp only[x149,Ah,Aq,BW];unfold LR at h;obtain⟨g8,bh,h⟩:=un h;exact Ai hS (fc bh F) h
def LS(N:Nat)(e9:Int)(ba:Int)(e8:Int)(eu:Int)(ej:List (Int×Int))(ei:Int)(eh:Int)(az:Int)(ay:Int)(aw:Int)(ee:Int)(d9:Int)(d8:Int)(d7:Int)(dz:Bool):Option (List UInt8):=(EN N [az,ay,aw,ba]).bind λgz=>some gz
@[go_sem] def RS(N:Nat):Spec:=p0<|pG<|pI λe9=>pI λba=>pI λe8=>pI λeu=>pS Aq λej=>pI λei=>pI λeh=>pI λaz=>pI λay=>pI λaw=>pI λee=>pI λd9=>pI λd8=>pI λd7=>pB λdz=>pE<|pE<|pF (LS N e9 ba e8 eu ej ei eh az ay aw ee d9 d8 d7 dz) [] λr=>.v (.string (sB r))
theorem Abm(N:Nat):AG Tryz.prog 154 (RS N):=by
 refine Ar x154.ok<|Aw<|Aa λe9=>Aa λba=>Aa λe8=>Aa λeu=>AF λej=>Aa λei=>Aa λeh=>Aa λaz=>Aa λay=>Aa λaw=>Aa λee=>Aa λd9=>Aa λd8=>Aa λd7=>AX λdz=>Ad<|Ad<|As λr h=>wx x154 (Ab (KA N)<|Aj) λ_ hS F=>?_
 dsimp only[x154,Ah,Aq,BW];unfold LS at h;obtain⟨gz,bg,h⟩:=un h;exact Ai hS (fc bg F) h
def LT(N:Nat)(dw:Int)(du:Int)(dt:Int)(dq:Int)(dp:List (Int×Int))(dm:Int)(dl:Int)(av:Int)(au:Int)(aq:Int)(dh:Int)(dg:Int)(db:Int)(da:Int)(cz:Bool):Option (List UInt8):=(EN N [av,au,aq]).bind λgy=>some gy
@[go_sem] def AeP(N:Nat):Spec:=p0<|pG<|pI λdw=>pI λdu=>pI λdt=>pI λdq=>pS Aq λdp=>pI λdm=>pI λdl=>pI λav=>pI λau=>pI λaq=>pI λdh=>pI λdg=>pI λdb=>pI λda=>pB λcz=>pE<|pE<|pF (LT N dw du dt dq dp dm dl av au aq dh dg db da cz) [] λr=>.v (.string (sB r))
theorem Abn(N:Nat):AG Tryz.prog 159 (AeP N):=by
 refine Ar x159.ok<|Aw<|Aa λdw=>Aa λdu=>Aa λdt=>Aa λdq=>AF λdp=>Aa λdm=>Aa λdl=>Aa λav=>Aa λau=>Aa λaq=>Aa λdh=>Aa λdg=>Aa λdb=>Aa λda=>AX λcz=>Ad<|Ad<|As λr h=>wx x159 (Ab (KA N)<|Aj) λ_ hS F=>?_
 dsimp only[x159,Ah,Aq,BW];unfold LT at h;obtain⟨gy,bf,h⟩:=un h;exact Ai hS (fc bf F) h
def KC(N:Nat)(cy:Int)(cu:Int)(cr:Int)(cq:Int)(co:List (Int×Int))(cn:Int)(cm:Int)(an:Int)(ck:Int)(cj:Int)(ci:Int)(ce:Int)(b9:Int)(b7:Int)(bz:Bool):Option (List UInt8):=(EN N [an]).bind λr88=>some r88
@[go_sem] def AeQ(N:Nat):Spec:=p0<|pG<|pI λcy=>pI λcu=>pI λcr=>pI λcq=>pS Aq λco=>pI λcn=>pI λcm=>pI λan=>pI λck=>pI λcj=>pI λci=>pI λce=>pI λb9=>pI λb7=>pB λbz=>pE<|pE<|pF (KC N cy cu cr cq co cn cm an ck cj ci ce b9 b7 bz) [] λr=>.v (.string (sB r))
theorem fK(N:Nat):AG Tryz.prog 162 (AeQ N):=by
 refine Ar x162.ok<|Aw<|Aa λcy=>Aa λcu=>Aa λcr=>Aa λcq=>AF λco=>Aa λcn=>Aa λcm=>Aa λan=>Aa λck=>Aa λcj=>Aa λci=>Aa λce=>Aa λb9=>Aa λb7=>AX λbz=>Ad<|Ad<|As λr h=>wx x162 (Ab (KA N)<|Aj) λ_ hS F=>?_
 dsimp only[x162,Ah,Aq,BW];unfold KC at h;obtain⟨r88,be,h⟩:=un h;exact Ai hS (fc be F) h
def MD(N:Nat)(bw:Int)(bv:Int)(bu:Int)(br:Int)(bq:List (Int×Int))(bp:Int)(bo:Int)(bn:Int)(bm:Int)(bl:Int)(af:Int)(ae:Int)(ab:Int)(aa:Int)(ah:Bool):Option (List UInt8):=bif ah then((EN N [af,ae,ab,aa,1]).bind λaj=>some aj)else((EN N [af,ae,ab,aa,0]).bind λai=>some ai)
@[go_sem] def AeR(N:Nat):Spec:=p0<|pG<|pI λbw=>pI λbv=>pI λbu=>pI λbr=>pS Aq λbq=>pI λbp=>pI λbo=>pI λbn=>pI λbm=>pI λbl=>pI λaf=>pI λae=>pI λab=>pI λaa=>pB λah=>pE<|pE<|pF (MD N bw bv bu br bq bp bo bn bm bl af ae ab aa ah) [] λr=>.v (.string (sB r))
theorem Abo(N:Nat):AG Tryz.prog 169 (AeR N):=by
 refine Ar x169.ok<|Aw<|Aa λbw=>Aa λbv=>Aa λbu=>Aa λbr=>AF λbq=>Aa λbp=>Aa λbo=>Aa λbn=>Aa λbm=>Aa λbl=>Aa λaf=>Aa λae=>Aa λab=>Aa λaa=>AX λah=>Ad<|Ad<|As λr h=>wx x169 (Ab (KA N)<|Aj) λ_ hS F=>?_
 dsimp only[x169,Ah,Aq,BW];unfold MD at h;refine An hS F h (λ_ h=>?_) (λ_ h=>?_)
 ·obtain⟨aj,am,h⟩:=un h;exact Ai hS (fc am F) h
 ·obtain⟨ai,ak,h⟩:=un h;exact Ai hS (fc ak F) h
end
section
open Go
attribute [local irreducible] Ax BO BB Bj BC Bk AY BD BK Cq
def Lr(N:Nat)(ie:Int)(ic:Int)(ib:Int)(g9:List (Int×Int))(g8:Int)(gz:Int)(gy:Int)(gx:Int)(gw:Int)(gv:Int)(gu:Int)(gt:Int)(gr:Int)(gm:Bool):Option ((List UInt8)×Int):=(Fj N ie ic ib g9 g8 gz gy gx gw gv gu gt gr gm).bind λju=>bif !ju then(some ([],170))else((EN N [1]).bind λjm=>(MC N 1 ie ic ib g9 g8 gz gy gx gw gv gu gt gr gm).bind λjl=>gd ((jm++jl).length<=140737488355328)<|some (jm++jl,0))
@[go_sem] def AaT(N:Nat):Spec:=p0<|pG<|pC 1<|pI λie=>pI λic=>pI λib=>pS Aq λg9=>pI λg8=>pI λgz=>pI λgy=>pI λgx=>pI λgw=>pI λgv=>pI λgu=>pI λgt=>pI λgr=>pB λgm=>pE<|pE<|pF (Lr N ie ic ib g9 g8 gz gy gx gw gv gu gt gr gm) ([],0) λr=>.tup [.v (.string (sB r.1)),.i r.2]
theorem lP(N:Nat):AG Tryz.prog 29 (AaT N):=by
 refine Ar x29.ok<|Aw<|Dn<|Aa λie=>Aa λic=>Aa λib=>AF λg9=>Aa λg8=>Aa λgz=>Aa λgy=>Aa λgx=>Aa λgw=>Aa λgv=>Aa λgu=>Aa λgt=>Aa λgr=>AX λgm=>Ad<|Ad<|As λr h=>wx x29 (BG (Ab (Nk N)<|Ab (KA N)<|Ab (Abk N)<|Aj) DX (CP N) DY DZ) λ_ hS F=>?_
 dsimp only[x29,Ah,Aq,BW];unfold Lr at h;obtain⟨ju,kr,h⟩:=un h;replace F:=fc kr F;refine An hS F h (λ_ h=>?_) (λ_ h=>?_)
 ·exact Ai hS F h
 ·obtain⟨jm,kq,jl,km,i8,h⟩:=un h;exact Ai hS (fc km (fc kq F)) h
def Lt(N:Nat)(gj:Int)(gi:Int)(gh:Int)(gg:List (Int×Int))(gc:Int)(fr:Int)(fq:Int)(fp:Int)(fo:Int)(fm:Int)(fj:Int)(fh:Int)(fg:Int)(e9:Bool):Option ((List UInt8)×Int):=(Fk N gj gi gh gg gc fr fq fp fo fm fj fh fg e9).bind λjt=>bif !jt then(some ([],170))else((EN N [2]).bind λjk=>(LR N 2 gj gi gh gg gc fr fq fp fo fm fj fh fg e9).bind λjj=>gd ((jk++jj).length<=140737488355328)<|some (jk++jj,0))
@[go_sem] def AaU(N:Nat):Spec:=p0<|pG<|pC 2<|pI λgj=>pI λgi=>pI λgh=>pS Aq λgg=>pI λgc=>pI λfr=>pI λfq=>pI λfp=>pI λfo=>pI λfm=>pI λfj=>pI λfh=>pI λfg=>pB λe9=>pE<|pE<|pF (Lt N gj gi gh gg gc fr fq fp fo fm fj fh fg e9) ([],0) λr=>.tup [.v (.string (sB r.1)),.i r.2]
theorem lQ(N:Nat):AG Tryz.prog 29 (AaU N):=by
 refine Ar x29.ok<|Aw<|Dn<|Aa λgj=>Aa λgi=>Aa λgh=>AF λgg=>Aa λgc=>Aa λfr=>Aa λfq=>Aa λfp=>Aa λfo=>Aa λfm=>Aa λfj=>Aa λfh=>Aa λfg=>AX λe9=>Ad<|Ad<|As λr h=>wx x29 (BG (Ab (Nl N)<|Ab (KA N)<|Ab (Abl N)<|Aj) DX (CP N) DY DZ) λ_ hS F=>?_
 dsimp only[x29,Ah,Aq,BW];unfold Lt at h;obtain⟨jt,kl,h⟩:=un h;replace F:=fc kl F;refine An hS F h (λ_ h=>?_) (λ_ h=>?_)
 ·exact Ai hS F h
 ·obtain⟨jk,kj,jj,ki,i8,h⟩:=un h;exact Ai hS (fc ki (fc kj F)) h
def Lu(N:Nat)(e8:Int)(eu:Int)(ej:Int)(ei:List (Int×Int))(eh:Int)(ee:Int)(d9:Int)(d8:Int)(d7:Int)(dz:Int)(dw:Int)(du:Int)(dt:Int)(dq:Bool):Option ((List UInt8)×Int):=(Fl N e8 eu ej ei eh ee d9 d8 d7 dz dw du dt dq).bind λjs=>bif !js then(some ([],170))else((EN N [3]).bind λji=>(LS N 3 e8 eu ej ei eh ee d9 d8 d7 dz dw du dt dq).bind λjh=>gd ((ji++jh).length<=140737488355328)<|some (ji++jh,0))
@[go_sem] def AaV(N:Nat):Spec:=p0<|pG<|pC 3<|pI λe8=>pI λeu=>pI λej=>pS Aq λei=>pI λeh=>pI λee=>pI λd9=>pI λd8=>pI λd7=>pI λdz=>pI λdw=>pI λdu=>pI λdt=>pB λdq=>pE<|pE<|pF (Lu N e8 eu ej ei eh ee d9 d8 d7 dz dw du dt dq) ([],0) λr=>.tup [.v (.string (sB r.1)),.i r.2]
theorem lR(N:Nat):AG Tryz.prog 29 (AaV N):=by
 refine Ar x29.ok<|Aw<|Dn<|Aa λe8=>Aa λeu=>Aa λej=>AF λei=>Aa λeh=>Aa λee=>Aa λd9=>Aa λd8=>Aa λd7=>Aa λdz=>Aa λdw=>Aa λdu=>Aa λdt=>AX λdq=>Ad<|Ad<|As λr h=>wx x29 (BG (Ab (Nn N)<|Ab (KA N)<|Ab (Abm N)<|Aj) DX (CP N) DY DZ) λ_ hS F=>?_
 dsimp only[x29,Ah,Aq,BW];unfold Lu at h;obtain⟨js,kh,h⟩:=un h;replace F:=fc kh F;refine An hS F h (λ_ h=>?_) (λ_ h=>?_)
 ·exact Ai hS F h
 ·obtain⟨ji,kg,jh,kf,i8,h⟩:=un h;exact Ai hS (fc kf (fc kg F)) h
def Lv(N:Nat)(dp:Int)(dm:Int)(dl:Int)(dh:List (Int×Int))(dg:Int)(db:Int)(da:Int)(cz:Int)(cy:Int)(cu:Int)(cr:Int)(cq:Int)(co:Int)(cn:Bool):Option ((List UInt8)×Int):=(Fm N dp dm dl dh dg db da cz cy cu cr cq co cn).bind λjr=>bif !jr then(some ([],170))else((EN N [4]).bind λjg=>(LT N 4 dp dm dl dh dg db da cz cy cu cr cq co cn).bind λjf=>gd ((jg++jf).length<=140737488355328)<|some (jg++jf,0))
@[go_sem] def AaW(N:Nat):Spec:=p0<|pG<|pC 4<|pI λdp=>pI λdm=>pI λdl=>pS Aq λdh=>pI λdg=>pI λdb=>pI λda=>pI λcz=>pI λcy=>pI λcu=>pI λcr=>pI λcq=>pI λco=>pB λcn=>pE<|pE<|pF (Lv N dp dm dl dh dg db da cz cy cu cr cq co cn) ([],0) λr=>.tup [.v (.string (sB r.1)),.i r.2]
theorem lS(N:Nat):AG Tryz.prog 29 (AaW N):=by
 refine Ar x29.ok<|Aw<|Dn<|Aa λdp=>Aa λdm=>Aa λdl=>AF λdh=>Aa λdg=>Aa λdb=>Aa λda=>Aa λcz=>Aa λcy=>Aa λcu=>Aa λcr=>Aa λcq=>Aa λco=>AX λcn=>Ad<|Ad<|As λr h=>wx x29 (BG (Ab (No N)<|Ab (KA N)<|Ab (Abn N)<|Aj) DX (CP N) DY DZ) λ_ hS F=>?_
 dsimp only[x29,Ah,Aq,BW];unfold Lv at h;obtain⟨jr,ke,h⟩:=un h;replace F:=fc ke F;refine An hS F h (λ_ h=>?_) (λ_ h=>?_)
 ·exact Ai hS F h
 ·obtain⟨jg,ka,jf,j9,i8,h⟩:=un h;exact Ai hS (fc j9 (fc ka F)) h
def Lw(N:Nat)(cm:Int)(ck:Int)(cj:Int)(ci:List (Int×Int))(ce:Int)(b9:Int)(b7:Int)(bz:Int)(bw:Int)(bv:Int)(bu:Int)(br:Int)(bq:Int)(bp:Bool):Option ((List UInt8)×Int):=(Fo N cm ck cj ci ce b9 b7 bz bw bv bu br bq bp).bind λjq=>bif !jq then(some ([],170))else((EN N [5]).bind λje=>(MD N 5 cm ck cj ci ce b9 b7 bz bw bv bu br bq bp).bind λjd=>gd ((je++jd).length<=140737488355328)<|some (je++jd,0))
@[go_sem] def AaX(N:Nat):Spec:=p0<|pG<|pC 5<|pI λcm=>pI λck=>pI λcj=>pS Aq λci=>pI λce=>pI λb9=>pI λb7=>pI λbz=>pI λbw=>pI λbv=>pI λbu=>pI λbr=>pI λbq=>pB λbp=>pE<|pE<|pF (Lw N cm ck cj ci ce b9 b7 bz bw bv bu br bq bp) ([],0) λr=>.tup [.v (.string (sB r.1)),.i r.2]
theorem lT(N:Nat):AG Tryz.prog 29 (AaX N):=by
 refine Ar x29.ok<|Aw<|Dn<|Aa λcm=>Aa λck=>Aa λcj=>AF λci=>Aa λce=>Aa λb9=>Aa λb7=>Aa λbz=>Aa λbw=>Aa λbv=>Aa λbu=>Aa λbr=>Aa λbq=>AX λbp=>Ad<|Ad<|As λr h=>wx x29 (BG (Ab (Np N)<|Ab (KA N)<|Ab (Abo N)<|Aj) DX (CP N) DY DZ) λ_ hS F=>?_
 dsimp only[x29,Ah,Aq,BW];unfold Lw at h;obtain⟨jq,j8,h⟩:=un h;replace F:=fc j8 F;refine An hS F h (λ_ h=>?_) (λ_ h=>?_)
 ·exact Ai hS F h
 ·obtain⟨je,j7,jd,j6,i8,h⟩:=un h;exact Ai hS (fc j6 (fc j7 F)) h
def Lx(N:Nat)(bo:Int)(bn:Int)(bm:Int)(bl:List (Int×Int))(bj:Int)(bi:Int)(bh:Int)(bg:Int)(bf:Int)(be:Int)(bb:Int)(ba:Int)(az:Int)(ay:Bool):Option ((List UInt8)×Int):=(Fp N bo bn bm bl bj bi bh bg bf be bb ba az ay).bind λjp=>bif !jp then(some ([],170))else((EN N [6]).bind λjc=>(KC N 6 bo bn bm bl bj bi bh bg bf be bb ba az ay).bind λjb=>gd ((jc++jb).length<=140737488355328)<|some (jc++jb,0))
@[go_sem] def AaY(N:Nat):Spec:=p0<|pG<|pC 6<|pI λbo=>pI λbn=>pI λbm=>pS Aq λbl=>pI λbj=>pI λbi=>pI λbh=>pI λbg=>pI λbf=>pI λbe=>pI λbb=>pI λba=>pI λaz=>pB λay=>pE<|pE<|pF (Lx N bo bn bm bl bj bi bh bg bf be bb ba az ay) ([],0) λr=>.tup [.v (.string (sB r.1)),.i r.2]
theorem lU(N:Nat):AG Tryz.prog 29 (AaY N):=by
 refine Ar x29.ok<|Aw<|Dn<|Aa λbo=>Aa λbn=>Aa λbm=>AF λbl=>Aa λbj=>Aa λbi=>Aa λbh=>Aa λbg=>Aa λbf=>Aa λbe=>Aa λbb=>Aa λba=>Aa λaz=>AX λay=>Ad<|Ad<|As λr h=>wx x29 (BG (Ab (Nq N)<|Ab (KA N)<|Ab (fK N)<|Aj) DX (CP N) DY DZ) λ_ hS F=>?_
 dsimp only[x29,Ah,Aq,BW];unfold Lx at h;obtain⟨jp,j5,h⟩:=un h;replace F:=fc j5 F;refine An hS F h (λ_ h=>?_) (λ_ h=>?_)
 ·exact Ai hS F h
 ·obtain⟨jc,j4,jb,jz,i8,h⟩:=un h;exact Ai hS (fc jz (fc j4 F)) h
def Ly(N:Nat)(aw:Int)(av:Int)(au:Int)(aq:List (Int×Int))(an:Int)(am:Int)(ak:Int)(aj:Int)(ai:Int)(ah:Int)(af:Int)(ae:Int)(ab:Int)(aa:Bool):Option ((List UInt8)×Int):=(Fq N aw av au aq an am ak aj ai ah af ae ab aa).bind λjo=>bif !jo then(some ([],170))else((EN N [7]).bind λja=>(KC N 7 aw av au aq an am ak aj ai ah af ae ab aa).bind λi9=>gd ((ja++i9).length<=140737488355328)<|some (ja++i9,0))
@[go_sem] def AaZ(N:Nat):Spec:=p0<|pG<|pC 7<|pI λaw=>pI λav=>pI λau=>pS Aq λaq=>pI λan=>pI λam=>pI λak=>pI λaj=>pI λai=>pI λah=>pI λaf=>pI λae=>pI λab=>pB λaa=>pE<|pE<|pF (Ly N aw av au aq an am ak aj ai ah af ae ab aa) ([],0) λr=>.tup [.v (.string (sB r.1)),.i r.2]
theorem lV(N:Nat):AG Tryz.prog 29 (AaZ N):=by
 refine Ar x29.ok<|Aw<|Dn<|Aa λaw=>Aa λav=>Aa λau=>AF λaq=>Aa λan=>Aa λam=>Aa λak=>Aa λaj=>Aa λai=>Aa λah=>Aa λaf=>Aa λae=>Aa λab=>AX λaa=>Ad<|Ad<|As λr h=>wx x29 (BG (Ab (Nr N)<|Ab (KA N)<|Ab (fK N)<|Aj) DX (CP N) DY DZ) λ_ hS F=>?_
 dsimp only[x29,Ah,Aq,BW];unfold Ly at h;obtain⟨jo,jy,h⟩:=un h;replace F:=fc jy F;refine An hS F h (λ_ h=>?_) (λ_ h=>?_)
 ·exact Ai hS F h
 ·obtain⟨ja,jx,i9,jw,i8,h⟩:=un h;exact Ai hS (fc jw (fc jx F)) h
def Lz(N:Nat)(i7:Int)(i6:Int)(i5:Int)(iz:Int)(iy:List (Int×Int))(iw:Int)(iv:Int)(ir:Int)(iq:Int)(ip:Int)(im:Int)(il:Int)(ij:Int)(ii:Int)(ig:Bool):Option ((List UInt8)×Int):=(Fr N i7 i6 i5 iz iy iw iv ir iq ip im il ij ii ig).bind λjn=>gd (jn=false)<|some ([],170)
@[go_sem] def Aa0(N:Nat):Spec:=p0<|pG<|pI λi7=>pI λi6=>pI λi5=>pI λiz=>pS Aq λiy=>pI λiw=>pI λiv=>pI λir=>pI λiq=>pI λip=>pI λim=>pI λil=>pI λij=>pI λii=>pB λig=>pE<|pE<|pF (Lz N i7 i6 i5 iz iy iw iv ir iq ip im il ij ii ig) ([],0) λr=>.tup [.v (.string (sB r.1)),.i r.2]
theorem lW(N:Nat):AG Tryz.prog 29 (Aa0 N):=by
 refine Ar x29.ok<|Aw<|Aa λi7=>Aa λi6=>Aa λi5=>Aa λiz=>AF λiy=>Aa λiw=>Aa λiv=>Aa λir=>Aa λiq=>Aa λip=>Aa λim=>Aa λil=>Aa λij=>Aa λii=>AX λig=>Ad<|Ad<|As λr h=>wx x29 (BG (Ab (Ns N)<|Aj) DX (CP N) DY DZ) λ_ hS F=>?_
 dsimp only[x29,Ah,Aq,BW];unfold Lz at h;obtain⟨jn,jv,i8,h⟩:=un h;replace F:=fc i8 (fc jv F);refine Om hS F ?_;exact Ai hS F h
end
section
open Go
attribute [local irreducible] Ax BO BB Bj BC Bk AY BD BK Cq
def Kk(N:Nat)(cq:Int)(co:Int)(cn:Int)(cm:Int)(ck:List (Int×Int))(cj:Int)(ci:Int)(ce:Int)(b9:Int)(b7:Int)(bz:Int)(bw:Int)(bv:Int)(bu:Int)(br:Bool):Option ((List Int)×(List Int)):=if cq=1 then JX N co cn cm ck cj ci ce b9 b7 bz bw bv bu br else if cq=2 then JY N co cn cm ck cj ci ce b9 b7 bz bw bv bu br else if cq=3 then JZ N co cn cm ck cj ci ce b9 b7 bz bw bv bu br else if cq=4 then J0 N co cn cm ck cj ci ce b9 b7 bz bw bv bu br else if cq=5 then J1 N co cn cm ck cj ci ce b9 b7 bz bw bv bu br else if cq=6 then J2 N co cn cm ck cj ci ce b9 b7 bz bw bv bu br else if cq=7 then J3 N co cn cm ck cj ci ce b9 b7 bz bw bv bu br else J4 N cq co cn cm ck cj ci ce b9 b7 bz bw bv bu br
@[go_sem] def Xd(N:Nat):Spec:=p0<|pG<|pI λcq=>pI λco=>pI λcn=>pI λcm=>pS Aq λck=>pI λcj=>pI λci=>pI λce=>pI λb9=>pI λb7=>pI λbz=>pI λbw=>pI λbv=>pI λbu=>pB λbr=>pE<|pE<|pF (Kk N cq co cn cm ck cj ci ce b9 b7 bz bw bv bu br) ([],[]) λr=>.tup [FW r.1,FW r.2]
theorem AcN(N:Nat):AG Tryz.prog 27 (Xd N):=by
 refine Ar x27.ok<|Aw<|Aa λcq=>Aa λco=>Aa λcn=>Aa λcm=>AF λck=>Aa λcj=>Aa λci=>Aa λce=>Aa λb9=>Aa λb7=>Aa λbz=>Aa λbw=>Aa λbv=>Aa λbu=>AX λbr=>Ad<|Ad<|As λr h=>?_
 dsimp only[Aq];unfold Kk at h;split at h
 ·rename_i e;subst e;exact Bv (lX N) (by simp only[go_sem,seval,h]<;>eq_refl) (by simp only[go_sem,seval,h])
 split at h
 ·rename_i e;subst e;exact Bv (lY N) (by simp only[go_sem,seval,h]<;>eq_refl) (by simp only[go_sem,seval,h])
 split at h
 ·rename_i e;subst e;exact Bv (lZ N) (by simp only[go_sem,seval,h]<;>eq_refl) (by simp only[go_sem,seval,h])
 split at h
 ·rename_i e;subst e;exact Bv (mA N) (by simp only[go_sem,seval,h]<;>eq_refl) (by simp only[go_sem,seval,h])
 split at h
 ·rename_i e;subst e;exact Bv (mB N) (by simp only[go_sem,seval,h]<;>eq_refl) (by simp only[go_sem,seval,h])
 split at h
 ·rename_i e;subst e;exact Bv (mC N) (by simp only[go_sem,seval,h]<;>eq_refl) (by simp only[go_sem,seval,h])
 split at h
 ·rename_i e;subst e;exact Bv (mD N) (by simp only[go_sem,seval,h]<;>eq_refl) (by simp only[go_sem,seval,h])
 exact Bv (mF N) (by simp only[go_sem,seval,h]<;>eq_refl) (by simp only[go_sem,seval,h])
def MX(N:Nat)(I9:List (Int×Int×Int×(List (Int×Int))×Int×Int))(Ja:List (Int×Int×Int×Int×Bool))(bq:Int)(bp:Int)(bo:Int)(bn:Int)(bm:List (Int×Int))(bl:Int)(bj:Int)(bi:Int)(bh:Int)(bg:Int)(bf:Int)(be:Int)(bb:Int)(ba:Int)(az:Bool):Option ((List (Int×(Int×Int×Int×(List (Int×Int))×Int×Int)×Int×Int×Int×(Int×Int×Int×Int×Bool)))×Bool):=if bq=1 then Mu N I9 Ja bp bo bn bm bl bj bi bh bg bf be bb ba az else if bq=2 then Mv N I9 Ja bp bo bn bm bl bj bi bh bg bf be bb ba az else if bq=3 then Mw N I9 Ja bp bo bn bm bl bj bi bh bg bf be bb ba az else if bq=4 then Mx N I9 Ja bp bo bn bm bl bj bi bh bg bf be bb ba az else if bq=5 then My N I9 Ja bp bo bn bm bl bj bi bh bg bf be bb ba az else if bq=6 then Mz N I9 Ja bp bo bn bm bl bj bi bh bg bf be bb ba az else if bq=7 then MA N I9 Ja bp bo bn bm bl bj bi bh bg bf be bb ba az else MB N I9 Ja bq bp bo bn bm bl bj bi bh bg bf be bb ba az
@[go_sem] def s24(N:Nat):Spec:=p0<|pG<|pD Ak λI9=>pD AA λJa=>pE<|pG<|pI λbq=>pI λbp=>pI λbo=>pI λbn=>pD Aq λbm=>pI λbl=>pI λbj=>pI λbi=>pI λbh=>pI λbg=>pI λbf=>pI λbe=>pI λbb=>pI λba=>pB λaz=>pE<|pE<|pF (MX N I9 Ja bq bp bo bn bm bl bj bi bh bg bf be bb ba az) ([],false) λr=>.tup [Ay r.1,.b r.2]
theorem AcO(N:Nat):AG Tryz.prog 24 (s24 N):=by
 refine Ar x24.ok<|Aw<|AM λI9=>AM λJa=>Ad<|Aw<|Aa λbq=>Aa λbp=>Aa λbo=>Aa λbn=>AM λbm=>Aa λbl=>Aa λbj=>Aa λbi=>Aa λbh=>Aa λbg=>Aa λbf=>Aa λbe=>Aa λbb=>Aa λba=>AX λaz=>Ad<|Ad<|As λr h=>?_
 dsimp only[Aq,AA,Ak];unfold MX at h;split at h
 ·rename_i e;subst e;exact Bv (mH N) (by simp only[go_sem,seval,h]<;>eq_refl) (by simp only[go_sem,seval,h])
 split at h
 ·rename_i e;subst e;exact Bv (mI N) (by simp only[go_sem,seval,h]<;>eq_refl) (by simp only[go_sem,seval,h])
 split at h
 ·rename_i e;subst e;exact Bv (mJ N) (by simp only[go_sem,seval,h]<;>eq_refl) (by simp only[go_sem,seval,h])
 split at h
 ·rename_i e;subst e;exact Bv (mK N) (by simp only[go_sem,seval,h]<;>eq_refl) (by simp only[go_sem,seval,h])
 split at h
 ·rename_i e;subst e;exact Bv (mL N) (by simp only[go_sem,seval,h]<;>eq_refl) (by simp only[go_sem,seval,h])
 split at h
 ·rename_i e;subst e;exact Bv (mM N) (by simp only[go_sem,seval,h]<;>eq_refl) (by simp only[go_sem,seval,h])
 split at h
 ·rename_i e;subst e;exact Bv (mN N) (by simp only[go_sem,seval,h]<;>eq_refl) (by simp only[go_sem,seval,h])
 exact Bv (mO N) (by simp only[go_sem,seval,h]<;>eq_refl) (by simp only[go_sem,seval,h])
def ND(N:Nat)(ay:Int)(aw:Int)(av:Int)(au:Int)(aq:List (Int×Int))(an:Int)(am:Int)(ak:Int)(aj:Int)(ai:Int)(ah:Int)(af:Int)(ae:Int)(ab:Int)(aa:Bool):Option ((List UInt8)×Int):=if ay=1 then Lr N aw av au aq an am ak aj ai ah af ae ab aa else if ay=2 then Lt N aw av au aq an am ak aj ai ah af ae ab aa else if ay=3 then Lu N aw av au aq an am ak aj ai ah af ae ab aa else if ay=4 then Lv N aw av au aq an am ak aj ai ah af ae ab aa else if ay=5 then Lw N aw av au aq an am ak aj ai ah af ae ab aa else if ay=6 then Lx N aw av au aq an am ak aj ai ah af ae ab aa else if ay=7 then Ly N aw av au aq an am ak aj ai ah af ae ab aa else Lz N ay aw av au aq an am ak aj ai ah af ae ab aa
@[go_sem] def s29(N:Nat):Spec:=p0<|pG<|pI λay=>pI λaw=>pI λav=>pI λau=>pS Aq λaq=>pI λan=>pI λam=>pI λak=>pI λaj=>pI λai=>pI λah=>pI λaf=>pI λae=>pI λab=>pB λaa=>pE<|pE<|pF (ND N ay aw av au aq an am ak aj ai ah af ae ab aa) ([],0) λr=>.tup [.v (.string (sB r.1)),.i r.2]
theorem AcP(N:Nat):AG Tryz.prog 29 (s29 N):=by
 refine Ar x29.ok<|Aw<|Aa λay=>Aa λaw=>Aa λav=>Aa λau=>AF λaq=>Aa λan=>Aa λam=>Aa λak=>Aa λaj=>Aa λai=>Aa λah=>Aa λaf=>Aa λae=>Aa λab=>AX λaa=>Ad<|Ad<|As λr h=>?_
 dsimp only[Aq,BW];unfold ND at h;split at h
 ·rename_i e;subst e;exact Bv (lP N) (by simp only[go_sem,seval,h]<;>eq_refl) (by simp only[go_sem,seval,h])
 split at h
 ·rename_i e;subst e;exact Bv (lQ N) (by simp only[go_sem,seval,h]<;>eq_refl) (by simp only[go_sem,seval,h])
 split at h
 ·rename_i e;subst e;exact Bv (lR N) (by simp only[go_sem,seval,h]<;>eq_refl) (by simp only[go_sem,seval,h])
 split at h
 ·rename_i e;subst e;exact Bv (lS N) (by simp only[go_sem,seval,h]<;>eq_refl) (by simp only[go_sem,seval,h])
 split at h
 ·rename_i e;subst e;exact Bv (lT N) (by simp only[go_sem,seval,h]<;>eq_refl) (by simp only[go_sem,seval,h])
 split at h
 ·rename_i e;subst e;exact Bv (lU N) (by simp only[go_sem,seval,h]<;>eq_refl) (by simp only[go_sem,seval,h])
 split at h
 ·rename_i e;subst e;exact Bv (lV N) (by simp only[go_sem,seval,h]<;>eq_refl) (by simp only[go_sem,seval,h])
 exact Bv (lW N) (by simp only[go_sem,seval,h]<;>eq_refl) (by simp only[go_sem,seval,h])
end
abbrev Ac:=Int×Un×Int×Int×Int×Mk
inductive FA:Ac->Prop
 |build {u:Un} (h:UV u):FA (1,u,0,0,0,Xg)
 |remove {id:Int} (h:0<=id/\id<=99):FA (2,PE,id,0,0,Xg)
 |cut {id i k j:Int} (h:0<=id/\id<=99) (hj:0<=j/\j<=99) (hd:id≠j) (hi:0<=i/\i<=7) (hk:0<=k/\k<=7) (he:i≠k):FA (3,(j,0,0,[],0,0),id,i,k,Xg)
 |move {id x y:Int} (h:0<=id/\id<=99) (hx: -40<=x/\x<=40) (hy: -40<=y/\y<=40) (hd:x≠0\/y≠0):FA (4,PE,id,x,y,Xg)
 |mark {m:Mk} (h:JF m=true):FA (5,PE,0,0,0,m)
 |close {id:Int} (h:0<=id/\id<=99):FA (6,PE,id,0,0,Xg)
 |opn {id:Int} (h:0<=id/\id<=99):FA (7,PE,id,0,0,Xg)
noncomputable instance(a:Ac):Decidable (FA a):=Classical.propDecidable _
section
variable{a b c p q id i k m1 m2 m3 m4:Int}{l:List Pt}{o:Bool}
theorem fa1:FA (1,(a,b,c,l,p,q),id,i,k,(m1,m2,m3,m4,o))↔UV (a,b,c,l,p,q)/\id=0/\i=0/\k=0/\m1=0/\m2=0/\m3=0/\m4=0/\o=false:=by
 constructor
 ·intro h;cases h;exact⟨by assumption,rfl,rfl,rfl,rfl,rfl,rfl,rfl,rfl⟩
 ·rintro⟨h,rfl,rfl,rfl,rfl,rfl,rfl,rfl,rfl⟩;exact .build h
theorem fa2:FA (2,(a,b,c,l,p,q),id,i,k,(m1,m2,m3,m4,o))↔(0<=id/\id<=99)/\a=0/\b=0/\c=0/\l=[]/\p=0/\q=0/\i=0/\k=0/\m1=0/\m2=0/\m3=0/\m4=0/\o=false:=by
 constructor
 ·intro h;cases h;exact⟨by assumption,rfl,rfl,rfl,rfl,rfl,rfl,rfl,rfl,rfl,rfl,rfl,rfl,rfl⟩
 ·rintro⟨h,rfl,rfl,rfl,rfl,rfl,rfl,rfl,rfl,rfl,rfl,rfl,rfl,rfl⟩;exact .remove h
theorem qB:FA (3,(a,b,c,l,p,q),id,i,k,(m1,m2,m3,m4,o))↔(0<=id/\id<=99)/\(0<=a/\a<=99)/\id≠a/\(0<=i/\i<=7)/\(0<=k/\k<=7)/\i≠k/\b=0/\c=0/\l=[]/\p=0/\q=0/\m1=0/\m2=0/\m3=0/\m4=0/\o=false:=by
 constructor
 ·intro h;cases h;exact⟨by assumption,by assumption,by assumption,by assumption,by assumption,by assumption,rfl,rfl,rfl,rfl,rfl,rfl,rfl,rfl,rfl,rfl⟩
 ·rintro⟨h1,h2,h3,h4,h5,h6,rfl,rfl,rfl,rfl,rfl,rfl,rfl,rfl,rfl,rfl⟩;exact .cut h1 h2 h3 h4 h5 h6
theorem qC:FA (4,(a,b,c,l,p,q),id,i,k,(m1,m2,m3,m4,o))↔(0<=id/\id<=99)/\(-40<=i/\i<=40)/\(-40<=k/\k<=40)/\(i≠0\/k≠0)/\a=0/\b=0/\c=0/\l=[]/\p=0/\q=0/\m1=0/\m2=0/\m3=0/\m4=0/\o=false:=by
 constructor
 ·intro h;cases h;exact⟨by assumption,by assumption,by assumption,by assumption,rfl,rfl,rfl,rfl,rfl,rfl,rfl,rfl,rfl,rfl,rfl⟩
 ·rintro⟨h1,h2,h3,h4,rfl,rfl,rfl,rfl,rfl,rfl,rfl,rfl,rfl,rfl,rfl⟩;exact .move h1 h2 h3 h4
theorem fa5:FA (5,(a,b,c,l,p,q),id,i,k,(m1,m2,m3,m4,o))↔JF (m1,m2,m3,m4,o)=true/\id=0/\i=0/\k=0/\a=0/\b=0/\c=0/\l=[]/\p=0/\q=0:=by
 constructor
 ·intro h;cases h;exact⟨by assumption,rfl,rfl,rfl,rfl,rfl,rfl,rfl,rfl,rfl⟩
 ·rintro⟨h,rfl,rfl,rfl,rfl,rfl,rfl,rfl,rfl,rfl⟩;exact .mark h
theorem fa6:FA (6,(a,b,c,l,p,q),id,i,k,(m1,m2,m3,m4,o))↔(0<=id/\id<=99)/\a=0/\b=0/\c=0/\l=[]/\p=0/\q=0/\i=0/\k=0/\m1=0/\m2=0/\m3=0/\m4=0/\o=false:=by
 constructor
 ·intro h;cases h;exact⟨by assumption,rfl,rfl,rfl,rfl,rfl,rfl,rfl,rfl,rfl,rfl,rfl,rfl,rfl⟩
 ·rintro⟨h,rfl,rfl,rfl,rfl,rfl,rfl,rfl,rfl,rfl,rfl,rfl,rfl,rfl⟩;exact .close h
theorem fa7:FA (7,(a,b,c,l,p,q),id,i,k,(m1,m2,m3,m4,o))↔(0<=id/\id<=99)/\a=0/\b=0/\c=0/\l=[]/\p=0/\q=0/\i=0/\k=0/\m1=0/\m2=0/\m3=0/\m4=0/\o=false:=by
 constructor
 ·intro h;cases h;exact⟨by assumption,rfl,rfl,rfl,rfl,rfl,rfl,rfl,rfl,rfl,rfl,rfl,rfl,rfl⟩
 ·rintro⟨h,rfl,rfl,rfl,rfl,rfl,rfl,rfl,rfl,rfl,rfl,rfl,rfl,rfl⟩;exact .opn h
theorem fM{n:Int}{u:Un}{m:Mk}(h:¬(1<=n/\n<=7)):¬FA (n,u,id,i,k,m):=by intro f;cases f<;>exact h (by decide)
theorem LU{l:List Pt}:((l.length:Int)=0)↔l=[]:=by rw[<-xW];omega
end
section
variable{N:Nat}(hN:1001<=N)
include hN
variable(a b c p q id i k m1 m2 m3 m4:Int)(l:List Pt)(o:Bool)
theorem Z3:Fj N a b c l p q id i k m1 m2 m3 m4 o=some (decide (FA (1,(a,b,c,l,p,q),id,i,k,(m1,m2,m3,m4,o)))):=by unfold Fj Ks;rw[K0 (by omega)];simp only[bS];congr 1;rw[y8,bJ,fa1];simp only[fW,qZ,FM,bJ,beq_iff_eq,LU,kK,Is,ne_eq];rw[show(Ji a b c p q=true/\vB l=true)↔UV (a,b,c,l,p,q) by rw[<-fW];exact Is];grind
theorem Z4:Fk N a b c l p q id i k m1 m2 m3 m4 o=some (decide (FA (2,(a,b,c,l,p,q),id,i,k,(m1,m2,m3,m4,o)))):=by unfold Fk Ku Ct;unfold Cv BM;simp only[bS];rw[BR (λ_=>fL),bS];congr 1;rw[y8,bJ,fa2];simp only[fW,qZ,FM,bJ,beq_iff_eq,LU,kK,Is,ne_eq];grind
theorem Z5:Fl N a b c l p q id i k m1 m2 m3 m4 o=some (decide (FA (3,(a,b,c,l,p,q),id,i,k,(m1,m2,m3,m4,o)))):=by unfold Fl JP Ct;unfold Cv BM;simp only[bS];rw[BR (λ_=>fL),BR (λ_=>fL),BR (λ_=>fL),BR (λ_=>fL),bS];congr 1;rw[y8,bJ,qB];simp only[fW,qZ,FM,bJ,beq_iff_eq,LU,kK,Is,ne_eq];grind
theorem Z6:Fm N a b c l p q id i k m1 m2 m3 m4 o=some (decide (FA (4,(a,b,c,l,p,q),id,i,k,(m1,m2,m3,m4,o)))):=by unfold Fm JR Ct;unfold Cv BM;simp only[bS];rw[BR (λ_=>fL),BR (λ_=>fL),BR (λ_=>fL),bS];congr 1;rw[y8,bJ,qC];simp only[fW,qZ,FM,bJ,beq_iff_eq,LU,kK,Is,ne_eq];grind
theorem Z7:Fo N a b c l p q id i k m1 m2 m3 m4 o=some (decide (FA (5,(a,b,c,l,p,q),id,i,k,(m1,m2,m3,m4,o)))):=by unfold Fo Kw Ct;rw[Qt];simp only[bS];rw[BR (λ_=>fL),bS];congr 1;rw[y8,bJ,fa5];simp only[fW,qZ,FM,bJ,beq_iff_eq,LU,kK,Is,ne_eq];grind
theorem Z8:Fp N a b c l p q id i k m1 m2 m3 m4 o=some (decide (FA (6,(a,b,c,l,p,q),id,i,k,(m1,m2,m3,m4,o)))):=by unfold Fp HI Ct;unfold BM;simp only[bS];rw[BR (λ_=>fL),bS];congr 1;rw[y8,bJ,fa6];simp only[fW,qZ,FM,bJ,beq_iff_eq,LU,kK,Is,ne_eq];grind
theorem Z9:Fq N a b c l p q id i k m1 m2 m3 m4 o=some (decide (FA (7,(a,b,c,l,p,q),id,i,k,(m1,m2,m3,m4,o)))):=by unfold Fq HI Ct;unfold BM;simp only[bS];rw[BR (λ_=>fL),bS];congr 1;rw[y8,bJ,fa7];simp only[fW,qZ,FM,bJ,beq_iff_eq,LU,kK,Is,ne_eq];grind
theorem Xj{n:Int}(h:¬(1<=n/\n<=7)):Fr N n a b c l p q id i k m1 m2 m3 m4 o=some (decide (FA (n,(a,b,c,l,p,q),id,i,k,(m1,m2,m3,m4,o)))):=by unfold Fr;rw[Ae (by simp;omega),Ae (by simp;omega),Ae (by simp;omega),Ae (by simp;omega),Ae (by simp;omega),Ae (by simp;omega),Ae (by simp;omega),aB (fM h)]
theorem AcU(n:Int):Lq N n a b c l p q id i k m1 m2 m3 m4 o=some (decide (FA (n,(a,b,c,l,p,q),id,i,k,(m1,m2,m3,m4,o)))):=by
 unfold Lq;split;·subst n;exact Z3 hN _ _ _ _ _ _ _ _ _ _ _ _ _ _
 split;·subst n;exact Z4 hN _ _ _ _ _ _ _ _ _ _ _ _ _ _
 split;·subst n;exact Z5 hN _ _ _ _ _ _ _ _ _ _ _ _ _ _
 split;·subst n;exact Z6 hN _ _ _ _ _ _ _ _ _ _ _ _ _ _
 split;·subst n;exact Z7 hN _ _ _ _ _ _ _ _ _ _ _ _ _ _
 split;·subst n;exact Z8 hN _ _ _ _ _ _ _ _ _ _ _ _ _ _
 split;·subst n;exact Z9 hN _ _ _ _ _ _ _ _ _ _ _ _ _ _
 exact Xj hN _ _ _ _ _ _ _ _ _ _ _ _ _ _ (by omega)
theorem Afa(n:Int):BF N n a b c l p q id i k m1 m2 m3 m4 o=some (decide (FA (n,(a,b,c,l,p,q),id,i,k,(m1,m2,m3,m4,o)))):=by unfold BF;rw[AcU hN,bS]
theorem YX(n:Int):Ca N n a b c l p q id i k m1 m2 m3 m4 o=some (decide (FA (n,(a,b,c,l,p,q),id,i,k,(m1,m2,m3,m4,o)))):=by
 unfold Ca Do AH;simp only[bS];by_cases e:n=1
 ·subst e;rw[AU _ (by rfl),OI hN,bS];congr 1;rw[y8,bJ,fa1];simp only[fW,bJ,beq_iff_eq];rw[show(Ji a b c p q=true/\vB l=true)↔UV (a,b,c,l,p,q) by rw[<-fW];exact Is];grind
 rw[A1 _ (aB e)];by_cases e:n=2
 ·subst e;rw[AU _ (by rfl)];congr 1;rw[y8,bJ,fa2];simp only[fW,bJ,beq_iff_eq,LU];grind
 rw[A1 _ (aB e)];by_cases e:n=3
 ·subst e;rw[AU _ (by rfl),BR (λ_=>fL),BR (λ_=>fL),BR (λ_=>fL),BR (λ_=>fL)];congr 1;rw[y8,bJ,qB];simp only[fW,bJ,beq_iff_eq,LU,kK,ne_eq];grind
 rw[A1 _ (aB e)];by_cases e:n=4
 ·subst e;rw[AU _ (by rfl),BR (λ_=>fL),BR (λ_=>fL)];congr 1;rw[y8,bJ,qC];simp only[fW,bJ,beq_iff_eq,LU,kK,tL,vF,bK];grind
 rw[A1 _ (aB e)];by_cases e:n=5
 ·subst e;rw[AU _ (by rfl),RT,bS];congr 1;rw[y8,bJ,fa5];simp only[fW,bJ,beq_iff_eq,LU];grind
 rw[A1 _ (aB e)];by_cases e:n=6
 ·subst e;rw[AU _ (by rfl),AU _ (by rfl)];congr 1;rw[y8,bJ,fa6];simp only[fW,bJ,beq_iff_eq,LU];grind
 rw[A1 _ (aB e)];by_cases e:n=7
 ·subst e;rw[AU _ (by rfl)];congr 1;rw[y8,bJ,fa7];simp only[fW,bJ,beq_iff_eq,LU];grind
 rw[A1 _ (aB e),aB (fM (by omega))]
end
