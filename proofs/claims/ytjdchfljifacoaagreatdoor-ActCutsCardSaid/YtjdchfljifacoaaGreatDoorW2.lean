import Derived.Test.YtjdchfljifacoaaGreatDoorJ5
set_option linter.all false
set_option maxRecDepth 100000
set_option maxHeartbeats 8000000
namespace Go.Proofs.YtjdchfljifacoaaGreatDoor.Am
open Go
section
attribute [local irreducible] Aq BD Bv A8 Bq Ba AQ Bw By Ck
section
variable{n:Nm}{vs:List AV}{a0 a1 a2 a3 a5 a6 a7 a8 a9 a10 a11 a12 a13:Int}{y4:Nat}{f4:Bool}{s4:List (List AV)}{d4:List AV}{a14:Bool}
theorem iA:H7 Tryz.prog 99 [.box n 0,.agg [.v (.int .i64 a0),.v (.int .i64 a1),.v (.int .i64 a2),.v (.int .i64 a3),.sl y4 f4 s4 d4,.v (.int .i64 a5),.v (.int .i64 a6),.v (.int .i64 a7),.v (.int .i64 a8),.v (.int .i64 a9),.v (.int .i64 a10),.v (.int .i64 a11),.v (.int .i64 a12),.v (.int .i64 a13),.v (.bool a14)]] vs (As [(2,(0,0,0,[],0,0),a1,0,0,(0,0,0,0,false))]):=by
 have hS:=Ae (P:=Tryz.prog);refine KD hS x99 rfl (A01 rfl) λhb hp cnt hL hv=>?_
 have F:=f0;dsimp only[x99,Ad];refine go hS F ?_;refine Gr (ev F) (ev F) ⟨by simp only[go_sem,seval],rfl,by simp only[go_sem,seval],?_⟩;simp only[go_sem,seval]
 repeat' first|exact LkF.refl|refine LkF.pc hL (by simp only;omega) ?_|refine LkF.pa hL (by simp only;omega) ?_
theorem aH(h1:Ai (-a8))(h2:Ai (-a9)):H7 Tryz.prog 123 [.box n 0,.agg [.v (.int .i64 a0),.v (.int .i64 a1),.v (.int .i64 a2),.v (.int .i64 a3),.sl y4 f4 s4 d4,.v (.int .i64 a5),.v (.int .i64 a6),.v (.int .i64 a7),.v (.int .i64 a8),.v (.int .i64 a9),.v (.int .i64 a10),.v (.int .i64 a11),.v (.int .i64 a12),.v (.int .i64 a13),.v (.bool a14)]] vs (As [(4,(0,0,0,[],0,0),a7,-a8,-a9,(0,0,0,0,false))]):=by
 have hS:=Ae (P:=Tryz.prog);refine KD hS x123 rfl (A01 rfl) λhb hp cnt hL hv=>?_
 have F:=fc h1 (fc h2 f0);dsimp only[x123,Ad];refine go hS F ?_;refine Gr (ev F) (ev F) ⟨by simp only[go_sem,seval],rfl,by simp only[go_sem,seval],?_⟩;simp only[go_sem,seval]
 repeat' first|exact LkF.refl|refine LkF.pc hL (by simp only;omega) ?_|refine LkF.pa hL (by simp only;omega) ?_
theorem iB:H7 Tryz.prog 137 [.box n 0,.agg [.v (.int .i64 a0),.v (.int .i64 a1),.v (.int .i64 a2),.v (.int .i64 a3),.sl y4 f4 s4 d4,.v (.int .i64 a5),.v (.int .i64 a6),.v (.int .i64 a7),.v (.int .i64 a8),.v (.int .i64 a9),.v (.int .i64 a10),.v (.int .i64 a11),.v (.int .i64 a12),.v (.int .i64 a13),.v (.bool a14)]] vs (As [(7,(0,0,0,[],0,0),a7,0,0,(0,0,0,0,false))]):=by
 have hS:=Ae (P:=Tryz.prog);refine KD hS x137 rfl (A01 rfl) λhb hp cnt hL hv=>?_
 have F:=f0;dsimp only[x137,Ad];refine go hS F ?_;refine Gr (ev F) (ev F) ⟨by simp only[go_sem,seval],rfl,by simp only[go_sem,seval],?_⟩;simp only[go_sem,seval]
 repeat' first|exact LkF.refl|refine LkF.pc hL (by simp only;omega) ?_|refine LkF.pa hL (by simp only;omega) ?_
theorem aI:H7 Tryz.prog 139 [.box n 0,.agg [.v (.int .i64 a0),.v (.int .i64 a1),.v (.int .i64 a2),.v (.int .i64 a3),.sl y4 f4 s4 d4,.v (.int .i64 a5),.v (.int .i64 a6),.v (.int .i64 a7),.v (.int .i64 a8),.v (.int .i64 a9),.v (.int .i64 a10),.v (.int .i64 a11),.v (.int .i64 a12),.v (.int .i64 a13),.v (.bool a14)]] vs (As [(6,(0,0,0,[],0,0),a7,0,0,(0,0,0,0,false))]):=by
 have hS:=Ae (P:=Tryz.prog);refine KD hS x139 rfl (A01 rfl) λhb hp cnt hL hv=>?_
 have F:=f0;dsimp only[x139,Ad];refine go hS F ?_;refine Gr (ev F) (ev F) ⟨by simp only[go_sem,seval],rfl,by simp only[go_sem,seval],?_⟩;simp only[go_sem,seval]
 repeat' first|exact LkF.refl|refine LkF.pc hL (by simp only;omega) ?_|refine LkF.pa hL (by simp only;omega) ?_
end
theorem yP{hp:Hp}{n:Nm}{c c2:AV}(hc:∃z f r d,c=.sl z f r d)(hc2:∃z f r d,c2=.sl z f r d)(h:qv hp (.box n 0)=.agg [c,c2]):hl hp (.c n 0)=some c/\hl hp (.c n 1)=some c2:=by
 obtain⟨z,f,r,d,rfl⟩:=hc;obtain⟨z2,f2,r2,d2,rfl⟩:=hc2;simp only[qv,AV.agg.injEq]at h;cases hb:CF hp n 0 40 with
 |nil=>rw[hb]at h;cases h
 |cons x xs=>
  cases xs with
  |nil=>rw[hb]at h;simp at h
  |cons x2 xs=>
   rw[hb]at h;simp only[w5,List.cons.injEq]at h;have hx:=HD 40 0 0 x (by rw[hb];rfl);have hx2:=HD 40 0 1 x2 (by rw[hb];rfl);have aux:∀{x z f r d},I3 hp x=.sl z f r d->x=.sl z f r d:=by
    intro x z f r d h1;cases x with
    |mp m=>simp only[I3]at h1;split at h1<;>cases h1
    |_=>simp only[I3]at h1;first|exact h1|cases h1
   have e1:=aux h.1;have e2:=aux h.2.1;subst e1 e2;exact⟨by have:=hx.1;rw[A43]at this;exact this,by have:=hx2.1;exact this⟩
abbrev yQ:=Int×Un×Int×Int×Int×Mk
def Mj(N:Nat)(us:List Un)(ms:List Mk)(a0 a1 a2 a3:Int)(a4:List (Int×Int))(a5 a6 a7 a8 a9 a10 a11 a12 a13:Int)(a14:Bool):Option (List yQ):=(Ci N ms a0 a1 a2 a3 a4 a5 a6 a7 a8 a9 a10 a11 a12 a13 a14).bind λb=>bif b then some []else match BV N us a7 with|some (u,true)=>some [(1,u,0,0,0,(0,0,0,0,false))]|_=>none
def kM:List yQ->AV|[]=>.v (.slice none 0 0)|x::l=>As (x::l)
attribute [local go_sem] kM
section
variable(N:Nat){n:Nm}{a0 a1 a2 a3 a5 a6 a7 a8 a9 a10 a11 a12 a13:Int}{y4:Nat}{s4:List (List AV)}{d4:List AV}{a14:Bool}{y y2:Nat}{fl fl2:Bool}{s s2:List (List AV)}{d d2:List AV}
attribute [local go_sem] qU qv I3
theorem iC{rr:List yQ}(hy:y=6\/s=[])(hw:F3 s ((s.map BH).map Ap))(hy2:y2=5\/s2=[])(hw2:s2=(s2.map Eo).map BW)(h4:((y4=2/\False=False)/\d4=[.i 0,.i 0])/\s4=(s4.map HS).map Ce)(hu:Mj N (s.map BH) (s2.map Eo) a0 a1 a2 a3 (s4.map HS) a5 a6 a7 a8 a9 a10 a11 a12 a13 a14=some rr):H7 Tryz.prog 109 [.box n 0,.agg [.v (.int .i64 a0),.v (.int .i64 a1),.v (.int .i64 a2),.v (.int .i64 a3),.sl y4 false s4 d4,.v (.int .i64 a5),.v (.int .i64 a6),.v (.int .i64 a7),.v (.int .i64 a8),.v (.int .i64 a9),.v (.int .i64 a10),.v (.int .i64 a11),.v (.int .i64 a12),.v (.int .i64 a13),.v (.bool a14)]] [.agg [.sl y fl s d,.sl y2 fl2 s2 d2],.agg [.v (.int .i64 a0),.v (.int .i64 a1),.v (.int .i64 a2),.v (.int .i64 a3),.sl y4 false s4 d4,.v (.int .i64 a5),.v (.int .i64 a6),.v (.int .i64 a7),.v (.int .i64 a8),.v (.int .i64 a9),.v (.int .i64 a10),.v (.int .i64 a11),.v (.int .i64 a12),.v (.int .i64 a13),.v (.bool a14)]] (kM rr):=by
 have hS:=Bl (Aa (Vz N)<|Ae) (Kk N) (Cq N) Gz (Gy N);refine KD hS x109 (by cases rr<;>rfl) (A01 rfl) λhb hp cnt hL hv=>?_
 obtain⟨n1,n2⟩:=n;simp only[w5,A22,List.cons.injEq,and_true]at hv;obtain⟨h0,h1⟩:=yP ⟨_,_,_,_,rfl⟩ ⟨_,_,_,_,rfl⟩ hv.1;have hn:=hL.a (n1,n2) 0 (by simp);obtain⟨⟨⟨rfl,_⟩,rfl⟩,h4⟩:=h4;generalize hl4:s4.map HS=l4 at h4 hu;generalize hl2:s2.map Eo=l2 at hw2 hu;subst h4 hw2;have F:=fc (show(y=6\/s=[])=True from eq_true hy) (fc (show F3 s ((s.map BH).map Ap)=True from eq_true hw) (fc (show(y2=5\/l2=[])=True from eq_true (by simpa using hy2)) (fc (show∀k j,hl hp (.c (k,cnt+1) j)=none from λk j=>by
  cases e:hl hp (.c (k,cnt+1) j)with
  |none=>rfl
  |some x=>exact absurd (hL.h _ _ _ e) (by simp))<|fc h0 (fc h1 (fc (show(cnt+1=n2)=False by simp at hn⊢;omega) (fc (show(cnt+1+1=n2)=False by simp at hn⊢;omega) (fc (show(cnt+1+1+1=n2)=False by simp at hn⊢;omega) (fc (show(cnt+1+1+1+1=n2)=False by simp at hn⊢;omega) f0))))))))
 unfold Mj at hu;dsimp only[x109,Ad];cases hc:Ci N l2 a0 a1 a2 a3 l4 a5 a6 a7 a8 a9 a10 a11 a12 a13 a14 with
 |none=>rw[hc]at hu;cases hu
 |some b=>
  rw[hc]at hu;replace F:=fc hc F;cases b with
  |true=>
   cases hu
   refine go hS F ?_;refine ct F ?_;refine Co (oQ (Ctx.fn_ok hS) (Dr ?_));refine go hS F ?_;refine Gr (ev F) (ev F) ⟨by simp only[go_sem,seval],rfl,by simp only[go_sem,seval],?_⟩;simp only[go_sem,seval]
   repeat' first|exact LkF.refl|refine LkF.pc hL (by simp only;omega) ?_|refine LkF.pa hL (by simp only;omega) ?_
  |false=>
   dsimp only[Option.bind,cond]at hu;split at hu
   ·rename_i u hu3;cases hu
    replace F:=fc hu3 F;refine go hS F ?_;refine cf F ?_;refine go hS F ?_;refine Gr (ev F) (ev F) ⟨by simp only[go_sem,seval],rfl,by simp only[go_sem,seval],?_⟩;simp only[go_sem,seval]
    repeat' first|exact LkF.refl|refine LkF.pc hL (by simp only;omega) ?_|refine LkF.pa hL (by simp only;omega) ?_
   ·cases hu
end
end
section
attribute [local irreducible] Aq BD Bv A8 Bq Ba AQ Bw By Ck
theorem Aa9{S F G:Prop}{E:Type}{a r:E}(hS:S)(f:F)(h:some a=some r)(t:S->(r=a/\F)->G:=by
 intro hS f
 repeat' (first
  |(with_reducible (first|apply Dc|apply D2|apply DX|apply EN|apply Dd|apply De|apply Fs|apply Ft);(·(first|exact Ctx.fn_ok hS|exact Ctx.rd_ok hS|assumption|exact yT|exact Ctx.rdG_ok hS));iterate 2 (·(simp only[go_sem,seval,f]<;>eq_refl)))
  |with_reducible (first|apply C8|apply DR|apply CT|apply CU|apply CC|apply Cb|apply Co|apply Dr|apply DF|apply DS|apply DT|apply DU|apply DV)
  |(with_reducible apply DW;(·first|rfl|decide))
  |(with_reducible apply AO;(·simp))
  |with_reducible (first|apply Gs|apply Gt|apply Gu|apply Da|apply Db|apply DZ|apply D0|apply D1|apply yT|apply And.intro yT yT)
  |(fail_if_success with_reducible apply FP);(fail_if_success with_reducible apply DY);first|with_reducible apply And.intro|omega|(simp only[go_sem,seval,f];done)|with_reducible assumption|(refine And.intro ?_ ?_)|(intro hg;simp_all;done)|decide|grind)
 refine oR (by simp only[go_sem,seval,f]<;>eq_refl) (by simp only[go_sem,seval,f]) (by simp only[go_sem,seval,f]) (by first|(simp only[go_sem,seval,f];done)|(simp only[go_sem,seval,f];rfl)) (by simp only[go_sem,seval,f]<;>rfl) rfl):G:=t hS ⟨(yJ h).symm,f⟩
def yR(N:Nat):Nat->List AV->List AV->Option (Prop×AV):=λf args vs=>if f=99 then(match args with|[.box _ 0,.agg [.v (.int .i64 a0),.v (.int .i64 a1),.v (.int .i64 a2),.v (.int .i64 a3),.sl _ _ _ _,.v (.int .i64 a5),.v (.int .i64 a6),.v (.int .i64 a7),.v (.int .i64 a8),.v (.int .i64 a9),.v (.int .i64 a10),.v (.int .i64 a11),.v (.int .i64 a12),.v (.int .i64 a13),.v (.bool a14)]]=>some (True,As [(2,(0,0,0,[],0,0),a1,0,0,(0,0,0,0,false))])|_=>none)else if f=123 then(match args with|[.box _ 0,.agg [.v (.int .i64 a0),.v (.int .i64 a1),.v (.int .i64 a2),.v (.int .i64 a3),.sl _ _ _ _,.v (.int .i64 a5),.v (.int .i64 a6),.v (.int .i64 a7),.v (.int .i64 a8),.v (.int .i64 a9),.v (.int .i64 a10),.v (.int .i64 a11),.v (.int .i64 a12),.v (.int .i64 a13),.v (.bool a14)]]=>some (Ai (-a8)/\Ai (-a9),As [(4,(0,0,0,[],0,0),a7,-a8,-a9,(0,0,0,0,false))])|_=>none)else if f=137 then(match args with|[.box _ 0,.agg [.v (.int .i64 a0),.v (.int .i64 a1),.v (.int .i64 a2),.v (.int .i64 a3),.sl _ _ _ _,.v (.int .i64 a5),.v (.int .i64 a6),.v (.int .i64 a7),.v (.int .i64 a8),.v (.int .i64 a9),.v (.int .i64 a10),.v (.int .i64 a11),.v (.int .i64 a12),.v (.int .i64 a13),.v (.bool a14)]]=>some (True,As [(7,(0,0,0,[],0,0),a7,0,0,(0,0,0,0,false))])|_=>none)else if f=139 then(match args with|[.box _ 0,.agg [.v (.int .i64 a0),.v (.int .i64 a1),.v (.int .i64 a2),.v (.int .i64 a3),.sl _ _ _ _,.v (.int .i64 a5),.v (.int .i64 a6),.v (.int .i64 a7),.v (.int .i64 a8),.v (.int .i64 a9),.v (.int .i64 a10),.v (.int .i64 a11),.v (.int .i64 a12),.v (.int .i64 a13),.v (.bool a14)]]=>some (True,As [(6,(0,0,0,[],0,0),a7,0,0,(0,0,0,0,false))])|_=>none)else
 if f=109 then(match args,vs with
  |[.box _ 0,.agg [.v (.int .i64 a0),.v (.int .i64 a1),.v (.int .i64 a2),.v (.int .i64 a3),.sl y4 false s4 d4,.v (.int .i64 a5),.v (.int .i64 a6),.v (.int .i64 a7),.v (.int .i64 a8),.v (.int .i64 a9),.v (.int .i64 a10),.v (.int .i64 a11),.v (.int .i64 a12),.v (.int .i64 a13),.v (.bool a14)]],[.agg [.sl y _ s _,.sl y2 _ s2 _],_]=>match Mj N (s.map BH) (s2.map Eo) a0 a1 a2 a3 (s4.map HS) a5 a6 a7 a8 a9 a10 a11 a12 a13 a14 with|some rr=>some (((y=6\/s=[])/\F3 s ((s.map BH).map Ap))/\((y2=5\/s2=[])/\s2=(s2.map Eo).map BW)/\((y4=2/\d4=[.i 0,.i 0])/\s4=(s4.map HS).map Ce),kM rr)|none=>none
  |_,_=>none)else qU N f args vs
theorem Ml(N:Nat):∀f args vs vc r,yR N f args vs=some (vc,r)->vc->C0 Tryz.prog f/\H7 Tryz.prog f args vs r:=by
 intro f args vs vc r h hv;unfold yR at h;split at h
 ·rename_i hf;subst hf;split at h
  ·cases h
   exact⟨x99.ok,iA⟩
  ·cases h
 split at h
 ·rename_i hf;subst hf;split at h
  ·cases h
   exact⟨x123.ok,aH hv.1 hv.2⟩
  ·cases h
 split at h
 ·rename_i hf;subst hf;split at h
  ·cases h
   exact⟨x137.ok,iB⟩
  ·cases h
 split at h
 ·rename_i hf;subst hf;split at h
  ·cases h
   exact⟨x139.ok,aI⟩
  ·cases h
 split at h
 ·rename_i hf;subst hf;split at h
  ·rename_i v2;split at h
   ·rename_i rr hu;cases h
    obtain⟨⟨h1,h2⟩,⟨h3,h4⟩,⟨h5,h6⟩,h7⟩:=hv;refine⟨x109.ok,λU hp xs gl hI hal hx hvs=>?_⟩;have hii:=hvs;simp only[w5,A22,List.cons.injEq,and_true]at hii;have e:=hii.2;rw[show∀l,qv hp (.agg l)=.agg l from λ_=>rfl]at e;subst e;exact iC N h1 h2 h3 h4 ⟨⟨⟨h5,rfl⟩,h6⟩,h7⟩ hu U hp xs gl hI hal hx hvs
   ·cases h
  ·cases h
 ·exact Kk N f args vs vc r h hv
end
section
attribute [local irreducible] Aq BD Bv A8 Bq Ba AQ Bw By Ck
attribute [local go_sem] kF LA Ij Ik qU yR kM qv I3
def KP(N:Nat)(s1:List (Int×Int×Int×(List (Int×Int))×Int×Int))(s2:List (Int×Int×Int×Int×Bool))(a4:Int)(a5:Int)(a6:Int)(a7:List (Int×Int))(a8:Int)(a9:Int)(ke:Int)(ka:Int)(j9:Int)(j8:Int)(j7:Int)(j6:Int)(j5:Int)(j4:Bool):Option ((List (Int×(Int×Int×Int×(List (Int×Int))×Int×Int)×Int×Int×Int×(Int×Int×Int×Int×Bool)))×Bool):=(Ct N s1 s2 1 a4 a5 a6 a7 a8 a9 ke ka j9 j8 j7 j6 j5 j4).bind λ((lj,li),r20)=>bif decide (r20≠0)then(some ([],false))else((Eu N a4 a5 a6 a7 a8 a9 ke ka j9 j8 j7 j6 j5 j4).bind λlz=>(Fq N s1 s2).bind λ(lh,lg)=>some ([(2,(0,0,0,[],0,0),a4,0,0,(0,0,0,0,false))],true))
@[go_sem] def yG(N:Nat):Spec:=p0<|(qG<|qD Ak<|qD Az<|qE<|qG<|qC 1<|qI<|qI<|qI<|qD Aj<|qI<|qI<|qI<|qI<|qI<|qI<|qI<|qI<|qI<|qB<|qE<|qE<|qF ([],false) λr=>.tup [As r.1,.b r.2]) (KP N)
theorem gT(N:Nat):Au Tryz.prog 16 (yG N):=by
 refine fk (wX x16 (Bl (Aa (Kl N)<|Aa (LB N)<|Aa (Pm N)<|Ae) (Ml N) (Cq N) Gz (Gy N))) ?_;intro s1 s2 a4 a5 a6 a7 a8 a9 ke ka j9 j8 j7 j6 j5 j4 r h _ hS F;dsimp only[x16,Ad,Aj,Az,Ak];unfold KP at h;obtain⟨⟨⟨lj,li⟩,r20⟩,ja,h⟩:=un h;replace F:=fc ja F;refine An hS F h (λ_ h=>?_) (λ_ h=>?_)
 ·exact GN hS F h
 ·obtain⟨lz,i9,h⟩:=un h;replace F:=fc i9 F;refine Gn hS F ?_;obtain⟨⟨lh,lg⟩,i8,h⟩:=un h;exact GN hS (fc i8 F) h
def KQ(N:Nat)(aG:List (Int×Int×Int×(List (Int×Int))×Int×Int))(gt:List (Int×Int×Int×Int×Bool))(gr:Int)(gm:Int)(gj:Int)(gi:List (Int×Int))(gh:Int)(gg:Int)(ge:Int)(gc:Int)(fy:Int)(fx:Int)(fr:Int)(fq:Int)(fp:Int)(fo:Bool):Option ((List (Int×(Int×Int×Int×(List (Int×Int))×Int×Int)×Int×Int×Int×(Int×Int×Int×Int×Bool)))×Bool):=(Ct N aG gt 2 gr gm gj gi gh gg ge gc fy fx fr fq fp fo).bind λ((lf,kz),kl)=>bif decide (kl≠0)then(some ([],false))else((Ew N gr gm gj gi gh gg ge gc fy fx fr fq fp fo).bind λlr=>(Fq N aG gt).bind λ(kj,ki)=>(Mj N kj ki 2 gr gm gj gi gh gg ge gc fy fx fr fq fp fo).bind λl53=>some (l53, !l53.isEmpty))
@[go_sem] def yH(N:Nat):Spec:=p0<|(qG<|qD Ak<|qD Az<|qE<|qG<|qC 2<|qI<|qI<|qI<|qD Aj<|qI<|qI<|qI<|qI<|qI<|qI<|qI<|qI<|qI<|qB<|qE<|qE<|qF ([],false) λr=>.tup [As r.1,.b r.2]) (KQ N)
theorem gU(N:Nat):Au Tryz.prog 16 (yH N):=by
 refine fk (wX x16 (Bl (Aa (Kl N)<|Aa (LC N)<|Aa (Pm N)<|Ae) (Ml N) (Cq N) Gz (Gy N))) ?_;intro aG gt gr gm gj gi gh gg ge gc fy fx fr fq fp fo r h _ hS F;dsimp only[x16,Ad,Aj,Az,Ak];unfold KQ at h;obtain⟨⟨⟨lf,kz⟩,kl⟩,i7,h⟩:=un h;replace F:=fc i7 F;refine An hS F h (λ_ h=>?_) (λ_ h=>?_)
 ·exact GN hS F h
 ·obtain⟨lr,i6,h⟩:=un h;replace F:=fc i6 F;refine Gn hS F ?_;obtain⟨⟨kj,ki⟩,d8,h⟩:=un h;obtain⟨l53,d7,h⟩:=un h;cases l53 with
  |nil=>exact Aa9 hS (fc d7 (fc d8 F)) h
  |cons x xs=>exact GN hS (fc d7 (fc d8 F)) h
def KR(N:Nat)(kf:List (Int×Int×Int×(List (Int×Int))×Int×Int))(kK:List (Int×Int×Int×Int×Bool))(jz:Int)(jy:Int)(jx:Int)(jw:List (Int×Int))(jv:Int)(ju:Int)(jt:Int)(js:Int)(jr:Int)(jq:Int)(jp:Int)(jo:Int)(jn:Int)(jm:Bool):Option ((List (Int×(Int×Int×Int×(List (Int×Int))×Int×Int)×Int×Int×Int×(Int×Int×Int×Int×Bool)))×Bool):=(Ct N kf kK 3 jz jy jx jw jv ju jt js jr jq jp jo jn jm).bind λ((kw,kv),kh)=>bif decide (kh≠0)then(some ([],false))else((Ex N jz jy jx jw jv ju jt js jr jq jp jo jn jm).bind λlq=>some ([],false))
@[go_sem] def yI(N:Nat):Spec:=p0<|(qG<|qD Ak<|qD Az<|qE<|qG<|qC 3<|qI<|qI<|qI<|qD Aj<|qI<|qI<|qI<|qI<|qI<|qI<|qI<|qI<|qI<|qB<|qE<|qE<|qF ([],false) λr=>.tup [As r.1,.b r.2]) (KR N)
theorem gV(N:Nat):Au Tryz.prog 16 (yI N):=by
 refine fk (wX x16 (Bl (Aa (Kl N)<|Aa (LD N)<|Ae) (Ml N) (Cq N) Gz (Gy N))) ?_;intro kf kK jz jy jx jw jv ju jt js jr jq jp jo jn jm r h _ hS F;dsimp only[x16,Ad,Aj,Az,Ak];unfold KR at h;obtain⟨⟨⟨kw,kv⟩,kh⟩,i5,h⟩:=un h;replace F:=fc i5 F;refine An hS F h (λ_ h=>?_) (λ_ h=>?_)
 ·exact GN hS F h
 ·obtain⟨lq,i4,h⟩:=un h;replace F:=fc i4 F;refine Jg hS F ?_;exact GN hS F h
def KS(N:Nat)(Zf:List (Int×Int×Int×(List (Int×Int))×Int×Int))(UY:List (Int×Int×Int×Int×Bool))(jl:Int)(jk:Int)(jj:Int)(ji:List (Int×Int))(jh:Int)(jg:Int)(fm:Int)(fj:Int)(fh:Int)(jf:Int)(je:Int)(jd:Int)(jc:Int)(jb:Bool):Option ((List (Int×(Int×Int×Int×(List (Int×Int))×Int×Int)×Int×Int×Int×(Int×Int×Int×Int×Bool)))×Bool):=(Ct N Zf UY 4 jl jk jj ji jh jg fm fj fh jf je jd jc jb).bind λ((kr,kq),kg)=>bif decide (kg≠0)then(some ([],false))else((Ey N jl jk jj ji jh jg fm fj fh jf je jd jc jb).bind λlm=>(Fq N Zf UY).bind λ(ip,im)=>gd (Ai (-fj))<|gd (Ai (-fh))<|some ([(4,(0,0,0,[],0,0),fm,-fj,-fh,(0,0,0,0,false))],true))
@[go_sem] def yK(N:Nat):Spec:=p0<|(qG<|qD Ak<|qD Az<|qE<|qG<|qC 4<|qI<|qI<|qI<|qD Aj<|qI<|qI<|qI<|qI<|qI<|qI<|qI<|qI<|qI<|qB<|qE<|qE<|qF ([],false) λr=>.tup [As r.1,.b r.2]) (KS N)
theorem gW(N:Nat):Au Tryz.prog 16 (yK N):=by
 refine fk (wX x16 (Bl (Aa (Kl N)<|Aa (LE N)<|Aa (Pm N)<|Ae) (Ml N) (Cq N) Gz (Gy N))) ?_;intro Zf UY jl jk jj ji jh jg fm fj fh jf je jd jc jb r h _ hS F;dsimp only[x16,Ad,Aj,Az,Ak];unfold KS at h;obtain⟨⟨⟨kr,kq⟩,kg⟩,iz,h⟩:=un h;replace F:=fc iz F;refine An hS F h (λ_ h=>?_) (λ_ h=>?_)
 ·exact GN hS F h
 ·obtain⟨lm,iy,h⟩:=un h;replace F:=fc iy F;refine Gn hS F ?_;obtain⟨⟨ip,im⟩,fg,h⟩:=un h;obtain⟨km,l6,h⟩:=un h;exact GN hS (fc fg F) h
def KT(N:Nat)(XF:List (Int×Int×Int×(List (Int×Int))×Int×Int))(dw:List (Int×Int×Int×Int×Bool))(du:Int)(dt:Int)(dq:Int)(dm:List (Int×Int))(dl:Int)(dh:Int)(dg:Int)(de:Int)(db:Int)(da:Int)(cy:Int)(cu:Int)(cr:Int)(cq:Bool):Option ((List (Int×(Int×Int×Int×(List (Int×Int))×Int×Int)×Int×Int×Int×(Int×Int×Int×Int×Bool)))×Bool):=(Ct N XF dw 5 du dt dq dm dl dh dg de db da cy cu cr cq).bind λ((ij,ii),d5)=>bif decide (d5≠0)then(some ([],false))else((Ez N du dt dq dm dl dh dg de db da cy cu cr cq).bind λiw=>some ([],false))
@[go_sem] def yL(N:Nat):Spec:=p0<|(qG<|qD Ak<|qD Az<|qE<|qG<|qC 5<|qI<|qI<|qI<|qD Aj<|qI<|qI<|qI<|qI<|qI<|qI<|qI<|qI<|qI<|qB<|qE<|qE<|qF ([],false) λr=>.tup [As r.1,.b r.2]) (KT N)
theorem gX(N:Nat):Au Tryz.prog 16 (yL N):=by
 refine fk (wX x16 (Bl (Aa (Kl N)<|Aa (LF N)<|Ae) (Ml N) (Cq N) Gz (Gy N))) ?_;intro XF dw du dt dq dm dl dh dg de db da cy cu cr cq r h _ hS F;dsimp only[x16,Ad,Aj,Az,Ak];unfold KT at h;obtain⟨⟨⟨ij,ii⟩,d5⟩,e9,h⟩:=un h;replace F:=fc e9 F;refine An hS F h (λ_ h=>?_) (λ_ h=>?_)
 ·exact GN hS F h
 ·obtain⟨iw,e8,h⟩:=un h;replace F:=fc e8 F;refine Jg hS F ?_;exact GN hS F h
def KU(N:Nat)(Ul:List (Int×Int×Int×(List (Int×Int))×Int×Int))(Uf:List (Int×Int×Int×Int×Bool))(co:Int)(cn:Int)(ck:Int)(cj:List (Int×Int))(ci:Int)(ce:Int)(ab:Int)(b9:Int)(b7:Int)(bz:Int)(bw:Int)(bv:Int)(bu:Int)(br:Bool):Option ((List (Int×(Int×Int×Int×(List (Int×Int))×Int×Int)×Int×Int×Int×(Int×Int×Int×Int×Bool)))×Bool):=(Ct N Ul Uf 6 co cn ck cj ci ce ab b9 b7 bz bw bv bu br).bind λ((ig,ic),dz)=>bif decide (dz≠0)then(some ([],false))else((EA N co cn ck cj ci ce ab b9 b7 bz bw bv bu br).bind λiv=>(Fq N Ul Uf).bind λ(ib,g9)=>some ([(7,(0,0,0,[],0,0),ab,0,0,(0,0,0,0,false))],true))
@[go_sem] def yM(N:Nat):Spec:=p0<|(qG<|qD Ak<|qD Az<|qE<|qG<|qC 6<|qI<|qI<|qI<|qD Aj<|qI<|qI<|qI<|qI<|qI<|qI<|qI<|qI<|qI<|qB<|qE<|qE<|qF ([],false) λr=>.tup [As r.1,.b r.2]) (KU N)
theorem gY(N:Nat):Au Tryz.prog 16 (yM N):=by
 refine fk (wX x16 (Bl (Aa (Kl N)<|Aa (LG N)<|Aa (Pm N)<|Ae) (Ml N) (Cq N) Gz (Gy N))) ?_;intro Ul Uf co cn ck cj ci ce ab b9 b7 bz bw bv bu br r h _ hS F;dsimp only[x16,Ad,Aj,Az,Ak];unfold KU at h;obtain⟨⟨⟨ig,ic⟩,dz⟩,ez,h⟩:=un h;replace F:=fc ez F;refine An hS F h (λ_ h=>?_) (λ_ h=>?_)
 ·exact GN hS F h
 ·obtain⟨iv,eu,h⟩:=un h;replace F:=fc eu F;refine Gn hS F ?_;obtain⟨⟨ib,g9⟩,ep,h⟩:=un h;exact GN hS (fc ep F) h
def KV(N:Nat)(Ui:List (Int×Int×Int×(List (Int×Int))×Int×Int))(U5:List (Int×Int×Int×Int×Bool))(bq:Int)(bp:Int)(bo:Int)(bn:List (Int×Int))(bm:Int)(bl:Int)(aa:Int)(bj:Int)(bi:Int)(bh:Int)(bg:Int)(bf:Int)(be:Int)(bb:Bool):Option ((List (Int×(Int×Int×Int×(List (Int×Int))×Int×Int)×Int×Int×Int×(Int×Int×Int×Int×Bool)))×Bool):=(Ct N Ui U5 7 bq bp bo bn bm bl aa bj bi bh bg bf be bb).bind λ((g8,gz),dy)=>bif decide (dy≠0)then(some ([],false))else((EB N bq bp bo bn bm bl aa bj bi bh bg bf be bb).bind λiq=>(Fq N Ui U5).bind λ(gy,gx)=>some ([(6,(0,0,0,[],0,0),aa,0,0,(0,0,0,0,false))],true))
@[go_sem] def yN(N:Nat):Spec:=p0<|(qG<|qD Ak<|qD Az<|qE<|qG<|qC 7<|qI<|qI<|qI<|qD Aj<|qI<|qI<|qI<|qI<|qI<|qI<|qI<|qI<|qI<|qB<|qE<|qE<|qF ([],false) λr=>.tup [As r.1,.b r.2]) (KV N)
theorem gZ(N:Nat):Au Tryz.prog 16 (yN N):=by
 refine fk (wX x16 (Bl (Aa (Kl N)<|Aa (LH N)<|Aa (Pm N)<|Ae) (Ml N) (Cq N) Gz (Gy N))) ?_;intro Ui U5 bq bp bo bn bm bl aa bj bi bh bg bf be bb r h _ hS F;dsimp only[x16,Ad,Aj,Az,Ak];unfold KV at h;obtain⟨⟨⟨g8,gz⟩,dy⟩,el,h⟩:=un h;replace F:=fc el F;refine An hS F h (λ_ h=>?_) (λ_ h=>?_)
 ·exact GN hS F h
 ·obtain⟨iq,ej,h⟩:=un h;replace F:=fc ej F;refine Gn hS F ?_;obtain⟨⟨gy,gx⟩,eh,h⟩:=un h;exact GN hS (fc eh F) h
def KW(N:Nat)(Jm:List (Int×Int×Int×(List (Int×Int))×Int×Int))(Jn:List (Int×Int×Int×Int×Bool))(ba:Int)(az:Int)(ay:Int)(aw:Int)(av:List (Int×Int))(au:Int)(aq:Int)(an:Int)(am:Int)(ak:Int)(aj:Int)(ai:Int)(ah:Int)(af:Int)(ae:Bool):Option ((List (Int×(Int×Int×Int×(List (Int×Int))×Int×Int)×Int×Int×Int×(Int×Int×Int×Int×Bool)))×Bool):=(Ct N Jm Jn ba az ay aw av au aq an am ak aj ai ah af ae).bind λ((gw,gu),dx)=>bif decide (dx≠0)then(some ([],false))else((EC N ba az ay aw av au aq an am ak aj ai ah af ae).bind λd6=>gd (d6=false)<|some ([],false))
@[go_sem] def yO(N:Nat):Spec:=p0<|(qG<|qD Ak<|qD Az<|qE<|qG<|qI<|qI<|qI<|qI<|qD Aj<|qI<|qI<|qI<|qI<|qI<|qI<|qI<|qI<|qI<|qB<|qE<|qE<|qF ([],false) λr=>.tup [As r.1,.b r.2]) (KW N)
theorem hH(N:Nat):Au Tryz.prog 16 (yO N):=by
 refine fk (wX x16 (Bl (Aa (Kl N)<|Aa (LI N)<|Ae) (Ml N) (Cq N) Gz (Gy N))) ?_;intro Jm Jn ba az ay aw av au aq an am ak aj ai ah af ae r h _ hS F;dsimp only[x16,Ad,Aj,Az,Ak];unfold KW at h;obtain⟨⟨⟨gw,gu⟩,dx⟩,ee,h⟩:=un h;replace F:=fc ee F;refine An hS F h (λ_ h=>?_) (λ_ h=>?_)
 ·exact GN hS F h
 ·obtain⟨d6,d9,km,h⟩:=un h;replace F:=fc km (fc d9 F);refine Jg hS F ?_;exact GN hS F h
end
section
attribute [local irreducible] Aq BD Bv A8 Bq Ba AQ Bw By Ck
attribute [local go_sem] Option.isSome_some bD Mc Ce NF Z4 WN xC
theorem XW:BT 151:=⟨by kernel_rfl,by decide⟩
theorem yV(ns:List Int)(hn:ns.length<=1000000)(hne:ER ns≠[]):PCall Tryz.prog 46 [.sl 1 false (ns.map PN) [.i 0]] (.v (.string (sB (ER ns)))):=by
 refine Ts Rl _ x46.hf x46.hc x46.hn (by decide) (A01 rfl) λhb M=>?_
 have hS:=Rl;have hOK:=Ctx.bd_ok (nt:=23) (hb:=hb) (N:=M) (X:=λ_=>False) (hnt:=by decide) hS;dsimp only[x46,Ad,B3];have hlen:=LS ns;refine go hS f0 ?_;refine Tr hS 0 rfl XW (by simp only[go_sem,seval]<;>eq_refl) yT λB=>⟨_,_,_,(by simp only[go_sem,seval]<;>eq_refl),yT,?_⟩
 refine go hS f0 ?_;refine Hf (λx:Nat×Nat=>⟨[(10,.i x.1),(9,.i ns.length),(8,.sl 1 false (ns.map PN) [.i 0]),(3,.v (.pointer (some ⟨B,0,none⟩))),(bk,gB B (ER (ns.take x.1)))],[],x.2⟩)
  (λx=>x.1<=ns.length) (λx=>ns.length-x.1) (0,50) ?_ ?_ ?_
 ·exact A16 _
 ·refine Le.of ?_ ?_ (by simp)<;>(simp only[go_sem,seval,ER];try simp)
 ·rintro⟨j,c⟩ hj;simp only at hj
  repeat' (first
  |((with_reducible first|apply Dc|apply D2|apply DX|apply EN|apply Dd|apply De);(·(first|exact Ctx.fn_ok hS|exact Ctx.rd_ok hS|assumption|exact yT));iterate 2 (·(simp only[go_sem,seval]<;>eq_refl)))
  |(with_reducible first|apply C8|apply DR|apply CT|apply CU|apply CC|apply Cb|apply Co|apply Dr|apply DF|apply DS|apply DT|apply DU|apply DV)
  |(with_reducible apply DW;(·first|rfl|decide))
  |(with_reducible first|apply Da|apply Db|apply DZ|apply D0|apply D1|apply yT|apply And.intro yT yT)
  |(fail_if_success with_reducible apply FP);(fail_if_success with_reducible apply DY);first|omega|(simp only[go_sem,seval];done)
  |fail)
  refine QP ((j:Int)<ns.length) (by simp only[go_sem,seval]<;>eq_refl) (by first|simp only[Bool.decide_or,Bool.decide_and,decide_not]|simp) (λab=>?_) (λab=>?_)
  ·have hj':j<ns.length:=by omega
   have hrow:=eI_row ns [.i 0] j hj';have hsu:=SJ hj';have hle:=WO ns (j+1);rw[hsu,w9]at hle;have aa:(ER (ns.take j)).length+(Jw (ns.getD j 0)).length<=140737488355328:=by omega
   repeat' (first
  |((with_reducible first|apply Dc|apply D2|apply DX|apply EN|apply Dd|apply De);(·(first|exact Ctx.fn_ok hS|exact Ctx.rd_ok hS|assumption|exact yT));iterate 2 (·(simp only[go_sem,seval,hrow]<;>eq_refl)))
  |(with_reducible first|apply C8|apply DR|apply CT|apply CU|apply CC|apply Cb|apply Co|apply Dr|apply DF|apply DS|apply DT|apply DU|apply DV)
  |(with_reducible apply DW;(·first|rfl|decide))
  |(with_reducible first|apply Da|apply Db|apply DZ|apply D0|apply D1|apply yT|apply And.intro yT yT)
  |(fail_if_success with_reducible apply FP);(fail_if_success with_reducible apply DY);first|omega|(simp only[go_sem,seval,hrow];done)
  |fail)
   refine IV hS 1 rfl UT (by simp only[go_sem,seval]<;>eq_refl) yT (by simp only[go_sem,seval]<;>eq_refl) (by simp only[go_sem,seval]<;>eq_refl) (by simp only[go_sem,seval]<;>eq_refl) (by simp only[go_sem,seval,E2]<;>eq_refl) rfl rfl (Pr aa) (by simp only[go_sem,seval]<;>eq_refl) yT ?_
   repeat' (first
  |((with_reducible first|apply Dc|apply D2|apply DX|apply EN|apply Dd|apply De);(·(first|exact Ctx.fn_ok hS|exact Ctx.rd_ok hS|assumption|exact yT));iterate 2 (·(simp only[go_sem,seval]<;>eq_refl)))
  |(with_reducible first|apply C8|apply DR|apply CT|apply CU|apply CC|apply Cb|apply Co|apply Dr|apply DF|apply DS|apply DT|apply DU|apply DV)
  |(with_reducible apply DW;(·first|rfl|decide))
  |(with_reducible first|apply Da|apply Db|apply DZ|apply D0|apply D1|apply yT|apply And.intro yT yT)
  |(fail_if_success with_reducible apply FP);(fail_if_success with_reducible apply DY);first|omega|(simp only[go_sem,seval];done)
  |fail)
   refine Id (j+1,c+50) (by show j+1<=_;omega) (by show ns.length-(j+1)<ns.length-j;omega) (Le.of ?_ ?_ ?_)
   ·simp only[go_sem,seval,hsu]<;>simp
   ·simp only[go_sem,seval]
   ·simp
  ·refine go hS f0 ?_;have:j=ns.length:=by omega
   subst this;rw[A56];refine IV hS 0 (ax:=[]) rfl SI (by simp only[go_sem,seval]<;>eq_refl) yT (by simp only[go_sem,seval]<;>eq_refl) (by simp only[go_sem,seval]<;>eq_refl) (by simp only[go_sem,seval]<;>eq_refl) yT rfl rfl (NZ hne) (by simp only[go_sem,seval]<;>eq_refl) yT ?_;refine go hS f0 ?_
   first|refine Ks (by simp only[go_sem,seval]<;>eq_refl) (by simp only[go_sem,seval]) (by simp only[go_sem,seval]) ?_ rfl|refine Kt (by simp only[go_sem,seval]<;>eq_refl) (by simp only[go_sem,seval]) (by simp only[go_sem,seval]) ?_ rfl
   simp only[go_sem,seval]
def Ec(_:Nat)(l:List Int):Option (List UInt8):=gd (l.length<=1000000)<|gd (ER l≠[])<|some (ER l)
@[go_sem] def s67(N:Nat):Spec:=p0<|pS Ug λl=>pE<|pF (Ec N l) [] λr=>.v (.string (sB r))
theorem IK(N:Nat):Au Tryz.prog 46 (s67 N):=by
 refine L6 x46.ok<|QF λl=>He<|L8 λr h=>?_
 unfold Ec at h;obtain⟨h1,h2,h⟩:=un h;cases h
 exact yV l h1 h2
end
section
attribute [local irreducible] Aq BD Bv A8 Bq Ba AQ Bw By Ck
attribute [local go_sem] NF NF
def IP(N:Nat)(s1684:List UInt8):Option ((List UInt8)×Int):=bif decide (65536<(s1684.length:Int))then(some ([],10))else(gd (((Jw (s1684.length:Int))++s1684).length<=140737488355328)<|some ((Jw (s1684.length:Int))++s1684,0))
@[go_sem] def Acp(N:Nat):Spec:=p0<|(qT<|qE<|qF ([],0) λr=>.tup [.v (.string (sB r.1)),.i r.2]) (IP N)
theorem uZ(N:Nat):Au Tryz.prog 102 (Acp N):=by
 refine fk (wX tG (Aa US<|Ae)) ?_;intro s1684 r h _ hS F;dsimp only[tG,Ad,B3];unfold IP at h;refine An hS F h (λ_ h=>?_) (λ_ h=>?_)
 ·exact Ah hS F h
 ·obtain⟨ah,h⟩:=un h;exact Ah hS F h
def KJ(N:Nat)(s1685:List UInt8)(ae:Int):Option ((List UInt8)×Int×Int):=(BJ N s1685 ae).bind λ(aa,r1688,ab)=>bif decide (ab≠0)then(some ([],0,ab))else(gd ((!((decide (aa<0))||(decide (65536<aa))))=true->(Ai ((s1685.length:Int)-r1688)))<|bif ((decide (aa<0))||(decide (65536<aa)))||(decide ((s1685.length:Int)-r1688<aa))then(some ([],0,10))else(gd (Ai (r1688+aa))<|gd (0<=r1688/\r1688<=r1688+aa/\r1688+aa<=(s1685.length:Int))<|gd (Ai (r1688+aa))<|some ((s1685.drop r1688.toNat).take ((r1688+aa).toNat-r1688.toNat),r1688+aa,0)))
@[go_sem] def Zf(N:Nat):Spec:=p0<|(qT<|qI<|qE<|qF ([],0,0) λr=>.tup [.v (.string (sB r.1)),.i r.2.1,.i r.2.2]) (KJ N)
theorem AaI(N:Nat):Au Tryz.prog 51 (Zf N):=by
 refine fk (wX x51 (Aa (XE N)<|Ae)) ?_;intro s1685 ae r h _ hS F;dsimp only[x51,Ad,B3];unfold KJ at h;obtain⟨⟨aa,r1688,ab⟩,af,h⟩:=un h;replace F:=fc af F;refine An hS F h (λ_ h=>?_) (λ_ h=>?_)
 ·exact Ah hS F h
 ·obtain⟨ah,h⟩:=un h;refine An hS F h (λ_ h=>?_) (λ_ h=>?_)
  ·exact Ah hS F h
  ·obtain⟨ak,aj,ai,h⟩:=un h;exact Ah hS F h
end
attribute [local irreducible] Aq BD Bv A8 Bq Ba AQ Bw By Ck
def KX(N:Nat)(a1:Int)(a2:Int)(a3:Int)(a4:Int)(a5:List (Int×Int))(a6:Int)(a7:Int)(a8:Int)(a9:Int)(gy:Int)(gx:Int)(gw:Int)(gu:Int)(gt:Int)(gr:Bool):Option (List UInt8):=(Gh N a2 a3 a4 a5 a6 a7).bind λ(bg,br)=>(IP N bg).bind λ(bf,r20)=>some bf
@[go_sem] def AcS(N:Nat):Spec:=p0<|(qG<|qI<|qI<|qI<|qI<|qS Aj<|qI<|qI<|qI<|qI<|qI<|qI<|qI<|qI<|qI<|qB<|qE<|qE<|qF [] λr=>.v (.string (sB r))) (KX N)
theorem yW(N:Nat):Au Tryz.prog 100 (AcS N):=by refine fk (wX tF (Aa (xD N)<|Aa (uZ N)<|Ae)) ?_;intro a1 a2 a3 a4 a5 a6 a7 a8 a9 gy gx gw gu gt gr r h _ hS F;dsimp only[tF,Ad,Aj,B3];unfold KX at h;obtain⟨⟨bg,br⟩,ay,h⟩:=un h;obtain⟨⟨bf,r20⟩,aw,h⟩:=un h;exact Ah hS (fc aw (fc ay F)) h
def J9(N:Nat)(gm:Int)(gj:Int)(gi:Int)(gh:Int)(gg:List (Int×Int))(ge:Int)(gc:Int)(bq:Int)(fy:Int)(fx:Int)(fr:Int)(fq:Int)(fp:Int)(fo:Int)(fm:Bool):Option (List UInt8):=(Ec N [bq]).bind λbe=>some be
@[go_sem] def AcU(N:Nat):Spec:=p0<|(qG<|qI<|qI<|qI<|qI<|qS Aj<|qI<|qI<|qI<|qI<|qI<|qI<|qI<|qI<|qI<|qB<|qE<|qE<|qF [] λr=>.v (.string (sB r))) (J9 N)
theorem yY(N:Nat):Au Tryz.prog 113 (AcU N):=by refine fk (wX tJ (Aa (IK N)<|Ae)) ?_;intro gm gj gi gh gg ge gc bq fy fx fr fq fp fo fm r h _ hS F;dsimp only[tJ,Ad,Aj,B3];unfold J9 at h;obtain⟨be,av,h⟩:=un h;exact Ah hS (fc av F) h
def Ka(N:Nat)(fj:Int)(bp:Int)(fh:Int)(fg:Int)(e9:List (Int×Int))(e8:Int)(ez:Int)(bo:Int)(bn:Int)(bm:Int)(eu:Int)(ep:Int)(el:Int)(ej:Int)(eh:Bool):Option (List UInt8):=(Ec N [bo,bn,bm,bp]).bind λbb=>some bb
@[go_sem] def U5(N:Nat):Spec:=p0<|(qG<|qI<|qI<|qI<|qI<|qS Aj<|qI<|qI<|qI<|qI<|qI<|qI<|qI<|qI<|qI<|qB<|qE<|qE<|qF [] λr=>.v (.string (sB r))) (Ka N)
theorem yZ(N:Nat):Au Tryz.prog 118 (U5 N):=by refine fk (wX tN (Aa (IK N)<|Ae)) ?_;intro fj bp fh fg e9 e8 ez bo bn bm eu ep el ej eh r h _ hS F;dsimp only[tN,Ad,Aj,B3];unfold Ka at h;obtain⟨bb,au,h⟩:=un h;exact Ah hS (fc au F) h
def Kb(N:Nat)(ee:Int)(d9:Int)(d8:Int)(d7:Int)(d6:List (Int×Int))(d5:Int)(dz:Int)(bl:Int)(bj:Int)(bi:Int)(dy:Int)(dx:Int)(dw:Int)(du:Int)(dt:Bool):Option (List UInt8):=(Ec N [bl,bj,bi]).bind λba=>some ba
@[go_sem] def AcV(N:Nat):Spec:=p0<|(qG<|qI<|qI<|qI<|qI<|qS Aj<|qI<|qI<|qI<|qI<|qI<|qI<|qI<|qI<|qI<|qB<|qE<|qE<|qF [] λr=>.v (.string (sB r))) (Kb N)
theorem zC(N:Nat):Au Tryz.prog 124 (AcV N):=by refine fk (wX Ue (Aa (IK N)<|Ae)) ?_;intro ee d9 d8 d7 d6 d5 dz bl bj bi dy dx dw du dt r h _ hS F;dsimp only[Ue,Ad,Aj,B3];unfold Kb at h;obtain⟨ba,aq,h⟩:=un h;exact Ah hS (fc aq F) h
def IL(N:Nat)(dq:Int)(dm:Int)(dl:Int)(dh:Int)(dg:List (Int×Int))(de:Int)(db:Int)(bh:Int)(da:Int)(cy:Int)(cu:Int)(cr:Int)(cq:Int)(co:Int)(cn:Bool):Option (List UInt8):=(Ec N [bh]).bind λaz=>some az
@[go_sem] def AcW(N:Nat):Spec:=p0<|(qG<|qI<|qI<|qI<|qI<|qS Aj<|qI<|qI<|qI<|qI<|qI<|qI<|qI<|qI<|qI<|qB<|qE<|qE<|qF [] λr=>.v (.string (sB r))) (IL N)
theorem aO(N:Nat):Au Tryz.prog 127 (AcW N):=by refine fk (wX tQ (Aa (IK N)<|Ae)) ?_;intro dq dm dl dh dg de db bh da cy cu cr cq co cn r h _ hS F;dsimp only[tQ,Ad,Aj,B3];unfold IL at h;obtain⟨az,an,h⟩:=un h;exact Ah hS (fc an F) h
def KY(N:Nat)(ck:Int)(cj:Int)(ci:Int)(ce:Int)(b9:List (Int×Int))(b7:Int)(bz:Int)(bw:Int)(bv:Int)(bu:Int)(af:Int)(ae:Int)(ab:Int)(aa:Int)(am:Bool):Option (List UInt8):=bif am then((Ec N [af,ae,ab,aa,1]).bind λai=>some ai)else((Ec N [af,ae,ab,aa,0]).bind λah=>some ah)
@[go_sem] def AcX(N:Nat):Spec:=p0<|(qG<|qI<|qI<|qI<|qI<|qS Aj<|qI<|qI<|qI<|qI<|qI<|qI<|qI<|qI<|qI<|qB<|qE<|qE<|qF [] λr=>.v (.string (sB r))) (KY N)
theorem zD(N:Nat):Au Tryz.prog 134 (AcX N):=by
 refine fk (wX tX (Aa (IK N)<|Ae)) ?_;intro ck cj ci ce b9 b7 bz bw bv bu af ae ab aa am r h _ hS F;dsimp only[tX,Ad,Aj,B3];unfold KY at h;refine An hS F h (λ_ h=>?_) (λ_ h=>?_)
 ·obtain⟨ai,ak,h⟩:=un h;exact Ah hS (fc ak F) h
 ·obtain⟨ah,aj,h⟩:=un h;exact Ah hS (fc aj F) h
