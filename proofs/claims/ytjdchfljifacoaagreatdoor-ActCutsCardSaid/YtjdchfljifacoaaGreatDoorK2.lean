import Derived.Test.YtjdchfljifacoaaGreatDoorMH
import Derived.Lib.SliceRun
import Derived.Deep.MidRow
set_option linter.all false
set_option maxRecDepth 1000000
set_option maxHeartbeats 8000000
namespace Go.Proofs.YtjdchfljifacoaaGreatDoor.Am
section
open Go
attribute [local irreducible] Aq BD Bv A8 Bq Ba AQ Bw By Ck
def Ap(x:Int×Int×Int×(List (Int×Int))×Int×Int):List AV:=[.i x.1,.i x.2.1,.i x.2.2.1,BK x.2.2.2.1,.i x.2.2.2.2.1,.i x.2.2.2.2.2]
def BH:List AV->Int×Int×Int×(List (Int×Int))×Int×Int|[.v (.int _ a1),.v (.int _ a2),.v (.int _ a3),.sl _ _ a4 _,.v (.int _ a5),.v (.int _ a6)]=>(a1,a2,a3,(a4.map HS),a5,a6)|_=>(0,0,0,[],0,0)
theorem ST(x:Int×Int×Int×(List (Int×Int))×Int×Int):BH (Ap x)=x:=by simp only[Ap,BH,BK,Mc]
theorem SU(R:List (Int×Int×Int×(List (Int×Int))×Int×Int)):(R.map Ap).map BH=R:=by
 induction R with
 |nil=>rfl
 |cons r R ih=>rw[w5,w5,ih,ST]
def Ak:Rw (Int×Int×Int×(List (Int×Int))×Int×Int):=⟨6,Ap,BH,[.i 0,.i 0,.i 0,.sl 0 true [] [],.i 0,.i 0]⟩
def Ao(l:List (Int×Int×Int×(List (Int×Int))×Int×Int)):AV:=.sl 6 false (l.map Ap) [.i 0,.i 0,.i 0,.sl 0 true [] [],.i 0,.i 0]
def Dm(l:List (Int×Int×Int×(List (Int×Int))×Int×Int)):AV:=.sl 6 true (l.map Ap) [.i 0,.i 0,.i 0,.sl 0 true [] [],.i 0,.i 0]
attribute [go_sem] Ak Ao Dm Ap BH SU
@[go_sem] theorem mY(R:List (Int×Int×Int×(List (Int×Int))×Int×Int))(i:Nat):cut 0 1 (DJ (R.map Ap) [.i 0,.i 0,.i 0,.sl 0 true [] [],.i 0,.i 0] i)=some [.i (R.getD i (0,0,0,[],0,0)).1]:=by unfold DJ;rw[s9,s9,A07];cases R[i]? <;>rfl
def Af(N:Nat)(c645:Int)(af:Int):Option Int:=bif decide (c645<0)then(gd (Ai (c645+1))<|gd (Ai (-(c645+1)))<|gd (af≠0)<|some ((-(c645+1)).tmod af))else(gd (af≠0)<|some (c645.tmod af))
@[go_sem] def s93(N:Nat):Spec:=p0<|(qI<|qI<|qE<|qF 0 .i) (Af N)
theorem jD(N:Nat):Au Tryz.prog 58 (s93 N):=by
 refine fk (wX PE (Ae)) ?_;intro c645 af r h _ hS F;dsimp only[PE,Ad];unfold Af at h;refine An hS F h (λ_ h=>?_) (λ_ h=>?_)
 ·obtain⟨cn,cu,b9,h⟩:=un h;exact Ah hS F h
 ·obtain⟨cr,h⟩:=un h;exact Ah hS F h
def CE(N:Nat)(bl:Int)(bj:Int)(bi:Int)(u650:List (Int×Int))(bh:Int)(bg:Int):Option (Int×Int×Int×(List (Int×Int))×Int×Int):=gd ((u650.length)*16<=140737488355328)<|some (bl,bj,bi,u650,bh,bg)
@[go_sem] def s97(N:Nat):Spec:=p0<|(qG<|qI<|qI<|qI<|qS Aj<|qI<|qI<|qE<|qE<|qF (0,0,0,[],0,0) λr=>.agg [.i r.1,.i r.2.1,.i r.2.2.1,BK r.2.2.2.1,.i r.2.2.2.2.1,.i r.2.2.2.2.2]) (CE N)
theorem AaD(N:Nat):Au Tryz.prog 82 (s97 N):=by refine fk (wX Su (Ae)) ?_;intro bl bj bi u650 bh bg r h _ hS F;dsimp only[Su,Ad,Aj];unfold CE at h;obtain⟨cn,h⟩:=un h;exact Ah hS F h
def Fw(N:Nat)(a653:List (Int×Int×Int×(List (Int×Int))×Int×Int))(b654:List (Int×Int×Int×(List (Int×Int))×Int×Int)):Nat->Int->Option (Sum Unit Bool)|0,_=>none|n+1,ae=>bif decide (ae<(a653.length:Int))then((Bz a653 ae).bind λ(bf,be,bb,ba,az,ay)=>(Bz b654 ae).bind λ(aw,av,au,aq,an,am)=>(Eb N bf be bb ba az ay aw av au aq an am).bind λbm=>bif !bm then(some (.inr false))else(gd (Ai (ae+1))<|Fw N a653 b654 n (ae+1)))else(some (.inl ()))
def HV(N:Nat)(a653:List (Int×Int×Int×(List (Int×Int))×Int×Int))(b654:List (Int×Int×Int×(List (Int×Int))×Int×Int)):Option Bool:=bif decide ((a653.length:Int)≠(b654.length:Int))then(some false)else((Fw N a653 b654 N 0).bind λai=>match ai with|.inl ()=>(some true)|.inr bz=>(some bz))
@[go_sem] def s46(N:Nat):Spec:=p0<|(qG<|qD Ak<|qE<|qG<|qD Ak<|qE<|qE<|qF false .b) (HV N)
theorem AaE(N:Nat):Au Tryz.prog 54 (s46 N):=by
 refine fk (wX YW (Aa (XD N)<|Ae)) ?_;intro a653 b654 r h _ hS F;dsimp only[YW,Ad,Ak];unfold HV at h;refine An hS F h (λ_ h=>?_) (λ_ h=>?_)
 ·exact Ah hS F h
 ·obtain⟨ai,b7,h⟩:=un h;refine go hS F ?_;refine BU ai (λz:Nat=>⟨[],[],z⟩) (λz=>(.inl ():Sum Unit Bool)) (.x 0) ?_ ?_
  ·refine BO (λn (y:Int×Nat)=>Fw N a653 b654 n y.1) (λy=>⟨[(2,.box (0,1) 0),(3,.box (1,1) 0),(5,.i y.1)],[(.c (1,1) 0,Ao b654),(.c (0,1) 0,Ao a653)],y.2⟩) (0,3) b7 (CB F) ?_;rintro n ⟨ae,bv⟩ aa;simp only[Fw]at aa;refine An hS F aa (λ_ aa=>?_) (λ_ aa=>?_)
   ·obtain⟨⟨bf,be,bb,ba,az,ay⟩,br,aa⟩:=un aa;obtain⟨ck,F⟩:=CH Ap br F;obtain⟨⟨aw,av,au,aq,an,am⟩,bq,aa⟩:=un aa;obtain⟨cj,F⟩:=CH Ap bq F;obtain⟨bm,bn,aa⟩:=un aa;replace F:=fc bn F;refine An hS F aa (λ_ aa=>?_) (λ_ aa=>?_)
    ·obtain rfl:=yJ aa;exact Ah hS F h
    ·obtain⟨b9,aa⟩:=un aa;exact CS hS F (n,ae+1,bv+1+1+1) aa
   ·exact Cu hS F (bv+1) aa
  ·rintro cq rfl;exact Ah hS F h
def Fx(N:Nat)(a695:List Int)(b696:List Int):Nat->Int->Option (Sum Unit Bool)|0,_=>none|n+1,ab=>bif decide (ab<(a695.length:Int))then((Bz a695 ab).bind λak=>(Bz b696 ab).bind λaj=>bif decide (ak≠aj)then(some (.inr false))else(gd (Ai (ab+1))<|Fx N a695 b696 n (ab+1)))else(some (.inl ()))
def Gx(N:Nat)(a695:List Int)(b696:List Int):Option Bool:=bif decide ((a695.length:Int)≠(b696.length:Int))then(some false)else((Fx N a695 b696 N 0).bind λah=>match ah with|.inl ()=>(some true)|.inr bw=>(some bw))
@[go_sem] def Wt(N:Nat):Spec:=p0<|(qS Ug<|qS Ug<|qE<|qF false .b) (Gx N)
theorem AaF(N:Nat):Au Tryz.prog 26 (Wt N):=by
 refine fk (wX So (Ae)) ?_;intro a695 b696 r h _ hS F;dsimp only[So,Ad,Ug];unfold Gx at h;refine An hS F h (λ_ h=>?_) (λ_ h=>?_)
 ·exact Ah hS F h
 ·obtain⟨ah,b7,h⟩:=un h;refine go hS F ?_;refine BU ah (λz:Nat=>⟨[],[],z⟩) (λz=>(.inl ():Sum Unit Bool)) (.x 0) ?_ ?_
  ·refine BO (λn (y:Int×Nat)=>Fx N a695 b696 n y.1) (λy=>⟨[(0,Fm a695),(1,Fm b696),(5,.i y.1)],[],y.2⟩) (0,3) b7 (CB F) ?_;rintro n ⟨ab,bu⟩ aa;simp only[Fx]at aa;refine An hS F aa (λ_ aa=>?_) (λ_ aa=>?_)
   ·obtain⟨ak,bp,aj,bo,aa⟩:=un aa;obtain⟨ci,F⟩:=CH QV bp F;obtain⟨ce,F⟩:=CH QV bo F;refine An hS F aa (λ_ aa=>?_) (λ_ aa=>?_)
    ·obtain rfl:=yJ aa;exact Ah hS F h
    ·obtain⟨b9,aa⟩:=un aa;exact CS hS F (n,ab+1,bu+1+1+1) aa
   ·exact Cu hS F (bu+1) aa
  ·rintro co rfl;exact Ah hS F h
end
section
open Go
attribute [local irreducible] Aq BD Bv A8 Bq Ba AQ Bw By Ck
abbrev Un:=Int×Int×Int×(List (Int×Int))×Int×Int
def EM{E:Type}:List E->List (E×E)
 |[]=>[]
 |u::r=>r.map (λv=>(u,v))++EM r
def kH(e:Un×Un):List AV:=[.agg (Ap e.1),.agg (Ap e.2)]
theorem fL{E:Type}{l:List E}{i:Nat}{u:E}(h:l[i]? =some u):EM (l.drop i)=(l.drop (i+1)).map (λv=>(u,v))++EM (l.drop (i+1)):=by obtain⟨h1,h2⟩:=y5.1 h;rw[z7 h1,h2,EM]
theorem aE{l:List Un}{i:Nat}{u:Un}(h:l[i]? =some u)(d:List AV):DJ (l.map Ap) d i=Ap u:=by unfold DJ;rw[s9,A07,h];rfl
theorem xE{E:Type}{l:List E}{k:Nat}{x:E}{r:List E}(h:l.drop k=x::r):l[k]? =some x/\l.drop (k+1)=r/\k<l.length:=by
 have h1:(l.drop k)[0]? =some x:=by rw[h];rfl
 rw[A48]at h1;refine⟨h1,?_,(y5.1 h1).1⟩;rw[<-List.drop_drop,h];rfl
section
attribute [local go_sem] Ce Mc Pf HS QR QS List.set_cons_succ List.isEmpty_map List.map_append List.map_eq_nil_iff ne_eq List.length_replicate V1 V2 List.length_set Option.isSome_some
theorem fM(l:List Un)(f:Bool)(hlen:l.length<=1000000000):TU Tryz.prog 83 [] [.ro [.sl 6 f (l.map Ap) [.i 0,.i 0,.i 0,.sl 0 true [] [],.i 0,.i 0]] 0] ((EM l).map kH):=by
 refine VK (Ae (P:=Tryz.prog)) _ x83.hf x83.hc x83.hn (by simp[x83,Ad,gs]) (A01 rfl) λy V hOK hTS hY hYD=>?_
 have hS:=Ae (P:=Tryz.prog);have F:=fc hTS f0;dsimp only[x83,Ad,B3];refine go hOK F ?_;refine Hf (λx:Nat×Nat×Nat=>⟨[(10,.i x.1),(9,.i l.length),(8,.sl 6 f (l.map Ap) [.i 0,.i 0,.i 0,.sl 0 true [] [],.i 0,.i 0]),(1,.ro [.sl 6 f (l.map Ap) [.i 0,.i 0,.i 0,.sl 0 true [] [],.i 0,.i 0]] 0),(gs,CD x.2.1),(0,.clo (.yield y) [] [])],[],x.2.2⟩)
  (λx=>x.1<=l.length/\x.2.1<=(EM l).length/\(EM l).drop x.2.1=EM (l.drop x.1)) (λx=>l.length-x.1) (0,0,50) ?_ ?_ ?_
 ·simp
 ·exact CB F
 ·rintro⟨i,k,c⟩ ⟨hi,hk,hd⟩;simp only at hi hk hd;refine go hOK F ?_;refine cb F (decide ((i:Int)<l.length)) (λhi1=>?_) (λhi1=>?_)
  ·have hi':i<l.length:=by simpa using hi1
   obtain⟨⟨a1,a2,a3,a4,a5,a6⟩,hu⟩:∃u,l[i]? =some u:=⟨_,t6 hi'⟩
   rw[fL hu]at hd;have hrow:=aE hu;simp only[Ap]at hrow;have htn:((i:Int)+1).toNat=i+1:=by omega
   replace F:=fc hrow (fc htn F);refine go hOK F ?_;refine Hf (λx:Nat×Nat×Nat=>⟨[(21,.i x.1),(20,.i (l.drop (i+1)).length),(19,.sl 6 f ((l.drop (i+1)).map Ap) [.i 0,.i 0,.i 0,.sl 0 true [] [],.i 0,.i 0]),(10,.i i),(9,.i l.length),(8,.sl 6 f (l.map Ap) [.i 0,.i 0,.i 0,.sl 0 true [] [],.i 0,.i 0]),(4,.box (203,c+1+1) 0),(1,.ro [.sl 6 f (l.map Ap) [.i 0,.i 0,.i 0,.sl 0 true [] [],.i 0,.i 0]] 0),(gs,CD x.2.1),(0,.clo (.yield y) [] [])],[(.c (203,c+1+1) 0,.i a1),(.c (203,c+1+1) 1,.i a2),(.c (203,c+1+1) 2,.i a3),(.c (203,c+1+1) 3,.sl 2 false (a4.map Ce) [.i 0,.i 0]),(.c (203,c+1+1) 4,.i a5),(.c (203,c+1+1) 5,.i a6)],x.2.2⟩)
    (λx=>x.1<=(l.drop (i+1)).length/\x.2.1<=(EM l).length/\(EM l).drop x.2.1=((l.drop (i+1)).drop x.1).map (λv=>((a1,a2,a3,a4,a5,a6),v))++EM (l.drop (i+1))) (λx=>(l.drop (i+1)).length-x.1) (0,k,c+50) ?_ ?_ ?_
   ·exact⟨A16 _,hk,hd⟩
   ·exact CB F
   ·rintro⟨j,k2,c2⟩ ⟨hj,hk2,hd2⟩;simp only at hj hk2 hd2;refine go hOK F ?_;refine cb F (decide ((j:Int)<(l.drop (i+1)).length)) (λhj1=>?_) (λhj1=>?_)
    ·have hj':j<(l.drop (i+1)).length:=by simpa using hj1
     obtain⟨⟨b1,b2,b3,b4,b5,b6⟩,hv⟩:∃u,(l.drop (i+1))[j]? =some u:=⟨_,t6 hj'⟩
     have hrow2:=aE hv;simp only[Ap]at hrow2;have q1:((j+1:Nat):Int)=(j:Int)+1:=rfl;have q2:((k2+1:Nat):Int)=(k2:Int)+1:=rfl;replace F:=fc q1 (fc q2 (fc hrow2 F));rw[z7 hj',show(l.drop (i+1))[j]=(b1,b2,b3,b4,b5,b6)from(y5.1 hv).2,w5,A10]at hd2;obtain⟨g1,g2,g3⟩:=xE hd2;refine go hOK F ?_;refine hY 3 (args:=kH ((a1,a2,a3,a4,a5,a6),(b1,b2,b3,b4,b5,b6))) rfl rfl (by simp only[go_sem,seval,F]<;>eq_refl) ?_ (by simp only[go_sem,seval]<;>eq_refl) (by simp only[go_sem,seval]<;>eq_refl) (by simp only[go_sem,seval]<;>eq_refl) (by simp only[go_sem,seval,Am.kH,Am.Ap]<;>eq_refl) ?_ (by simp only[go_sem,seval,F]<;>eq_refl) ?_ ?_ (by simp only[go_sem,seval,F]<;>eq_refl) ?_ ?_
     ·repeat' (first|exact yT|omega|apply And.intro)
     ·rw[A07,g1];rfl
     ·exact yT
     ·refine go hOK F ?_;refine cf F ?_;refine go hOK F ?_;exact Id (j+1,k2+1,c2+50) ⟨by show j+1<=_;omega,by show k2+1<=_;omega,g2⟩ (by show(l.drop (i+1)).length-(j+1)<(l.drop (i+1)).length-j;omega) (CB F)
     ·exact yT
     ·refine go hOK F ?_;refine ct F ?_;refine go hOK F ?_;refine QQ ?_;simp only[go_sem,seval]
    ·have:j=(l.drop (i+1)).length:=by
      have:¬((j:Int)<(l.drop (i+1)).length):=by simpa using hj1
      omega
     subst this;rw[List.drop_length,A22,A02]at hd2;have q1:((i+1:Nat):Int)=(i:Int)+1:=rfl;replace F:=fc q1 F;refine go hOK F ?_;exact Id (i+1,k2,c2+50) ⟨by show i+1<=_;omega,hk2,hd2⟩ (by show l.length-(i+1)<l.length-i;omega) (CB F)
  ·refine go hOK F ?_;refine iS ?_;have:i=l.length:=by
    have:¬((i:Int)<l.length):=by simpa using hi1
    omega
   subst this;rw[List.drop_length,EM]at hd;have:k=(EM l).length:=Nat.le_antisymm hk (List.drop_eq_nil_iff.1 hd);simp only[go_sem,seval,this,A04]
def UZ:Spec|[.agg [.sl z f rows d]]=>some (True,.clo (.func 83) [] [.ro [.sl z f rows d] 0])|_=>none
theorem aF:Au Tryz.prog 60 UZ:=⟨x60.ok,by
 intro args vc r h hv;unfold UZ at h;split at h
 ·cases h
  refine Nf (Ae (P:=Tryz.prog)) _ x60.hf x60.hc x60.hn (A01 rfl) λ_=>?_
  have hS:=Ae (P:=Tryz.prog);dsimp only[x60,Ad,B3]
  repeat' (first
  |((with_reducible first|apply Dc|apply D2|apply DX|apply EN|apply Dd|apply De);(·(first|exact Ctx.fn_ok hS|exact Ctx.rd_ok hS|assumption|exact yT));iterate 2 (·(simp only[go_sem,seval]<;>eq_refl)))
  |(with_reducible first|apply C8|apply DR|apply CT|apply CU|apply CC|apply Cb|apply Co|apply Dr|apply DF|apply DS|apply DT|apply DU|apply DV)
  |(with_reducible apply DW;(·first|rfl|decide))
  |(with_reducible first|apply Da|apply Db|apply DZ|apply D0|apply D1|apply yT|apply And.intro yT yT)
  |(fail_if_success with_reducible apply FP);(fail_if_success with_reducible apply DY);first|omega|(simp only[go_sem,seval];done)
  |fail)
  first|refine Ks (by simp only[go_sem,seval]<;>eq_refl) (by simp only[go_sem,seval]) (by simp only[go_sem,seval]) ?_ rfl|refine Kt (by simp only[go_sem,seval]<;>eq_refl) (by simp only[go_sem,seval]) (by simp only[go_sem,seval]) ?_ rfl
  simp only[go_sem,seval]
 ·simp at h⟩
end
end
open Go Go.RowKit Go.Lib
theorem VB{P:Program}(w:World)(t e ty:TypeId)(z:Value)(ht:P.underlying t=some (.slice e))(hv:∀w,(zeroValue e).run P w=.ok z w)(b o n c:Nat)(hn:0<n)(zs:List Value)(hz:(Builtin.zeroCells z.cells n).toList=zs)(h1:∀v∈zs,v.oneCell'=true)(hc:∀j,j<zs.length->(w.cell? ⟨b,o+j,none⟩).isSome=true)(hf:∀j,j<zs.length->w.frozen? ⟨b,o+j,none⟩=false):(Builtin.clear_ #[t] ty #[.slice (some ⟨b,o,none⟩) n c]).run P w=.ok (.tuple #[]) (w.setCells b o zs):=by
 have hst:=run_storeCells_cells (P:=P) b o zs 0 w (by simpa using hc) (by simpa using hf) h1;simp only[A43]at hst;obtain⟨m,rfl⟩:∃m,n=m+1:=⟨n-1,by omega⟩
 simp[Builtin.clear_,run_underlying ht,hv,hz,hst]
theorem nP:∃j,Tryz.prog.info? 37=some j/\j.size=6:=Option.map_eq_some_iff.1 (show(Tryz.prog.info? 37).map (·.size)=some 6 by kernel_rfl)
def zU:List Value:=[.int .i64 0,.int .i64 0,.int .i64 0,.slice none 0 0,.int .i64 0,.int .i64 0]
theorem AaW(b o n c i j:Nat)(vals:List Value)(w:World)(hl:vals.length=n*6)(hij:i<j)(hj:j<=n)(hj1:RowKit.Hid (j=i+1))(hcap:n<=c)(hc63:n<=9223372036854775807)(hcs:∀j v,vals[j]? =some v->w.cell? ⟨b,o+j,none⟩=some v)(hfz:∀j,j<n*6->w.frozen? ⟨b,o+j,none⟩=false)(h1:∀v∈vals,v.oneCell'=true):Calls Tryz.prog 179 #[.slice (some ⟨b,o,none⟩) n c,.int .i64 i,.int .i64 j] w λe w'=>e=.returned (.slice (some ⟨b,o,none⟩) (i+(n-j)) c)/\w'=(w.drew.setCells b (o+i*6) (vals.drop (j*6))).setCells b (o+(i+(n-j))*6) zU:=by
 obtain⟨i0,hi0,hz1⟩:=nP;have hjo:j=i+1:=hj1;obtain⟨news,hnews⟩:∃news,news=vals.drop (j*6):=⟨_,rfl⟩
 have hlen:news.length=(n-j)*6:=by rw[hnews,A11,hl,Nat.sub_mul]
 have hget:∀t v,news[t]? =some v->w.cell? ⟨b,o+j*6+t,none⟩=some v:=λt v h=>by rw[hnews,A48]at h;rw[A15];exact hcs _ v h
 have hsome:∀j,j<n*6->(w.cell? ⟨b,o+j,none⟩).isSome=true:=λj hj=>by rw[hcs j _ (t6 (by omega))];rfl
 obtain⟨A,hA,hsrc⟩:∃A:Addr,(if c=j then some (⟨b,o,none⟩:Addr)else some ⟨b,o+j*6,none⟩)=some A/\RowKit.Hid (∀t u,news[t]? =some u->w.drew.cell? (A.add t)=some u):=by
  by_cases h:c=j
  ·refine⟨⟨b,o,none⟩,by simp[h],λt u hu=>?_⟩;have h0:news.length=0:=by rw[hlen];omega
   rw[A45.1 h0]at hu;simp at hu
  ·exact⟨⟨b,o+j*6,none⟩,by simp[h],λt u hu=>by rw[Addr.add_lit];exact hget t u hu⟩
 have s1:RowKit.Hid (news.length=(n-j)*6):=hlen;have s2:RowKit.Hid (∀u∈news,u.oneCell'=true):=λu hu=>h1 u (by rw[hnews]at hu;exact List.mem_of_mem_drop hu)
 have s3:RowKit.Hid (∀t,t<news.length->(w.drew.cell? ⟨b,o+i*6+t,none⟩).isSome=true/\w.drew.frozen? ⟨b,o+i*6+t,none⟩=false):=by intro t ht;rw[hlen]at ht;rw[A15];exact⟨hsome _ (by omega),hfz _ (by omega)⟩
 obtain⟨W1,hW1⟩:∃W1,W1=w.drew.setCells b (o+i*6) news:=⟨_,rfl⟩
 have W1s:∀k,(w.cell? ⟨b,k,none⟩).isSome=true->(W1.cell? ⟨b,k,none⟩).isSome=true:=λk hk=>by rw[hW1];exact World.isSome_setCells b news (o+i*6) w.drew _ hk
 have W1f:∀k,W1.frozen? ⟨b,k,none⟩=w.frozen? ⟨b,k,none⟩:=λk=>by rw[hW1,World.frozen?_setCells];rfl
 have hcl:∀ty,(Builtin.clear_ #[27] ty #[.slice (some ⟨b,o+(i+(n-j))*6,none⟩) (n-(i+(n-j))) (c-(i+(n-j)))]).run Tryz.prog W1=.ok (.tuple #[]) (W1.setCells b (o+(i+(n-j))*6) zU):=by
  intro ty;rw[show n-(i+(n-j))=1 by omega];exact VB W1 _ _ ty _ Tryz.underlying27 Tryz.zeroValue37 b (o+(i+(n-j))*6) 1 _ (by omega) zU (by kernel_rfl) (by decide) (λk hk=>W1s _ (by
   have:k<6:=hk;rw[A15];exact hsome _ (by omega))) (λk hk=>by
   have:k<6:=hk;rw[W1f,A15];exact hfz _ (by omega))
 have hW:RowKit.Hid (W1=w.drew.setCells b (o+i*6) news):=hW1;have hN:RowKit.Hid (news=vals.drop (j*6)):=hnews;have hic:i<=c:=by omega
 have hin:i<=n:=by omega
 have hjc:j<=c:=by omega
 have hne:¬(i:Int)=(j:Int):=by omega
 have mixed:Tryz.prog.follows .mixedOrders=true:=by kernel_rfl
 clear hW1 W1s W1f hsome hget hcs hfz h1 hjo hnews hlen
 go_enter Tryz.func179,Tryz.ntmps179
 go_wp2_with fail
 go_region_law_o (refine step_append_room rfl (.tmp 22) (.tmp 25) 27 rfl 37 i0 6 Tryz.underlying27 hi0 hz1 b o i c (by simp[Act.eval,Act.put]) A (n-j) (c-j) news (by simp[Act.eval,Act.put]) s1.out hsrc.out s2.out (by omega) s3.out ?_;rw[<-hW.out])
 go_wp2
 go_ret
 rw[hW.out,hN.out];exact⟨rfl,rfl⟩
def Wz(w:World)(b o:Nat)(vs:List Value):Prop:=∀j v,vs[j]? =some v->w.cell? ⟨b,o+j,none⟩=some v
theorem AcL(b o n c i:Nat)(vals:List Value)(w:World)(hl:vals.length=n*6)(hi:i<n)(hcap:n<=c)(hc63:n<=9223372036854775807)(hcs:Wz w b o vals)(hfz:∀j,j<n*6->w.frozen? ⟨b,o+j,none⟩=false)(h1:∀v∈vals,v.oneCell'=true):Calls Tryz.prog 179 #[.slice (some ⟨b,o,none⟩) n c,.int .i64 i,.int .i64 ((i+1:Nat):Int)] w λe w'=>e=.returned (.slice (some ⟨b,o,none⟩) (n-1) c)/\KeptB b w w'/\w'.heap.size=w.heap.size/\Wz w' b o (vals.take (i*6)++vals.drop ((i+1)*6)):=by
 refine(AaW b o n c i (i+1) vals w hl (by omega) (by omega) rfl hcap hc63 hcs hfz h1).mono ?_;rintro e w' ⟨rfl,rfl⟩;have hn:i+(n-(i+1))=n-1:=by omega
 rw[hn];have hs:∀j,j<n*6->(w.cell? ⟨b,o+j,none⟩).isSome=true:=λj hj=>by rw[hcs j _ (t6 (by omega))];rfl
 have hdl:(vals.drop ((i+1)*6)).length=(n-1-i)*6:=by rw[A11,hl];omega
 obtain⟨k1,z1⟩:=KeptB.cells b (vals.drop ((i+1)*6)) (o+i*6) w.drew;obtain⟨k2,z2⟩:=KeptB.cells b zU (o+(n-1)*6) (w.drew.setCells b (o+i*6) (vals.drop ((i+1)*6)));refine⟨rfl,((KeptB.drew b w).trans k1).trans k2,z2.trans z1,λj v hj=>?_⟩;have hj':=(y5.1 hj).1;rw[w9,A23,hdl]at hj';rw[World.cell?_setCells_out b zU _ _ _ (λ_ _=>.inl (by show o+j<o+(n-1)*6;omega))];by_cases hji:j<i*6
 ·rw[World.cell?_setCells_out b _ _ _ _ (λ_ _=>.inl (by show o+j<o+i*6;omega))];rw[A31 (by rw[A23];omega),A27,t8 hji]at hj;exact hcs j v hj
 ·rw[List.getElem?_append_right (by rw[A23];omega),A23,show min (i*6) vals.length=i*6 by omega]at hj;have hlt:=(y5.1 hj).1;have:=World.cell?_setCells_in b (vals.drop ((i+1)*6)) (o+i*6) w.drew (λt ht=>by rw[hdl]at ht;rw[A15];exact hs _ (by omega)) (j-i*6) hlt;rw[show o+i*6+(j-i*6)=o+j by omega]at this;rw[this];exact(y5.1 hj).2▸rfl
theorem RF{v:Value}(h:Bp v=true):v.oneCell'=true:=by cases v<;>first|rfl|(simp[Bp]at h)
theorem NB{sz:Nat}:∀{rows:List (List AV)},(∀r∈rows,r.length=sz)->rows.flatten.length=rows.length*sz
 |[],_=>by simp
 |r::rows,h=>by rw[List.flatten_cons,w9,h r (by simp),NB λr hr=>h r (by simp[hr]),A03,A42,A44]
theorem nQ{rows:List (List AV)}{i:Nat}(hi:i<rows.length)(hn:rows.length<=9223372036854775807)(hr6:∀r∈rows,r.length=6):Kg Tryz.prog 179 6 rows [.i i,.i ((i+1:Nat):Int)] (rows.take i++rows.drop (i+1)):=by
 intro U vs vals base b o cap gl hlt hr hv h1 hl hc hor;simp only[RepL,Rep]at hr;obtain⟨_,_,rfl,rfl,_,_,rfl,rfl,rfl⟩:=hr;rcases hor with⟨rfl,hcap,hlies,hM,cs,T,hb,hsz⟩|⟨h0,_⟩
 ·refine(AcL b o rows.length cap i vals U.w hl hi hc hn hlies (λj _=>by simp[World.frozen?,hb]) (λv hv=>RF (h1 v hv))).mono ?_;rintro e w' ⟨rfl,hk,hs,hcells⟩;have hbl:b<U.w.heap.size:=hlt b (.inl hM);have e1:rows.flatten=(rows.take i).flatten++(rows[i]++(rows.drop (i+1)).flatten):=by rw[<-List.flatten_cons,<-List.flatten_append,List.getElem_cons_drop,A37]
  rw[e1]at hv;obtain⟨xs,ys,rfl,v1,v2⟩:=Ha hv;obtain⟨us,zs,rfl,v3,v4⟩:=Ha v2;have lx:xs.length=i*6:=by rw[Bx v1,NB λr hr=>hr6 r (List.mem_of_mem_take hr),A23];omega
  have lu:us.length=6:=by rw[Bx v3];exact hr6 _ (List.getElem_mem hi)
  have t1:(xs++(us++zs)).take (i*6)=xs:=by rw[<-lx,List.take_left]
  have t2:(xs++(us++zs)).drop ((i+1)*6)=zs:=by rw[<-A06,show(i+1)*6=(xs++us).length by rw[w9,lx,lu];omega,List.drop_left]
  rw[t1,t2]at hcells;refine⟨b,o,cap,xs++zs,?_,?_,hk,.inl rfl,by rw[hs];exact hbl,hcells,?_,λx hx=>h1 x ?_⟩
  ·congr 2;rw[w9,A23,A11];omega
  ·rw[w9,A23,A11];omega
  ·rw[List.flatten_append];exact Dz v1 v4
  ·rcases y7.1 hx with hx|hx
   ·simp[hx]
   ·simp[hx]
 ·omega
