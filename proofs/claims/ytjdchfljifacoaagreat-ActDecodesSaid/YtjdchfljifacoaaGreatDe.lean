import Derived.Test.YtjdchfljifacoaaGreatY2
set_option linter.all false
set_option maxRecDepth 100000
set_option maxHeartbeats 8000000
namespace Go.Proofs.YtjdchfljifacoaaGreat.Am
open Go
section
def Xe(P:Program)(S:Tab)(rid:Nat)(Q:AE->St->Prop):Nat->Nat->Option Nat->List AOp->Az->AV->St->Prop|0,i,d,post,e1=>AY S rid i d post e1 Q|n+1,i,d,post,e1=>λr s=>∃(j:Nat)(yo:AOp)(vc:Prop)(e2:Az)(h2:Hp)(f:Nat)(args:List AV)(fn:Func)(ac:AC)(rvs:List RV)(ntf:Nat),post[j]? =some yo/\Bg S (s.cnt+1) (100*rid+(i+1)) (post.take j) (BV d r e1) s.hp=some (vc,e2,h2)/\vc/\Ei e2 yo.g=some true/\EU e2 yo.k=some (f,args)/\P.funcs[f]? =some fn/\Du P fn=some (ac,rvs)/\fn.ntmps=ntf/\Dh P f/\args.length<=ntf/\∀hb,Ax (Ctx.fn P S ntf hb) ac (E3 rvs (Xe P S rid Q n (i+1+j) yo.d (post.drop (j+1)) e2) λv s=>Q (.p v) ⟨e2,s.hp,s.cnt⟩) ⟨BQ 0 args,h2,s.cnt+1⟩
theorem fJ{V:Ctx}(hΓ:V.OK){rid:Nat}{ops':Array Oper}{ops:List AOp}{Q:AE->St->Prop}(hx0:GZ V.P V.nt ops' ops'.toList=some ops)(e:Az)(U:Cf)(hG:V.G e U):∀(n i:Nat)(d:Option Nat)(e1:Az)(r:AV)(s:St)(Z:Cf)(a2:Act),Xe V.P V.S rid Q n i d (ops.drop (i+1)) e1 r s->i<ops.length->Evo U Z->Inv Z (BV d r e1) s.hp a2 V.nt V.hb->(∀m,Z.al m->m.2<=s.cnt)->(∀t,V.nt<=t->lk (BV d r e1) t=lk e t)->wpOpsIn V.F 0 V.P ops' (lift V U Q) (List.range' (i+1) (ops'.toList.drop (i+1)).length) a2 Z.w
 |0,i,d,e1,r,s,Z,a2,h,hi,ev,hI,hal,hfar=>by obtain⟨vc2,e2,h2,q1,q2,q3⟩:=h;obtain⟨c1,c2⟩:=C9 hx0;have hsz:ops.length=ops'.size:=c1.trans (by simp);obtain⟨_,t3⟩:=CE (i+1) hx0;exact G7 hΓ (ops:=ops') (Q:=Q) (cnt:=s.cnt) (100*rid) e U hG (ops'.toList.drop (i+1)) (i+1) (ops.drop (i+1)) Z _ _ _ _ _ vc2 hfar (λj=>by simp) (by simp;omega) t3 q1 q2 ev hI (λm hm=>.inl (hal m hm)) q3
 |n+1,i,d,e1,r,s,Z,a2,h,hi,ev,hI,hal,hfar=>by
  obtain⟨j,yo,vc,e2,h2,f,args,fn,ac,rvs,ntf,hyo,hex,hvc,hg,hca,hf,hcf,hnt,hok,hn,hbody⟩:=h;obtain⟨c1,c2⟩:=C9 hx0;have hsz:ops.length=ops'.size:=c1.trans (by simp);obtain⟨_,t3⟩:=CE (i+1) hx0;obtain⟨t4,_⟩:=CE j t3;rw[y0]at hyo;have hp:i+1+j<ops.length:=(fO.1 hyo).1;have hp':i+1+j<ops'.size:=by omega
  have ho:ops'[i+1+j]? =some ops'[i+1+j]:=eR hp';obtain⟨yo',g1,g2⟩:=c2 (i+1+j) ops'[i+1+j] (by simp);rw[hyo]at g1;cases g1
  have hr:List.range' (i+1) (ops'.toList.drop (i+1)).length=List.range' (i+1) ((ops'.toList.drop (i+1)).take j).length++((i+1+j)::List.range' (i+1+j+1) (ops'.toList.drop (i+1+j+1)).length):=by
   have e1:((ops'.toList.drop (i+1)).take j).length=j:=by simp;omega
   have e2:(ops'.toList.drop (i+1)).length=ops'.size-(i+1):=by simp
   have e3:(ops'.toList.drop (i+1+j+1)).length=ops'.size-(i+1+j+1):=by simp
   rw[e1,e2,e3,<-vG];have:=List.range'_append_1 (s:=i+1) (m:=j) (n:=ops'.size-(i+1+j+1)+1);rw[this];congr 1;omega
  rw[hr];refine F6 hΓ (cnt:=s.cnt) (100*rid) e _ ((ops'.toList.drop (i+1)).take j) (i+1) ((ops.drop (i+1)).take j) Z _ e2 _ h2 a2 vc hfar (λk hk=>?_) t4 hex hvc hI (λm hm=>.inl (hal m hm)) λa1 σ1 ev1 hI1 hal1 hfar1=>?_
  ·have:k<j:=by simp at hk;omega
   simp[tK,this]
  rw[wpOpsIn_cons];unfold wpOpIn;simp only[ho];obtain⟨hno,k4,k3,vals,hv,hrun⟩:=La hI1 g2 hok hca;have hw:=D6 hI1.t k4 hg;simp only[hw,if_true];refine⟨λf _=>hΓ.F.fn f,?_⟩;rw[Oper.semAt_eq _ a1.eval _ hno,hrun];refine⟨λh=>by simp[hΓ.F.depth]at h,hΓ.F.calls ((callsIn_wide.1 (NV hΓ.S hf hcf hnt hn hI1.df.gl hI1.h (cnt:=s.cnt+1) (λm hm=>by rcases hal1 m hm with h|h<;>omega) hv (hbody _))).mono ?_)⟩;rintro en w' (⟨v,τ2,s2,r2,rfl,rfl,evτ,hτ,alτ,rv,hK⟩|⟨v,τ2,s2,rfl,rfl,evτ,hτ,alτ,hq⟩)
  rotate_left
  ·exact⟨τ2,⟨e2,s2.hp,s2.cnt⟩,_,rfl,V.ofE ((ev.trans ev1).trans evτ),⟨⟨hτ,hI1.t.mono evτ,hI1.sz,hI1.df.mono evτ⟩,alτ,V.g hG ((ev.trans ev1).trans evτ) λt ht=>.inr (hfar1 t ht)⟩,rfl,hq⟩
  have hd:∀k,ops'[i+1+j].dst=some k->k<a1.tmps.size:=by rw[k3];intro d hd;rw[hI1.sz];exact DA g2 d hd
  have hI2:Inv τ2 (BV yo.d r2 e2) s2.hp (a1.put ops'[i+1+j].dst v) V.nt V.hb:=by rw[<-k3];exact⟨hτ,(hI1.t.mono evτ).put hd rv,by rw[Act.size_put];exact hI1.sz,by rw[Act.defers_put,Ee (λd hd=>DA g2 d (k3▸hd)) (show V.nt<=dk V.nt from EQ _ _)];exact hI1.df.mono evτ⟩
  rw[tM,show i+1+(j+1)=i+1+j+1 by omega]at hK;exact fJ hΓ hx0 e U hG n (i+1+j) yo.d e2 r2 s2 τ2 _ hK hp ((ev.trans ev1).trans evτ) hI2 alτ (λt ht=>(Ee (DA g2) ht).trans (hfar1 t ht))
theorem uJ{V:Ctx}(hΓ:V.OK)(n i:Nat){rid:Nat}{ops:List AOp}{yo:AOp}{Q:AE->St->Prop}{e e1:Az}{h h1:Hp}{c:Nat}{vc:Prop}{f:Nat}{args:List AV}{fn:Func}{ac:AC}{rvs:List RV}{ntf:Nat}(hf:V.P.funcs[f]? =some fn)(hcf:Du V.P fn=some (ac,rvs))(hnt:fn.ntmps=ntf)(hok:Dh V.P f)(hyo:ops[i]? =some yo)(hex:Bg V.S (c+1) (100*rid) (ops.take i) e h=some (vc,e1,h1))(hvc:vc)(hg:Ei e1 yo.g=some true)(hca:EU e1 yo.k=some (f,args))(hn:args.length<=ntf)(hbody:∀hb,Ax (Ctx.fn V.P V.S ntf hb) ac (E3 rvs (Xe V.P V.S rid Q n i yo.d (ops.drop (i+1)) e1) λv s=>Q (.p v) ⟨e1,s.hp,s.cnt⟩) ⟨BQ 0 args,h1,c+1⟩):Ax V (.reg rid ops) Q ⟨e,h,c⟩:=by
 intro code hc U a hA;cases code with
 |region id ops' d=>
  simp only[cCode]at hc;obtain⟨l0,hx0,⟨rfl,e0⟩|⟨_,_,_,_,e0⟩⟩:=Cc hc
  ·cases e0
   refine wpIn_region ?_;obtain⟨c1,c2⟩:=C9 hx0;obtain⟨t1,t2⟩:=CE i hx0;have hi:i<ops.length:=(fO.1 hyo).1;have hsz:ops.length=ops'.size:=c1.trans (by simp);have hi':i<ops'.size:=by omega
   have ho:ops'[i]? =some ops'[i]:=eR hi';obtain⟨yo',g1,g2⟩:=c2 i ops'[i] (by simp);rw[hyo]at g1;cases g1
   have hr:List.range ops'.size=List.range' 0 (ops'.toList.take i).length++(i::List.range' (i+1) (ops'.toList.drop (i+1)).length):=by
    have e1:(ops'.toList.take i).length=i:=by simp;omega
    have e2:(ops'.toList.drop (i+1)).length=ops'.size-(i+1):=by simp
    rw[e1,e2,uI,<-vG];have:=List.range'_append_1 (s:=0) (m:=i) (n:=ops'.size-(i+1)+1);rw[oH]at this;rw[this];congr 1;omega
   rw[hr];refine F6 hΓ (cnt:=c) (100*rid) e _ (ops'.toList.take i) 0 (ops.take i) U e e1 h h1 a vc (λ_ _=>rfl) (λj hj=>?_) t1 hex hvc hA.1 (λm hm=>.inl (hA.2.1 m hm)) λa1 σ1 ev1 hI1 hal1 hfar1=>?_
   ·have:j<i:=by simp at hj;omega
    simp[tK,this]
   rw[wpOpsIn_cons];unfold wpOpIn;simp only[ho];obtain⟨hno,k4,k3,vals,hv,hrun⟩:=La hI1 g2 hok hca;have hw:=D6 hI1.t k4 hg;simp only[hw,if_true];refine⟨λf _=>hΓ.F.fn f,?_⟩;rw[Oper.semAt_eq _ a1.eval _ hno,hrun];refine⟨λh=>by simp[hΓ.F.depth]at h,hΓ.F.calls ((callsIn_wide.1 (NV hΓ.S hf hcf hnt hn hI1.df.gl hI1.h (cnt:=c+1) (λm hm=>by rcases hal1 m hm with h|h<;>omega) hv (hbody _))).mono ?_)⟩;rintro en w' (⟨v,Z,s,r,rfl,rfl,evτ,hτ,alτ,rv,hK⟩|⟨v,Z,s,rfl,rfl,evτ,hτ,alτ,hq⟩)
   rotate_left
   ·exact⟨Z,⟨e1,s.hp,s.cnt⟩,_,rfl,V.ofE (ev1.trans evτ),⟨⟨hτ,hI1.t.mono evτ,hI1.sz,hI1.df.mono evτ⟩,alτ,V.g hA.2.2 (ev1.trans evτ) λt ht=>.inr (hfar1 t ht)⟩,rfl,hq⟩
   have hd:∀k,ops'[i].dst=some k->k<a1.tmps.size:=by rw[k3];intro d hd;rw[hI1.sz];exact DA g2 d hd
   have hI2:Inv Z (BV yo.d r e1) s.hp (a1.put ops'[i].dst v) V.nt V.hb:=by rw[<-k3];exact⟨hτ,(hI1.t.mono evτ).put hd rv,by rw[Act.size_put];exact hI1.sz,by rw[Act.defers_put,Ee (λd hd=>DA g2 d (k3▸hd)) (show V.nt<=dk V.nt from EQ _ _)];exact hI1.df.mono evτ⟩
   exact fJ hΓ hx0 e U hA.2.2 n i yo.d e1 r s Z _ hK hi (ev1.trans evτ) hI2 alτ (λt ht=>(Ee (DA g2) ht).trans (hfar1 t ht))
  ·cases e0
 |seq x y=>simp only[cCode]at hc;split at hc<;>simp at hc
 |cond c x y=>simp only[cCode]at hc;split at hc<;>simp at hc
 |rangeFunc f ps x y=>simp only[cCode]at hc;split at hc<;>simp at hc
 |_=>simp[cCode]at hc
section
variable{P:Program}{S:Tab}
theorem Qr{nt hb:Nat}(hS:TabOK P S)(n i:Nat){rid:Nat}{ops post:List AOp}{d:Option Nat}{g:Option (Nat×Bool)}{k:AK}{Q:AE->St->Prop}{e e1:Az}{h h1:Hp}{c:Nat}{vc:Prop}{f:Nat}{args:List AV}{fn:Func}{ac:AC}{rvs:List RV}{ntf:Nat}(hf:P.funcs[f]? =some fn)(hcf:Du P fn=some (ac,rvs))(hnt:fn.ntmps=ntf)(hok:Dh P f)(hyo:ops[i]? =some ⟨d,g,k⟩)(hpost:ops.drop (i+1)=post)(hex:Bg S (c+1) (100*rid) (ops.take i) e h=some (vc,e1,h1))(hvc:vc)(hg:Ei e1 g=some true)(hca:EU e1 k=some (f,args))(hn:args.length<=ntf)(hbody:∀hb,Ax (Ctx.fn P S ntf hb) ac (E3 rvs (Xe P S rid Q (n+1) i d post e1) λv s=>Q (.p v) ⟨e1,s.hp,s.cnt⟩) ⟨BQ 0 args,h1,c+1⟩):Ax (Ctx.fd P S nt hb) (.reg rid ops) Q ⟨e,h,c⟩:=by subst hpost;exact uJ (Ctx.fd_ok hS) (n+1) i hf hcf hnt hok hyo hex hvc hg hca hn hbody
theorem Qs(n j:Nat){rid i:Nat}{d d2:Option Nat}{g2:Option (Nat×Bool)}{k2:AK}{post post2:List AOp}{Q:AE->St->Prop}{Kp:Value->St->Prop}{rvs:List RV}{e e1 e2:Az}{h h2:Hp}{c:Nat}{vc vc2:Prop}{xs args:List AV}{f:Nat}{fn:Func}{ac:AC}{rvs2:List RV}{ntf:Nat}(hf:P.funcs[f]? =some fn)(hcf:Du P fn=some (ac,rvs2))(hnt:fn.ntmps=ntf)(hok:Dh P f)(h1:DS e h rvs=some (vc,xs))(hv:vc)(hyo:post[j]? =some ⟨d2,g2,k2⟩)(hpost:post.drop (j+1)=post2)(hex:Bg S (c+1) (100*rid+(i+1)) (post.take j) (BV d (one xs) e1) h=some (vc2,e2,h2))(hvc:vc2)(hg:Ei e2 g2=some true)(hca:EU e2 k2=some (f,args))(hn:args.length<=ntf)(hbody:∀hb,Ax (Ctx.fn P S ntf hb) ac (E3 rvs2 (Xe P S rid Q (n+1) (i+1+j) d2 post2 e2) λv s=>Q (.p v) ⟨e2,s.hp,s.cnt⟩) ⟨BQ 0 args,h2,c+1⟩):E3 rvs (Xe P S rid Q (n+2) i d post e1) Kp .r ⟨e,h,c⟩:=by subst hpost;exact⟨vc,xs,h1,hv,j,_,vc2,e2,h2,f,args,fn,ac,rvs2,ntf,hyo,hex,hvc,hg,hca,hf,hcf,hnt,hok,hn,hbody⟩
theorem Xf(j:Nat){rid i:Nat}{d d2:Option Nat}{g2:Option (Nat×Bool)}{k2:AK}{post post2:List AOp}{Q:AE->St->Prop}{Kp:Value->St->Prop}{rvs:List RV}{e e1 e2:Az}{h h2:Hp}{c:Nat}{vc vc2:Prop}{xs args:List AV}{f:Nat}{fn:Func}{ac:AC}{rvs2:List RV}{ntf:Nat}(hf:P.funcs[f]? =some fn)(hcf:Du P fn=some (ac,rvs2))(hnt:fn.ntmps=ntf)(hok:Dh P f)(h1:DS e h rvs=some (vc,xs))(hv:vc)(hyo:post[j]? =some ⟨d2,g2,k2⟩)(hpost:post.drop (j+1)=post2)(hex:Bg S (c+1) (100*rid+(i+1)) (post.take j) (BV d (one xs) e1) h=some (vc2,e2,h2))(hvc:vc2)(hg:Ei e2 g2=some true)(hca:EU e2 k2=some (f,args))(hn:args.length<=ntf)(hbody:∀hb,Ax (Ctx.fn P S ntf hb) ac (E3 rvs2 (AY S rid (i+1+j) d2 post2 e2 Q) λv s=>Q (.p v) ⟨e2,s.hp,s.cnt⟩) ⟨BQ 0 args,h2,c+1⟩):E3 rvs (Xe P S rid Q 1 i d post e1) Kp .r ⟨e,h,c⟩:=by subst hpost;exact⟨vc,xs,h1,hv,j,_,vc2,e2,h2,f,args,fn,ac,rvs2,ntf,hyo,hex,hvc,hg,hca,hf,hcf,hnt,hok,hn,hbody⟩
end
end
section
attribute [local irreducible] Ax BO BB Bj BC Bk AY BD BK Cq
attribute [local irreducible] E3
abbrev AdV:AV:=.agg [.i 0,.i 0,.i 0,.i 0,BP [],.i 0,.i 0,.i 0,.i 0,.i 0,.i 0,.i 0,.i 0,.i 0,.b false]
theorem XD{S:Tab}(hS:TabOK Tryz.prog S){e:Az}{h:Hp}{c:Nat}(ek:lk e (dk 104)=.gd false (.clo (.func 74) [] [.box (1,1) 0,.box (2,1) 0]))(e2:lk e 2=.box (1,1) 0)(e3:lk e 3=.box (2,1) 0)(hh:(FP (hl h (.c (1,1) 0))&&FP (hl h (.c (1,1) 1))&&FP (hl h (.c (1,1) 2))&&FP (hl h (.c (1,1) 3))&&FP (hl h (.c (1,1) 4))&&FP (hl h (.c (1,1) 5))&&FP (hl h (.c (1,1) 6))&&FP (hl h (.c (1,1) 7))&&FP (hl h (.c (1,1) 8))&&FP (hl h (.c (1,1) 9))&&FP (hl h (.c (1,1) 10))&&FP (hl h (.c (1,1) 11))&&FP (hl h (.c (1,1) 12))&&FP (hl h (.c (1,1) 13))&&FP (hl h (.c (1,1) 14))&&FP (hl h (.c (2,1) 0)))=true):Q5 Tryz.prog S 104 [.c 2 15 true,.c 3 1 false] (.tup [AdV,.i 170]) (.p Qe) ⟨e,h,c⟩:=by simp only[fW,TD]at hh;obtain⟨⟨⟨⟨⟨⟨⟨⟨⟨⟨⟨⟨⟨⟨⟨⟨c0,h0,k0⟩,⟨c1,h1,k1⟩⟩,⟨c2,h2,k2⟩⟩,⟨c3,h3,k3⟩⟩,⟨c4,h4,k4⟩⟩,⟨c5,h5,k5⟩⟩,⟨c6,h6,k6⟩⟩,⟨c7,h7,k7⟩⟩,⟨c8,h8,k8⟩⟩,⟨c9,h9,k9⟩⟩,⟨c10,h10,k10⟩⟩,⟨c11,h11,k11⟩⟩,⟨c12,h12,k12⟩⟩,⟨c13,h13,k13⟩⟩,⟨c14,h14,k14⟩⟩,⟨c15,h15,k15⟩⟩:=hh;refine⟨_,_,ek,_,_,_,_,_,_,x74.hf,x74.hc,x74.hn,kM rfl,x74.ok,rfl,λhb2=>?_⟩;dsimp only[x74,Ah,Qe];have hOK2:=Ctx.fd_ok (nt:=16) (hb:=hb2) hS;have F:=fc e2 (fc e3 (fc h15 (fc k15 (fc h14 (fc k14 (fc h13 (fc k13 (fc h12 (fc k12 (fc h11 (fc k11 (fc h10 (fc k10 (fc h9 (fc k9 (fc h8 (fc k8 (fc h7 (fc k7 (fc h6 (fc k6 (fc h5 (fc k5 (fc h4 (fc k4 (fc h3 (fc k3 (fc h2 (fc k2 (fc h1 (fc k1 (fc h0 (fc k0 (f0))))))))))))))))))))))))))))))))));refine go hS F ?_;refine ct F ?_;refine go hS F ?_;refine Oi ⟨by simp only[go_sem,seval,F],?_⟩;exact⟨_,_,ev F,by simp only[go_sem,seval,F],by simp only[go_sem,seval,F],.ofD (by simp only[go_sem,seval,F]),rfl⟩
theorem Zu{S:Tab}(hS:TabOK Tryz.prog S){e:Az}{h:Hp}{c:Nat}{r:AV}{vc:Prop}{xs:List AV}(ek:lk e (dk 104)=.gd false (.clo (.func 74) [] [.box (1,1) 0,.box (2,1) 0]))(h1:DS e h [.c 2 15 true,.c 3 1 false]=some (vc,xs))(h2:vc)(h3:Gn h (one xs))(h4:HD (res h (one xs)) r)(h5:B2 r=true):Q5 Tryz.prog S 104 [.c 2 15 true,.c 3 1 false] r .r ⟨e,h,c⟩:=by refine .inr ⟨_,_,ek,_,_,_,_,_,_,x74.hf,x74.hc,x74.hn,kM rfl,x74.ok,rfl,λhb2=>?_⟩;dsimp only[x74,Ah];have hOK2:=Ctx.fd_ok (nt:=16) (hb:=hb2) hS;have F:=f0;refine go hS F ?_;refine cf F ?_;refine go hS F ?_;refine cf F ?_;refine go hS F ?_;refine Oi ⟨by simp only[go_sem,seval,F],?_⟩;exact⟨vc,xs,h1,h2,h3,.ofD h4,h5⟩
theorem Gk{S:Tab}{F G:Prop}{E:Type}{a r:E}(hS:TabOK Tryz.prog S)(f:F)(h:some a=some r)(t:TabOK Tryz.prog S->(r=a/\F)->G:=by
 intro hS f;refine dK ?_ (XD hS ?_ ?_ ?_ ?_)
 ·simp only[go_sem,seval,f]<;>eq_refl
 all_goals (simp only[go_sem,seval,f]<;>eq_refl)):G:=t hS ⟨(yJ h).symm,f⟩
theorem P9{S:Tab}{F G:Prop}{E:Type}{a r:E}(hS:TabOK Tryz.prog S)(f:F)(h:some a=some r)(t:TabOK Tryz.prog S->(r=a/\F)->G:=by
 intro hS f
 repeat' (first
  |(with_reducible (first|apply DD|apply EA|apply Eu|apply FL|apply DE|apply DF|apply GD|apply GE);(·(first|exact Ctx.fn_ok hS|exact Ctx.rd_ok hS|assumption|exact yT|exact Ctx.rdG_ok hS));iterate 2 (·(simp only[go_sem,seval,f]<;>eq_refl)))
  |with_reducible (first|apply Dz|apply En|apply Di|apply Dj|apply CX|apply Cw|apply CK|apply DW|apply Ec|apply Eo|apply Ep|apply Er|apply Es)
  |(with_reducible apply Et;(·first|rfl|decide))
  |(with_reducible apply A4;(·simp))
  |with_reducible (first|apply HV|apply HW|apply HX|apply DB|apply DC|apply Ex|apply Ey|apply Ez|apply yT|apply And.intro yT yT)
  |(fail_if_success with_reducible apply G1);(fail_if_success with_reducible apply Ew);first|with_reducible apply And.intro|omega|(simp only[go_sem,seval,f];done)|with_reducible assumption|(refine And.intro ?_ ?_)|(intro hg;simp_all;done)|decide|grind)
 refine Zu hS (by simp only[go_sem,seval,f]<;>eq_refl) (by simp only[go_sem,seval,f]<;>eq_refl) (by simp only[go_sem,seval,f]) (by simp only[go_sem,seval,f]) ?_ rfl
 first|(simp only[go_sem,seval,f];done)|(simp[f,HD,Ib,Hk,HS,wk];done)):G:=t hS ⟨(yJ h).symm,f⟩
end
attribute [local irreducible] Ax BO BB Bj BC Bk AY BD BK Cq
attribute [local irreducible] E3
def Nh(N:Nat)(s1:List UInt8):Option ((Int×(Int×Int×Int×(List (Int×Int))×Int×Int)×Int×Int×Int×(Int×Int×Int×Int×Bool))×Int):=(B3 N s1 0).bind λ(r2,r3,r4)=>bif !(decide (r4=0))then(some ((0,(0,0,0,[],0,0),0,0,0,(0,0,0,0,false)),170))else(bif decide (r2=1)then((Mp N s1 r3).bind λ(ei,cn,eh)=>bif !(decide (eh=0))then(some ((0,(0,0,0,[],0,0),0,0,0,(0,0,0,0,false)),170))else((Ed N ei).bind λ((bi,bh,bg,bf,be,bb),ee)=>bif !(decide (ee=0))then(some ((0,(0,0,0,[],0,0),0,0,0,(0,0,0,0,false)),170))else(gd ((decide (cn=(s1.length:Int)))=true->((BF N r2 bi bh bg bf be bb 0 0 0 0 0 0 0 false).isSome=true))<|bif !((decide (cn=(s1.length:Int)))&&((BF N r2 bi bh bg bf be bb 0 0 0 0 0 0 0 false).getD false))then(some ((0,(0,0,0,[],0,0),0,0,0,(0,0,0,0,false)),170))else(some ((r2,(bi,bh,bg,bf,be,bb),0,0,0,(0,0,0,0,false)),0)))))else(bif decide (r2=2)then((B3 N s1 r3).bind λ(ba,cm,d9)=>bif !(decide (d9=0))then(some ((0,(0,0,0,[],0,0),0,0,0,(0,0,0,0,false)),170))else(gd ((decide (cm=(s1.length:Int)))=true->((BF N r2 0 0 0 [] 0 0 ba 0 0 0 0 0 0 false).isSome=true))<|bif !((decide (cm=(s1.length:Int)))&&((BF N r2 0 0 0 [] 0 0 ba 0 0 0 0 0 0 false).getD false))then(some ((0,(0,0,0,[],0,0),0,0,0,(0,0,0,0,false)),170))else(some ((r2,(0,0,0,[],0,0),ba,0,0,(0,0,0,0,false)),0))))else(bif decide (r2=6)then((B3 N s1 r3).bind λ(az,ck,d8)=>bif !(decide (d8=0))then(some ((0,(0,0,0,[],0,0),0,0,0,(0,0,0,0,false)),170))else(gd ((decide (ck=(s1.length:Int)))=true->((BF N r2 0 0 0 [] 0 0 az 0 0 0 0 0 0 false).isSome=true))<|bif !((decide (ck=(s1.length:Int)))&&((BF N r2 0 0 0 [] 0 0 az 0 0 0 0 0 0 false).getD false))then(some ((0,(0,0,0,[],0,0),0,0,0,(0,0,0,0,false)),170))else(some ((r2,(0,0,0,[],0,0),az,0,0,(0,0,0,0,false)),0))))else(bif decide (r2=7)then((B3 N s1 r3).bind λ(ay,cj,d7)=>bif !(decide (d7=0))then(some ((0,(0,0,0,[],0,0),0,0,0,(0,0,0,0,false)),170))else(gd ((decide (cj=(s1.length:Int)))=true->((BF N r2 0 0 0 [] 0 0 ay 0 0 0 0 0 0 false).isSome=true))<|bif !((decide (cj=(s1.length:Int)))&&((BF N r2 0 0 0 [] 0 0 ay 0 0 0 0 0 0 false).getD false))then(some ((0,(0,0,0,[],0,0),0,0,0,(0,0,0,0,false)),170))else(some ((r2,(0,0,0,[],0,0),ay,0,0,(0,0,0,0,false)),0))))else(bif decide (r2=3)then((B3 N s1 r3).bind λ(aw,dz,dw)=>bif !(decide (dw=0))then(some ((0,(0,0,0,[],0,0),0,0,0,(0,0,0,0,false)),170))else((B3 N s1 dz).bind λ(av,du,dt)=>bif !(decide (dt=0))then(some ((0,(0,0,0,[],0,0),0,0,0,(0,0,0,0,false)),170))else((B3 N s1 du).bind λ(au,dq,dp)=>bif !(decide (dp=0))then(some ((0,(0,0,0,[],0,0),0,0,0,(0,0,0,0,false)),170))else((B3 N s1 dq).bind λ(aq,ci,dm)=>bif !(decide (dm=0))then(some ((0,(0,0,0,[],0,0),0,0,0,(0,0,0,0,false)),170))else(gd ((decide (ci=(s1.length:Int)))=true->((BF N r2 aq 0 0 [] 0 0 aw av au 0 0 0 0 false).isSome=true))<|bif !((decide (ci=(s1.length:Int)))&&((BF N r2 aq 0 0 [] 0 0 aw av au 0 0 0 0 false).getD false))then(some ((0,(0,0,0,[],0,0),0,0,0,(0,0,0,0,false)),170))else(some ((r2,(aq,0,0,[],0,0),aw,av,au,(0,0,0,0,false)),0)))))))else(bif decide (r2=4)then((B3 N s1 r3).bind λ(ak,ce,b9)=>bif !(decide (b9=0))then(some ((0,(0,0,0,[],0,0),0,0,0,(0,0,0,0,false)),170))else((B3 N s1 ce).bind λ(aj,b7,bz)=>bif !(decide (bz=0))then(some ((0,(0,0,0,[],0,0),0,0,0,(0,0,0,0,false)),170))else((B3 N s1 b7).bind λ(ai,an,bw)=>bif !(decide (bw=0))then(some ((0,(0,0,0,[],0,0),0,0,0,(0,0,0,0,false)),170))else(gd ((decide (an=(s1.length:Int)))=true->((BF N r2 0 0 0 [] 0 0 ak aj ai 0 0 0 0 false).isSome=true))<|bif !((decide (an=(s1.length:Int)))&&((BF N r2 0 0 0 [] 0 0 ak aj ai 0 0 0 0 false).getD false))then(some ((0,(0,0,0,[],0,0),0,0,0,(0,0,0,0,false)),170))else(some ((r2,(0,0,0,[],0,0),ak,aj,ai,(0,0,0,0,false)),0))))))else(bif decide (r2=5)then((B3 N s1 r3).bind λ(ah,bv,bu)=>bif !(decide (bu=0))then(some ((0,(0,0,0,[],0,0),0,0,0,(0,0,0,0,false)),170))else((B3 N s1 bv).bind λ(af,br,bq)=>bif !(decide (bq=0))then(some ((0,(0,0,0,[],0,0),0,0,0,(0,0,0,0,false)),170))else((B3 N s1 br).bind λ(ae,bp,bo)=>bif !(decide (bo=0))then(some ((0,(0,0,0,[],0,0),0,0,0,(0,0,0,0,false)),170))else((B3 N s1 bp).bind λ(ab,bn,bm)=>bif !(decide (bm=0))then(some ((0,(0,0,0,[],0,0),0,0,0,(0,0,0,0,false)),170))else((B3 N s1 bn).bind λ(aa,am,bl)=>bif !(decide (bl=0))then(some ((0,(0,0,0,[],0,0),0,0,0,(0,0,0,0,false)),170))else((BM N aa 0 1).bind λbj=>bif !bj then(some ((0,(0,0,0,[],0,0),0,0,0,(0,0,0,0,false)),170))else(gd ((decide (am=(s1.length:Int)))=true->((BF N r2 0 0 0 [] 0 0 0 0 0 ah af ae ab (decide (aa=1))).isSome=true))<|bif !((decide (am=(s1.length:Int)))&&((BF N r2 0 0 0 [] 0 0 0 0 0 ah af ae ab (decide (aa=1))).getD false))then(some ((0,(0,0,0,[],0,0),0,0,0,(0,0,0,0,false)),170))else(some ((r2,(0,0,0,[],0,0),0,0,0,(ah,af,ae,ab,decide (aa=1))),0)))))))))else(gd ((decide (r3=(s1.length:Int)))=true->((BF N r2 0 0 0 [] 0 0 0 0 0 0 0 0 0 false).isSome=true))<|bif !((decide (r3=(s1.length:Int)))&&((BF N r2 0 0 0 [] 0 0 0 0 0 0 0 0 0 false).getD false))then(some ((0,(0,0,0,[],0,0),0,0,0,(0,0,0,0,false)),170))else(some ((r2,(0,0,0,[],0,0),0,0,0,(0,0,0,0,false)),0))))))))))
@[go_sem] def s35(N:Nat):Spec:=p0<|pT λs1=>pE<|pF (Nh N s1) ((0,(0,0,0,[],0,0),0,0,0,(0,0,0,0,false)),0) λr=>.tup [.agg [.i r.1.1,.i r.1.2.1.1,.i r.1.2.1.2.1,.i r.1.2.1.2.2.1,BP r.1.2.1.2.2.2.1,.i r.1.2.1.2.2.2.2.1,.i r.1.2.1.2.2.2.2.2,.i r.1.2.2.1,.i r.1.2.2.2.1,.i r.1.2.2.2.2.1,.i r.1.2.2.2.2.2.1,.i r.1.2.2.2.2.2.2.1,.i r.1.2.2.2.2.2.2.2.1,.i r.1.2.2.2.2.2.2.2.2.1,.b r.1.2.2.2.2.2.2.2.2.2],.i r.2]
theorem AbZ(N:Nat):AG Tryz.prog 35 (s35 N):=by
 refine Ar x35.ok<|L1 λs1=>Ad<|As λr h=>SI x35 (Ab (Zx N)<|Ab (Acb N)<|Ab (AcK N)<|Ab (QT N)<|Ab (pX N)<|Aj) λhb hS F=>?_
 dsimp only[x35,Ah];have hOK:=Ctx.fd_ok (nt:=104) (hb:=hb) hS;unfold Nh at h;refine go hS F ?_;refine JH hS 1 rfl rfl (ev F) yT (ev F) (ev F) ?_;refine go hS F ?_;refine BN hS 1 x75.hf x75.hc x75.hn x75.ok rfl (ev F) (ev F) ?_ rfl (ev F) (kM rfl) λhb=>?_
 ·exact Bl hS F
 dsimp only[x75,Ah];obtain⟨⟨r2,r3,r4⟩,gr,h⟩:=un h;replace F:=fc gr F;refine go hS F ?_;refine AZ hS 2 x77.hf x77.hc x77.hn x77.ok rfl (ev F) (ev F) ?_ rfl (ev F) (kM rfl) λhb=>?_
 ·exact Bl hS F
 dsimp only[x77,Ah];refine An hS F h (λ_ h=>?_) (λ_ h=>?_)
 ·refine go hS F ?_;refine Bf (Ctx.fn_ok hS) 2 rfl rfl (ev F) (ev F) (ev F) ?_
  repeat' (first|with_reducible (first|apply A8|apply A9|apply Bh|apply AR|apply Bx)|((with_reducible apply A4);(·simp)))
  exact Gk hS F h
 ·refine An hS F h (λgg h=>?_) (λgg h=>?_)
  ·replace F:=fc gg F;obtain⟨⟨ei,cn,eh⟩,fo,h⟩:=un h;replace F:=fc fo F;refine go hS F ?_;refine BN hS 2 x77.hf x77.hc x77.hn x77.ok rfl (ev F) (ev F) ?_ rfl (ev F) (kM rfl) λhb=>?_
   ·exact Bl hS F
   dsimp only[x77,Ah];refine An hS F h (λ_ h=>?_) (λ_ h=>?_)
   ·refine go hS F ?_;refine Bf (Ctx.fn_ok hS) 2 rfl rfl (ev F) (ev F) (ev F) ?_
    repeat' (first|with_reducible (first|apply A8|apply A9|apply Bh|apply AR|apply Bx)|((with_reducible apply A4);(·simp)))
    exact Gk hS F h
   ·obtain⟨⟨⟨bi,bh,bg,bf,be,bb⟩,ee⟩,fm,h⟩:=un h;replace F:=fc fm F;refine go hS F ?_;refine BN hS 2 x77.hf x77.hc x77.hn x77.ok rfl (ev F) (ev F) ?_ rfl (ev F) (kM rfl) λhb=>?_
    ·exact Bl hS F
    dsimp only[x77,Ah];refine An hS F h (λ_ h=>?_) (λ_ h=>?_)
    ·refine go hS F ?_;refine Bf (Ctx.fn_ok hS) 2 rfl rfl (ev F) (ev F) (ev F) ?_
     repeat' (first|with_reducible (first|apply A8|apply A9|apply Bh|apply AR|apply Bx)|((with_reducible apply A4);(·simp)))
     exact Gk hS F h
    ·obtain⟨gw,h⟩:=un h;refine go hS F ?_;refine BN hS 8 x77.hf x77.hc x77.hn x77.ok rfl (ev F) (ev F) ?_ rfl (ev F) (kM rfl) λhb=>?_
     ·exact Bl hS F
     dsimp only[x77,Ah];refine An hS F h (λ_ h=>?_) (λ_ h=>?_)
     ·refine go hS F ?_;refine Bf (Ctx.fn_ok hS) 2 rfl rfl (ev F) (ev F) (ev F) ?_
      repeat' (first|with_reducible (first|apply A8|apply A9|apply Bh|apply AR|apply Bx)|((with_reducible apply A4);(·simp)))
      exact Gk hS F h
     ·exact P9 hS F h
  ·replace F:=fc gg F;refine An hS F h (λgc h=>?_) (λgc h=>?_)
   ·replace F:=fc gc F;refine Om hS F ?_;refine go hS F ?_;refine BN hS 1 x75.hf x75.hc x75.hn x75.ok rfl (ev F) (ev F) ?_ rfl (ev F) (kM rfl) λhb=>?_
    ·exact Bl hS F
    dsimp only[x75,Ah];obtain⟨⟨ba,cm,d9⟩,fj,h⟩:=un h;replace F:=fc fj F;refine go hS F ?_;refine AZ hS 2 x77.hf x77.hc x77.hn x77.ok rfl (ev F) (ev F) ?_ rfl (ev F) (kM rfl) λhb=>?_
    ·exact Bl hS F
    dsimp only[x77,Ah];refine An hS F h (λ_ h=>?_) (λ_ h=>?_)
    ·refine go hS F ?_;refine Bf (Ctx.fn_ok hS) 2 rfl rfl (ev F) (ev F) (ev F) ?_
     repeat' (first|with_reducible (first|apply A8|apply A9|apply Bh|apply AR|apply Bx)|((with_reducible apply A4);(·simp)))
     exact Gk hS F h
    ·obtain⟨gv,h⟩:=un h;refine go hS F ?_;refine BN hS 8 x77.hf x77.hc x77.hn x77.ok rfl (ev F) (ev F) ?_ rfl (ev F) (kM rfl) λhb=>?_
     ·exact Bl hS F
     dsimp only[x77,Ah];refine An hS F h (λ_ h=>?_) (λ_ h=>?_)
     ·refine go hS F ?_;refine Bf (Ctx.fn_ok hS) 2 rfl rfl (ev F) (ev F) (ev F) ?_
      repeat' (first|with_reducible (first|apply A8|apply A9|apply Bh|apply AR|apply Bx)|((with_reducible apply A4);(·simp)))
      exact Gk hS F h
     ·exact P9 hS F h
   ·replace F:=fc gc F;refine An hS F h (λfr h=>?_) (λfr h=>?_)
    ·replace F:=fc fr F;refine Om hS F ?_;refine go hS F ?_;refine BN hS 1 x75.hf x75.hc x75.hn x75.ok rfl (ev F) (ev F) ?_ rfl (ev F) (kM rfl) λhb=>?_
     ·exact Bl hS F
     dsimp only[x75,Ah];obtain⟨⟨az,ck,d8⟩,fh,h⟩:=un h;replace F:=fc fh F;refine go hS F ?_;refine AZ hS 2 x77.hf x77.hc x77.hn x77.ok rfl (ev F) (ev F) ?_ rfl (ev F) (kM rfl) λhb=>?_
     ·exact Bl hS F
     dsimp only[x77,Ah];refine An hS F h (λ_ h=>?_) (λ_ h=>?_)
     ·refine go hS F ?_;refine Bf (Ctx.fn_ok hS) 2 rfl rfl (ev F) (ev F) (ev F) ?_
      repeat' (first|with_reducible (first|apply A8|apply A9|apply Bh|apply AR|apply Bx)|((with_reducible apply A4);(·simp)))
      exact Gk hS F h
     ·obtain⟨gu,h⟩:=un h;refine go hS F ?_;refine BN hS 8 x77.hf x77.hc x77.hn x77.ok rfl (ev F) (ev F) ?_ rfl (ev F) (kM rfl) λhb=>?_
      ·exact Bl hS F
      dsimp only[x77,Ah];refine An hS F h (λ_ h=>?_) (λ_ h=>?_)
      ·refine go hS F ?_;refine Bf (Ctx.fn_ok hS) 2 rfl rfl (ev F) (ev F) (ev F) ?_
       repeat' (first|with_reducible (first|apply A8|apply A9|apply Bh|apply AR|apply Bx)|((with_reducible apply A4);(·simp)))
       exact Gk hS F h
      ·exact P9 hS F h
    ·replace F:=fc fr F;refine An hS F h (λfq h=>?_) (λfq h=>?_)
     ·replace F:=fc fq F;refine go hS F ?_;refine BN hS 1 x75.hf x75.hc x75.hn x75.ok rfl (ev F) (ev F) ?_ rfl (ev F) (kM rfl) λhb=>?_
      ·exact Bl hS F
      dsimp only[x75,Ah];obtain⟨⟨ay,cj,d7⟩,fg,h⟩:=un h;replace F:=fc fg F;refine go hS F ?_;refine AZ hS 2 x77.hf x77.hc x77.hn x77.ok rfl (ev F) (ev F) ?_ rfl (ev F) (kM rfl) λhb=>?_
      ·exact Bl hS F
      dsimp only[x77,Ah];refine An hS F h (λ_ h=>?_) (λ_ h=>?_)
      ·refine go hS F ?_;refine Bf (Ctx.fn_ok hS) 2 rfl rfl (ev F) (ev F) (ev F) ?_
       repeat' (first|with_reducible (first|apply A8|apply A9|apply Bh|apply AR|apply Bx)|((with_reducible apply A4);(·simp)))
       exact Gk hS F h
      ·obtain⟨gt,h⟩:=un h;refine go hS F ?_;refine BN hS 8 x77.hf x77.hc x77.hn x77.ok rfl (ev F) (ev F) ?_ rfl (ev F) (kM rfl) λhb=>?_
       ·exact Bl hS F
       dsimp only[x77,Ah];refine An hS F h (λ_ h=>?_) (λ_ h=>?_)
       ·refine go hS F ?_;refine Bf (Ctx.fn_ok hS) 2 rfl rfl (ev F) (ev F) (ev F) ?_
        repeat' (first|with_reducible (first|apply A8|apply A9|apply Bh|apply AR|apply Bx)|((with_reducible apply A4);(·simp)))
        exact Gk hS F h
       ·exact P9 hS F h
     ·replace F:=fc fq F;refine An hS F h (λfp h=>?_) (λfp h=>?_)
      ·replace F:=fc fp F;refine go hS F ?_;refine Qr hS 2 1 x75.hf x75.hc x75.hn x75.ok rfl (ev F) (ev F) ?_ rfl (ev F) (kM rfl) λhb=>?_
       ·exact Bl hS F
       dsimp only[x75,Ah];obtain⟨⟨aw,dz,dw⟩,e9,h⟩:=un h;replace F:=fc e9 F;refine go hS F ?_;refine AZ hS 2 x77.hf x77.hc x77.hn x77.ok rfl (ev F) (ev F) ?_ rfl (ev F) (kM rfl) λhb=>?_
       ·exact Bl hS F
       dsimp only[x77,Ah];refine An hS F h (λ_ h=>?_) (λ_ h=>?_)
       ·refine go hS F ?_;refine Bf (Ctx.fn_ok hS) 2 rfl rfl (ev F) (ev F) (ev F) ?_
        repeat' (first|with_reducible (first|apply A8|apply A9|apply Bh|apply AR|apply Bx)|((with_reducible apply A4);(·simp)))
        exact Gk hS F h
       ·refine go hS F ?_;refine Qs 1 1 x75.hf x75.hc x75.hn x75.ok (ev F) ?_ rfl (ev F) (ev F) ?_ rfl (ev F) (kM rfl) λhb=>?_
        ·exact Bl hS F
        ·exact Bl hS F
        dsimp only[x75,Ah];obtain⟨⟨av,du,dt⟩,e8,h⟩:=un h;replace F:=fc e8 F;refine go hS F ?_;refine AZ hS 2 x77.hf x77.hc x77.hn x77.ok rfl (ev F) (ev F) ?_ rfl (ev F) (kM rfl) λhb=>?_
        ·exact Bl hS F
        dsimp only[x77,Ah];refine An hS F h (λ_ h=>?_) (λ_ h=>?_)
        ·refine go hS F ?_;refine Bf (Ctx.fn_ok hS) 2 rfl rfl (ev F) (ev F) (ev F) ?_
         repeat' (first|with_reducible (first|apply A8|apply A9|apply Bh|apply AR|apply Bx)|((with_reducible apply A4);(·simp)))
         exact Gk hS F h
        ·refine go hS F ?_;refine Qs 0 1 x75.hf x75.hc x75.hn x75.ok (ev F) ?_ rfl (ev F) (ev F) ?_ rfl (ev F) (kM rfl) λhb=>?_
         ·exact Bl hS F
         ·exact Bl hS F
         dsimp only[x75,Ah];obtain⟨⟨au,dq,dp⟩,eu,h⟩:=un h;replace F:=fc eu F;refine go hS F ?_;refine AZ hS 2 x77.hf x77.hc x77.hn x77.ok rfl (ev F) (ev F) ?_ rfl (ev F) (kM rfl) λhb=>?_
         ·exact Bl hS F
         dsimp only[x77,Ah];refine An hS F h (λ_ h=>?_) (λ_ h=>?_)
         ·refine go hS F ?_;refine Bf (Ctx.fn_ok hS) 2 rfl rfl (ev F) (ev F) (ev F) ?_
          repeat' (first|with_reducible (first|apply A8|apply A9|apply Bh|apply AR|apply Bx)|((with_reducible apply A4);(·simp)))
          exact Gk hS F h
         ·refine go hS F ?_;refine Xf 1 x75.hf x75.hc x75.hn x75.ok (ev F) ?_ rfl (ev F) (ev F) ?_ rfl (ev F) (kM rfl) λhb=>?_
          ·exact Bl hS F
          ·exact Bl hS F
          dsimp only[x75,Ah];obtain⟨⟨aq,ci,dm⟩,ej,h⟩:=un h;replace F:=fc ej F;refine go hS F ?_;refine AZ hS 2 x77.hf x77.hc x77.hn x77.ok rfl (ev F) (ev F) ?_ rfl (ev F) (kM rfl) λhb=>?_
          ·exact Bl hS F
          dsimp only[x77,Ah];refine An hS F h (λ_ h=>?_) (λ_ h=>?_)
          ·refine go hS F ?_;refine Bf (Ctx.fn_ok hS) 2 rfl rfl (ev F) (ev F) (ev F) ?_
           repeat' (first|with_reducible (first|apply A8|apply A9|apply Bh|apply AR|apply Bx)|((with_reducible apply A4);(·simp)))
           exact Gk hS F h
          ·obtain⟨gm,h⟩:=un h;refine go hS F ?_;refine BN hS 8 x77.hf x77.hc x77.hn x77.ok rfl (ev F) (ev F) ?_ rfl (ev F) (kM rfl) λhb=>?_
           ·exact Bl hS F
           dsimp only[x77,Ah];refine An hS F h (λ_ h=>?_) (λ_ h=>?_)
           ·refine go hS F ?_;refine Bf (Ctx.fn_ok hS) 2 rfl rfl (ev F) (ev F) (ev F) ?_
            repeat' (first|with_reducible (first|apply A8|apply A9|apply Bh|apply AR|apply Bx)|((with_reducible apply A4);(·simp)))
            exact Gk hS F h
           ·exact P9 hS F h
      ·replace F:=fc fp F;refine An hS F h (λdl h=>?_) (λdl h=>?_)
       ·replace F:=fc dl F;refine go hS F ?_;refine Qr hS 1 1 x75.hf x75.hc x75.hn x75.ok rfl (ev F) (ev F) ?_ rfl (ev F) (kM rfl) λhb=>?_
        ·exact Bl hS F
        dsimp only[x75,Ah];obtain⟨⟨ak,ce,b9⟩,dg,h⟩:=un h;replace F:=fc dg F;refine go hS F ?_;refine AZ hS 2 x77.hf x77.hc x77.hn x77.ok rfl (ev F) (ev F) ?_ rfl (ev F) (kM rfl) λhb=>?_
        ·exact Bl hS F
        dsimp only[x77,Ah];refine An hS F h (λ_ h=>?_) (λ_ h=>?_)
        ·refine go hS F ?_;refine Bf (Ctx.fn_ok hS) 2 rfl rfl (ev F) (ev F) (ev F) ?_
         repeat' (first|with_reducible (first|apply A8|apply A9|apply Bh|apply AR|apply Bx)|((with_reducible apply A4);(·simp)))
         exact Gk hS F h
        ·refine go hS F ?_;refine Qs 0 1 x75.hf x75.hc x75.hn x75.ok (ev F) ?_ rfl (ev F) (ev F) ?_ rfl (ev F) (kM rfl) λhb=>?_
         ·exact Bl hS F
         ·exact Bl hS F
         dsimp only[x75,Ah];obtain⟨⟨aj,b7,bz⟩,db,h⟩:=un h;replace F:=fc db F;refine go hS F ?_;refine AZ hS 2 x77.hf x77.hc x77.hn x77.ok rfl (ev F) (ev F) ?_ rfl (ev F) (kM rfl) λhb=>?_
         ·exact Bl hS F
         dsimp only[x77,Ah];refine An hS F h (λ_ h=>?_) (λ_ h=>?_)
         ·refine go hS F ?_;refine Bf (Ctx.fn_ok hS) 2 rfl rfl (ev F) (ev F) (ev F) ?_
          repeat' (first|with_reducible (first|apply A8|apply A9|apply Bh|apply AR|apply Bx)|((with_reducible apply A4);(·simp)))
          exact Gk hS F h
         ·refine go hS F ?_;refine Xf 1 x75.hf x75.hc x75.hn x75.ok (ev F) ?_ rfl (ev F) (ev F) ?_ rfl (ev F) (kM rfl) λhb=>?_
          ·exact Bl hS F
          ·exact Bl hS F
          dsimp only[x75,Ah];obtain⟨⟨ai,an,bw⟩,da,h⟩:=un h;replace F:=fc da F;refine go hS F ?_;refine AZ hS 2 x77.hf x77.hc x77.hn x77.ok rfl (ev F) (ev F) ?_ rfl (ev F) (kM rfl) λhb=>?_
          ·exact Bl hS F
          dsimp only[x77,Ah];refine An hS F h (λ_ h=>?_) (λ_ h=>?_)
          ·refine go hS F ?_;refine Bf (Ctx.fn_ok hS) 2 rfl rfl (ev F) (ev F) (ev F) ?_
           repeat' (first|with_reducible (first|apply A8|apply A9|apply Bh|apply AR|apply Bx)|((with_reducible apply A4);(·simp)))
           exact Gk hS F h
          ·obtain⟨gj,h⟩:=un h;refine go hS F ?_;refine BN hS 8 x77.hf x77.hc x77.hn x77.ok rfl (ev F) (ev F) ?_ rfl (ev F) (kM rfl) λhb=>?_
           ·exact Bl hS F
           dsimp only[x77,Ah];refine An hS F h (λ_ h=>?_) (λ_ h=>?_)
           ·refine go hS F ?_;refine Bf (Ctx.fn_ok hS) 2 rfl rfl (ev F) (ev F) (ev F) ?_
            repeat' (first|with_reducible (first|apply A8|apply A9|apply Bh|apply AR|apply Bx)|((with_reducible apply A4);(·simp)))
            exact Gk hS F h
           ·exact P9 hS F h
       ·replace F:=fc dl F;refine An hS F h (λdh h=>?_) (λdh h=>?_)
        ·replace F:=fc dh F;refine go hS F ?_;refine Qr hS 2 1 x75.hf x75.hc x75.hn x75.ok rfl (ev F) (ev F) ?_ rfl (ev F) (kM rfl) λhb=>?_
         ·exact Bl hS F
         dsimp only[x75,Ah];obtain⟨⟨ah,bv,bu⟩,cz,h⟩:=un h;replace F:=fc cz F;refine go hS F ?_;refine AZ hS 2 x77.hf x77.hc x77.hn x77.ok rfl (ev F) (ev F) ?_ rfl (ev F) (kM rfl) λhb=>?_
         ·exact Bl hS F
         dsimp only[x77,Ah];refine An hS F h (λ_ h=>?_) (λ_ h=>?_)
         ·refine go hS F ?_;refine Bf (Ctx.fn_ok hS) 2 rfl rfl (ev F) (ev F) (ev F) ?_
          repeat' (first|with_reducible (first|apply A8|apply A9|apply Bh|apply AR|apply Bx)|((with_reducible apply A4);(·simp)))
          exact Gk hS F h
         ·refine go hS F ?_;refine Qs 1 1 x75.hf x75.hc x75.hn x75.ok (ev F) ?_ rfl (ev F) (ev F) ?_ rfl (ev F) (kM rfl) λhb=>?_
          ·exact Bl hS F
          ·exact Bl hS F
          dsimp only[x75,Ah];obtain⟨⟨af,br,bq⟩,cy,h⟩:=un h;replace F:=fc cy F;refine go hS F ?_;refine AZ hS 2 x77.hf x77.hc x77.hn x77.ok rfl (ev F) (ev F) ?_ rfl (ev F) (kM rfl) λhb=>?_
          ·exact Bl hS F
          dsimp only[x77,Ah];refine An hS F h (λ_ h=>?_) (λ_ h=>?_)
          ·refine go hS F ?_;refine Bf (Ctx.fn_ok hS) 2 rfl rfl (ev F) (ev F) (ev F) ?_
           repeat' (first|with_reducible (first|apply A8|apply A9|apply Bh|apply AR|apply Bx)|((with_reducible apply A4);(·simp)))
           exact Gk hS F h
          ·refine go hS F ?_;refine Qs 0 1 x75.hf x75.hc x75.hn x75.ok (ev F) ?_ rfl (ev F) (ev F) ?_ rfl (ev F) (kM rfl) λhb=>?_
           ·exact Bl hS F
           ·exact Bl hS F
           dsimp only[x75,Ah];obtain⟨⟨ae,bp,bo⟩,cu,h⟩:=un h;replace F:=fc cu F;refine go hS F ?_;refine AZ hS 2 x77.hf x77.hc x77.hn x77.ok rfl (ev F) (ev F) ?_ rfl (ev F) (kM rfl) λhb=>?_
           ·exact Bl hS F
           dsimp only[x77,Ah];refine An hS F h (λ_ h=>?_) (λ_ h=>?_)
           ·refine go hS F ?_;refine Bf (Ctx.fn_ok hS) 2 rfl rfl (ev F) (ev F) (ev F) ?_
            repeat' (first|with_reducible (first|apply A8|apply A9|apply Bh|apply AR|apply Bx)|((with_reducible apply A4);(·simp)))
            exact Gk hS F h
           ·refine go hS F ?_;refine Xf 1 x75.hf x75.hc x75.hn x75.ok (ev F) ?_ rfl (ev F) (ev F) ?_ rfl (ev F) (kM rfl) λhb=>?_
            ·exact Bl hS F
            ·exact Bl hS F
            dsimp only[x75,Ah];obtain⟨⟨ab,bn,bm⟩,cr,h⟩:=un h;replace F:=fc cr F;refine go hS F ?_;refine AZ hS 2 x77.hf x77.hc x77.hn x77.ok rfl (ev F) (ev F) ?_ rfl (ev F) (kM rfl) λhb=>?_
            ·exact Bl hS F
            dsimp only[x77,Ah];refine An hS F h (λ_ h=>?_) (λ_ h=>?_)
            ·refine go hS F ?_;refine Bf (Ctx.fn_ok hS) 2 rfl rfl (ev F) (ev F) (ev F) ?_
             repeat' (first|with_reducible (first|apply A8|apply A9|apply Bh|apply AR|apply Bx)|((with_reducible apply A4);(·simp)))
             exact Gk hS F h
            ·refine go hS F ?_;refine BN hS 1 x75.hf x75.hc x75.hn x75.ok rfl (ev F) (ev F) ?_ rfl (ev F) (kM rfl) λhb=>?_
             ·exact Bl hS F
             dsimp only[x75,Ah];obtain⟨⟨aa,am,bl⟩,cq,h⟩:=un h;replace F:=fc cq F;refine go hS F ?_;refine AZ hS 2 x77.hf x77.hc x77.hn x77.ok rfl (ev F) (ev F) ?_ rfl (ev F) (kM rfl) λhb=>?_
             ·exact Bl hS F
             dsimp only[x77,Ah];refine An hS F h (λ_ h=>?_) (λ_ h=>?_)
             ·refine go hS F ?_;refine Bf (Ctx.fn_ok hS) 2 rfl rfl (ev F) (ev F) (ev F) ?_
              repeat' (first|with_reducible (first|apply A8|apply A9|apply Bh|apply AR|apply Bx)|((with_reducible apply A4);(·simp)))
              exact Gk hS F h
             ·obtain⟨bj,co,h⟩:=un h;replace F:=fc co F;refine go hS F ?_;refine BN hS 2 x77.hf x77.hc x77.hn x77.ok rfl (ev F) (ev F) ?_ rfl (ev F) (kM rfl) λhb=>?_
              ·exact Bl hS F
              dsimp only[x77,Ah];refine An hS F h (λ_ h=>?_) (λ_ h=>?_)
              ·refine go hS F ?_;refine Bf (Ctx.fn_ok hS) 2 rfl rfl (ev F) (ev F) (ev F) ?_
               repeat' (first|with_reducible (first|apply A8|apply A9|apply Bh|apply AR|apply Bx)|((with_reducible apply A4);(·simp)))
               exact Gk hS F h
              ·obtain⟨gi,h⟩:=un h;refine go hS F ?_;refine BN hS 8 x77.hf x77.hc x77.hn x77.ok rfl (ev F) (ev F) ?_ rfl (ev F) (kM rfl) λhb=>?_
               ·exact Bl hS F
               dsimp only[x77,Ah];refine An hS F h (λ_ h=>?_) (λ_ h=>?_)
               ·refine go hS F ?_;refine Bf (Ctx.fn_ok hS) 2 rfl rfl (ev F) (ev F) (ev F) ?_
                repeat' (first|with_reducible (first|apply A8|apply A9|apply Bh|apply AR|apply Bx)|((with_reducible apply A4);(·simp)))
                exact Gk hS F h
               ·exact P9 hS F h
        ·replace F:=fc dh F;obtain⟨gh,h⟩:=un h;refine go hS F ?_;refine BN hS 8 x77.hf x77.hc x77.hn x77.ok rfl (ev F) (ev F) ?_ rfl (ev F) (kM rfl) λhb=>?_
         ·exact Bl hS F
         dsimp only[x77,Ah];refine An hS F h (λ_ h=>?_) (λ_ h=>?_)
         ·refine go hS F ?_;refine Bf (Ctx.fn_ok hS) 2 rfl rfl (ev F) (ev F) (ev F) ?_
          repeat' (first|with_reducible (first|apply A8|apply A9|apply Bh|apply AR|apply Bx)|((with_reducible apply A4);(·simp)))
          exact Gk hS F h
         ·exact P9 hS F h
