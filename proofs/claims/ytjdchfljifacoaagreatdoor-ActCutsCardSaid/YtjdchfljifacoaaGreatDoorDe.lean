import Derived.Test.YtjdchfljifacoaaGreatDoorW2
set_option linter.all false
set_option maxRecDepth 100000
set_option maxHeartbeats 8000000
namespace Go.Proofs.YtjdchfljifacoaaGreatDoor.Am
open Go
section
def U2(P:Program)(S:Tab)(rid:Nat)(Q:AE->St->Prop):Nat->Nat->Option Nat->List AOp->Ar->AV->St->Prop|0,i,d,post,e1=>AQ S rid i d post e1 Q|n+1,i,d,post,e1=>λr s=>∃(j:Nat)(yo:AOp)(vc:Prop)(e2:Ar)(h2:Hp)(f:Nat)(args:List AV)(fn:Func)(ac:AC)(rvs:List RV)(ntf:Nat),post[j]? =some yo/\Bh S (s.cnt+1) (100*rid+(i+1)) (post.take j) (BQ d r e1) s.hp=some (vc,e2,h2)/\vc/\D8 e2 yo.g=some true/\EG e2 yo.k=some (f,args)/\P.funcs[f]? =some fn/\Dj P fn=some (ac,rvs)/\fn.ntmps=ntf/\C0 P f/\args.length<=ntf/\∀hb,Aq (Ctx.fn P S ntf hb) ac (Ej rvs (U2 P S rid Q n (i+1+j) yo.d (post.drop (j+1)) e2) λv s=>Q (.p v) ⟨e2,s.hp,s.cnt⟩) ⟨BC 0 args,h2,s.cnt+1⟩
theorem aL{V:Ctx}(hΓ:V.OK){rid:Nat}{ops':Array Oper}{ops:List AOp}{Q:AE->St->Prop}(hx0:FM V.P V.nt ops' ops'.toList=some ops)(e:Ar)(U:Cf)(hG:V.G e U):∀(n i:Nat)(d:Option Nat)(e1:Ar)(r:AV)(s:St)(Z:Cf)(a2:Act),U2 V.P V.S rid Q n i d (ops.drop (i+1)) e1 r s->i<ops.length->Evo U Z->Inv Z (BQ d r e1) s.hp a2 V.nt V.hb->(∀m,Z.al m->m.2<=s.cnt)->(∀t,V.nt<=t->lk (BQ d r e1) t=lk e t)->wpOpsIn V.F 0 V.P ops' (lift V U Q) (List.range' (i+1) (ops'.toList.drop (i+1)).length) a2 Z.w
 |0,i,d,e1,r,s,Z,a2,h,hi,ev,hI,hal,hfar=>by obtain⟨vc2,e2,h2,q1,q2,q3⟩:=h;obtain⟨c1,c2⟩:=CM hx0;have hsz:ops.length=ops'.size:=c1.trans (by simp);obtain⟨_,t3⟩:=Cj (i+1) hx0;exact FS hΓ (ops:=ops') (Q:=Q) (cnt:=s.cnt) (100*rid) e U hG (ops'.toList.drop (i+1)) (i+1) (ops.drop (i+1)) Z _ _ _ _ _ vc2 hfar (λj=>by simp) (by simp;omega) t3 q1 q2 ev hI (λm hm=>.inl (hal m hm)) q3
 |n+1,i,d,e1,r,s,Z,a2,h,hi,ev,hI,hal,hfar=>by
  obtain⟨j,yo,vc,e2,h2,f,args,fn,ac,rvs,ntf,hyo,hex,hvc,hg,hca,hf,hcf,hnt,hok,hn,hbody⟩:=h;obtain⟨c1,c2⟩:=CM hx0;have hsz:ops.length=ops'.size:=c1.trans (by simp);obtain⟨_,t3⟩:=Cj (i+1) hx0;obtain⟨t4,_⟩:=Cj j t3;rw[A48]at hyo;have hp:i+1+j<ops.length:=(y5.1 hyo).1;have hp':i+1+j<ops'.size:=by omega
  have ho:ops'[i+1+j]? =some ops'[i+1+j]:=w7 hp';obtain⟨yo',g1,g2⟩:=c2 (i+1+j) ops'[i+1+j] (by simp);rw[hyo]at g1;cases g1
  have hr:List.range' (i+1) (ops'.toList.drop (i+1)).length=List.range' (i+1) ((ops'.toList.drop (i+1)).take j).length++((i+1+j)::List.range' (i+1+j+1) (ops'.toList.drop (i+1+j+1)).length):=by
   have e1:((ops'.toList.drop (i+1)).take j).length=j:=by simp;omega
   have e2:(ops'.toList.drop (i+1)).length=ops'.size-(i+1):=by simp
   have e3:(ops'.toList.drop (i+1+j+1)).length=ops'.size-(i+1+j+1):=by simp
   rw[e1,e2,e3,<-A38];have:=List.range'_append_1 (s:=i+1) (m:=j) (n:=ops'.size-(i+1+j+1)+1);rw[this];congr 1;omega
  rw[hr];refine E0 hΓ (cnt:=s.cnt) (100*rid) e _ ((ops'.toList.drop (i+1)).take j) (i+1) ((ops.drop (i+1)).take j) Z _ e2 _ h2 a2 vc hfar (λk hk=>?_) t4 hex hvc hI (λm hm=>.inl (hal m hm)) λa1 σ1 ev1 hI1 hal1 hfar1=>?_
  ·have:k<j:=by simp at hk;omega
   simp[A27,this]
  rw[wpOpsIn_cons];unfold wpOpIn;simp only[ho];obtain⟨hno,k4,k3,vals,hv,hrun⟩:=Jk hI1 g2 hok hca;have hw:=DA hI1.t k4 hg;simp only[hw,if_true];refine⟨λf _=>hΓ.F.fn f,?_⟩;rw[Oper.semAt_eq _ a1.eval _ hno,hrun];refine⟨λh=>by simp[hΓ.F.depth]at h,hΓ.F.calls ((callsIn_wide.1 (Mb hΓ.S hf hcf hnt hn hI1.df.gl hI1.h (cnt:=s.cnt+1) (λm hm=>by rcases hal1 m hm with h|h<;>omega) hv (hbody _))).mono ?_)⟩;rintro en w' (⟨v,τ2,s2,r2,rfl,rfl,evτ,hτ,alτ,rv,hK⟩|⟨v,τ2,s2,rfl,rfl,evτ,hτ,alτ,hq⟩)
  rotate_left
  ·exact⟨τ2,⟨e2,s2.hp,s2.cnt⟩,_,rfl,V.ofE ((ev.trans ev1).trans evτ),⟨⟨hτ,hI1.t.mono evτ,hI1.sz,hI1.df.mono evτ⟩,alτ,V.g hG ((ev.trans ev1).trans evτ) λt ht=>.inr (hfar1 t ht)⟩,rfl,hq⟩
  have hd:∀k,ops'[i+1+j].dst=some k->k<a1.tmps.size:=by rw[k3];intro d hd;rw[hI1.sz];exact C9 g2 d hd
  have hI2:Inv τ2 (BQ yo.d r2 e2) s2.hp (a1.put ops'[i+1+j].dst v) V.nt V.hb:=by rw[<-k3];exact⟨hτ,(hI1.t.mono evτ).put hd rv,by rw[Act.size_put];exact hI1.sz,by rw[Act.defers_put,DL (λd hd=>C9 g2 d (k3▸hd)) (show V.nt<=dk V.nt from A55 _ _)];exact hI1.df.mono evτ⟩
  rw[List.drop_drop,show i+1+(j+1)=i+1+j+1 by omega]at hK;exact aL hΓ hx0 e U hG n (i+1+j) yo.d e2 r2 s2 τ2 _ hK hp ((ev.trans ev1).trans evτ) hI2 alτ (λt ht=>(DL (C9 g2) ht).trans (hfar1 t ht))
theorem oS{V:Ctx}(hΓ:V.OK)(n i:Nat){rid:Nat}{ops:List AOp}{yo:AOp}{Q:AE->St->Prop}{e e1:Ar}{h h1:Hp}{c:Nat}{vc:Prop}{f:Nat}{args:List AV}{fn:Func}{ac:AC}{rvs:List RV}{ntf:Nat}(hf:V.P.funcs[f]? =some fn)(hcf:Dj V.P fn=some (ac,rvs))(hnt:fn.ntmps=ntf)(hok:C0 V.P f)(hyo:ops[i]? =some yo)(hex:Bh V.S (c+1) (100*rid) (ops.take i) e h=some (vc,e1,h1))(hvc:vc)(hg:D8 e1 yo.g=some true)(hca:EG e1 yo.k=some (f,args))(hn:args.length<=ntf)(hbody:∀hb,Aq (Ctx.fn V.P V.S ntf hb) ac (Ej rvs (U2 V.P V.S rid Q n i yo.d (ops.drop (i+1)) e1) λv s=>Q (.p v) ⟨e1,s.hp,s.cnt⟩) ⟨BC 0 args,h1,c+1⟩):Aq V (.reg rid ops) Q ⟨e,h,c⟩:=by
 intro code hc U a hA;cases code with
 |region id ops' d=>
  simp only[cCode]at hc;obtain⟨l0,hx0,⟨rfl,e0⟩|⟨_,_,_,_,e0⟩⟩:=BM hc
  ·cases e0
   refine wpIn_region ?_;obtain⟨c1,c2⟩:=CM hx0;obtain⟨t1,t2⟩:=Cj i hx0;have hi:i<ops.length:=(y5.1 hyo).1;have hsz:ops.length=ops'.size:=c1.trans (by simp);have hi':i<ops'.size:=by omega
   have ho:ops'[i]? =some ops'[i]:=w7 hi';obtain⟨yo',g1,g2⟩:=c2 i ops'[i] (by simp);rw[hyo]at g1;cases g1
   have hr:List.range ops'.size=List.range' 0 (ops'.toList.take i).length++(i::List.range' (i+1) (ops'.toList.drop (i+1)).length):=by
    have e1:(ops'.toList.take i).length=i:=by simp;omega
    have e2:(ops'.toList.drop (i+1)).length=ops'.size-(i+1):=by simp
    rw[e1,e2,A36,<-A38];have:=List.range'_append_1 (s:=0) (m:=i) (n:=ops'.size-(i+1)+1);rw[A08]at this;rw[this];congr 1;omega
   rw[hr];refine E0 hΓ (cnt:=c) (100*rid) e _ (ops'.toList.take i) 0 (ops.take i) U e e1 h h1 a vc (λ_ _=>rfl) (λj hj=>?_) t1 hex hvc hA.1 (λm hm=>.inl (hA.2.1 m hm)) λa1 σ1 ev1 hI1 hal1 hfar1=>?_
   ·have:j<i:=by simp at hj;omega
    simp[A27,this]
   rw[wpOpsIn_cons];unfold wpOpIn;simp only[ho];obtain⟨hno,k4,k3,vals,hv,hrun⟩:=Jk hI1 g2 hok hca;have hw:=DA hI1.t k4 hg;simp only[hw,if_true];refine⟨λf _=>hΓ.F.fn f,?_⟩;rw[Oper.semAt_eq _ a1.eval _ hno,hrun];refine⟨λh=>by simp[hΓ.F.depth]at h,hΓ.F.calls ((callsIn_wide.1 (Mb hΓ.S hf hcf hnt hn hI1.df.gl hI1.h (cnt:=c+1) (λm hm=>by rcases hal1 m hm with h|h<;>omega) hv (hbody _))).mono ?_)⟩;rintro en w' (⟨v,Z,s,r,rfl,rfl,evτ,hτ,alτ,rv,hK⟩|⟨v,Z,s,rfl,rfl,evτ,hτ,alτ,hq⟩)
   rotate_left
   ·exact⟨Z,⟨e1,s.hp,s.cnt⟩,_,rfl,V.ofE (ev1.trans evτ),⟨⟨hτ,hI1.t.mono evτ,hI1.sz,hI1.df.mono evτ⟩,alτ,V.g hA.2.2 (ev1.trans evτ) λt ht=>.inr (hfar1 t ht)⟩,rfl,hq⟩
   have hd:∀k,ops'[i].dst=some k->k<a1.tmps.size:=by rw[k3];intro d hd;rw[hI1.sz];exact C9 g2 d hd
   have hI2:Inv Z (BQ yo.d r e1) s.hp (a1.put ops'[i].dst v) V.nt V.hb:=by rw[<-k3];exact⟨hτ,(hI1.t.mono evτ).put hd rv,by rw[Act.size_put];exact hI1.sz,by rw[Act.defers_put,DL (λd hd=>C9 g2 d (k3▸hd)) (show V.nt<=dk V.nt from A55 _ _)];exact hI1.df.mono evτ⟩
   exact aL hΓ hx0 e U hA.2.2 n i yo.d e1 r s Z _ hK hi (ev1.trans evτ) hI2 alτ (λt ht=>(DL (C9 g2) ht).trans (hfar1 t ht))
  ·cases e0
 |seq x y=>simp only[cCode]at hc;split at hc<;>simp at hc
 |cond c x y=>simp only[cCode]at hc;split at hc<;>simp at hc
 |rangeFunc f ps x y=>simp only[cCode]at hc;split at hc<;>simp at hc
 |_=>simp[cCode]at hc
section
variable{P:Program}{S:Tab}
theorem OR{nt hb:Nat}(hS:TabOK P S)(n i:Nat){rid:Nat}{ops post:List AOp}{d:Option Nat}{g:Option (Nat×Bool)}{k:AK}{Q:AE->St->Prop}{e e1:Ar}{h h1:Hp}{c:Nat}{vc:Prop}{f:Nat}{args:List AV}{fn:Func}{ac:AC}{rvs:List RV}{ntf:Nat}(hf:P.funcs[f]? =some fn)(hcf:Dj P fn=some (ac,rvs))(hnt:fn.ntmps=ntf)(hok:C0 P f)(hyo:ops[i]? =some ⟨d,g,k⟩)(hpost:ops.drop (i+1)=post)(hex:Bh S (c+1) (100*rid) (ops.take i) e h=some (vc,e1,h1))(hvc:vc)(hg:D8 e1 g=some true)(hca:EG e1 k=some (f,args))(hn:args.length<=ntf)(hbody:∀hb,Aq (Ctx.fn P S ntf hb) ac (Ej rvs (U2 P S rid Q (n+1) i d post e1) λv s=>Q (.p v) ⟨e1,s.hp,s.cnt⟩) ⟨BC 0 args,h1,c+1⟩):Aq (Ctx.fd P S nt hb) (.reg rid ops) Q ⟨e,h,c⟩:=by subst hpost;exact oS (Ctx.fd_ok hS) (n+1) i hf hcf hnt hok hyo hex hvc hg hca hn hbody
theorem OS(n j:Nat){rid i:Nat}{d d2:Option Nat}{g2:Option (Nat×Bool)}{k2:AK}{post post2:List AOp}{Q:AE->St->Prop}{Kp:Value->St->Prop}{rvs:List RV}{e e1 e2:Ar}{h h2:Hp}{c:Nat}{vc vc2:Prop}{xs args:List AV}{f:Nat}{fn:Func}{ac:AC}{rvs2:List RV}{ntf:Nat}(hf:P.funcs[f]? =some fn)(hcf:Dj P fn=some (ac,rvs2))(hnt:fn.ntmps=ntf)(hok:C0 P f)(h1:DK e h rvs=some (vc,xs))(hv:vc)(hyo:post[j]? =some ⟨d2,g2,k2⟩)(hpost:post.drop (j+1)=post2)(hex:Bh S (c+1) (100*rid+(i+1)) (post.take j) (BQ d (one xs) e1) h=some (vc2,e2,h2))(hvc:vc2)(hg:D8 e2 g2=some true)(hca:EG e2 k2=some (f,args))(hn:args.length<=ntf)(hbody:∀hb,Aq (Ctx.fn P S ntf hb) ac (Ej rvs2 (U2 P S rid Q (n+1) (i+1+j) d2 post2 e2) λv s=>Q (.p v) ⟨e2,s.hp,s.cnt⟩) ⟨BC 0 args,h2,c+1⟩):Ej rvs (U2 P S rid Q (n+2) i d post e1) Kp .r ⟨e,h,c⟩:=by subst hpost;exact⟨vc,xs,h1,hv,j,_,vc2,e2,h2,f,args,fn,ac,rvs2,ntf,hyo,hex,hvc,hg,hca,hf,hcf,hnt,hok,hn,hbody⟩
theorem U3(j:Nat){rid i:Nat}{d d2:Option Nat}{g2:Option (Nat×Bool)}{k2:AK}{post post2:List AOp}{Q:AE->St->Prop}{Kp:Value->St->Prop}{rvs:List RV}{e e1 e2:Ar}{h h2:Hp}{c:Nat}{vc vc2:Prop}{xs args:List AV}{f:Nat}{fn:Func}{ac:AC}{rvs2:List RV}{ntf:Nat}(hf:P.funcs[f]? =some fn)(hcf:Dj P fn=some (ac,rvs2))(hnt:fn.ntmps=ntf)(hok:C0 P f)(h1:DK e h rvs=some (vc,xs))(hv:vc)(hyo:post[j]? =some ⟨d2,g2,k2⟩)(hpost:post.drop (j+1)=post2)(hex:Bh S (c+1) (100*rid+(i+1)) (post.take j) (BQ d (one xs) e1) h=some (vc2,e2,h2))(hvc:vc2)(hg:D8 e2 g2=some true)(hca:EG e2 k2=some (f,args))(hn:args.length<=ntf)(hbody:∀hb,Aq (Ctx.fn P S ntf hb) ac (Ej rvs2 (AQ S rid (i+1+j) d2 post2 e2 Q) λv s=>Q (.p v) ⟨e2,s.hp,s.cnt⟩) ⟨BC 0 args,h2,c+1⟩):Ej rvs (U2 P S rid Q 1 i d post e1) Kp .r ⟨e,h,c⟩:=by subst hpost;exact⟨vc,xs,h1,hv,j,_,vc2,e2,h2,f,args,fn,ac,rvs2,ntf,hyo,hex,hvc,hg,hca,hf,hcf,hnt,hok,hn,hbody⟩
end
end
section
attribute [local irreducible] Aq BD Bv A8 Bq Ba AQ Bw By Ck
attribute [local irreducible] Ej
abbrev Aci:AV:=.agg [.i 0,.i 0,.i 0,.i 0,BK [],.i 0,.i 0,.i 0,.i 0,.i 0,.i 0,.i 0,.i 0,.i 0,.b false]
theorem Vu{S:Tab}(hS:TabOK Tryz.prog S){e:Ar}{h:Hp}{c:Nat}(ek:lk e (dk 104)=.gd false (.clo (.func 47) [] [.box (1,1) 0,.box (2,1) 0]))(e2:lk e 2=.box (1,1) 0)(e3:lk e 3=.box (2,1) 0)(hh:(ET (hl h (.c (1,1) 0))&&ET (hl h (.c (1,1) 1))&&ET (hl h (.c (1,1) 2))&&ET (hl h (.c (1,1) 3))&&ET (hl h (.c (1,1) 4))&&ET (hl h (.c (1,1) 5))&&ET (hl h (.c (1,1) 6))&&ET (hl h (.c (1,1) 7))&&ET (hl h (.c (1,1) 8))&&ET (hl h (.c (1,1) 9))&&ET (hl h (.c (1,1) 10))&&ET (hl h (.c (1,1) 11))&&ET (hl h (.c (1,1) 12))&&ET (hl h (.c (1,1) 13))&&ET (hl h (.c (1,1) 14))&&ET (hl h (.c (2,1) 0)))=true):NY Tryz.prog S 104 [.c 2 15 true,.c 3 1 false] (.tup [Aci,.i 170]) (.p Ov) ⟨e,h,c⟩:=by simp only[y8,RU]at hh;obtain⟨⟨⟨⟨⟨⟨⟨⟨⟨⟨⟨⟨⟨⟨⟨⟨c0,h0,k0⟩,⟨c1,h1,k1⟩⟩,⟨c2,h2,k2⟩⟩,⟨c3,h3,k3⟩⟩,⟨c4,h4,k4⟩⟩,⟨c5,h5,k5⟩⟩,⟨c6,h6,k6⟩⟩,⟨c7,h7,k7⟩⟩,⟨c8,h8,k8⟩⟩,⟨c9,h9,k9⟩⟩,⟨c10,h10,k10⟩⟩,⟨c11,h11,k11⟩⟩,⟨c12,h12,k12⟩⟩,⟨c13,h13,k13⟩⟩,⟨c14,h14,k14⟩⟩,⟨c15,h15,k15⟩⟩:=hh;refine⟨_,_,ek,_,_,_,_,_,_,x47.hf,x47.hc,x47.hn,A01 rfl,x47.ok,rfl,λhb2=>?_⟩;dsimp only[x47,Ad,Ov];have hOK2:=Ctx.fd_ok (nt:=16) (hb:=hb2) hS;have F:=fc e2 (fc e3 (fc h15 (fc k15 (fc h14 (fc k14 (fc h13 (fc k13 (fc h12 (fc k12 (fc h11 (fc k11 (fc h10 (fc k10 (fc h9 (fc k9 (fc h8 (fc k8 (fc h7 (fc k7 (fc h6 (fc k6 (fc h5 (fc k5 (fc h4 (fc k4 (fc h3 (fc k3 (fc h2 (fc k2 (fc h1 (fc k1 (fc h0 (fc k0 (f0))))))))))))))))))))))))))))))))));refine go hS F ?_;refine ct F ?_;refine go hS F ?_;refine MB ⟨by simp only[go_sem,seval,F],?_⟩;exact⟨_,_,ev F,by simp only[go_sem,seval,F],by simp only[go_sem,seval,F],.ofD (by simp only[go_sem,seval,F]),rfl⟩
theorem XB{S:Tab}(hS:TabOK Tryz.prog S){e:Ar}{h:Hp}{c:Nat}{r:AV}{vc:Prop}{xs:List AV}(ek:lk e (dk 104)=.gd false (.clo (.func 47) [] [.box (1,1) 0,.box (2,1) 0]))(h1:DK e h [.c 2 15 true,.c 3 1 false]=some (vc,xs))(h2:vc)(h3:FI h (one xs))(h4:Gd (res h (one xs)) r)(h5:BN r=true):NY Tryz.prog S 104 [.c 2 15 true,.c 3 1 false] r .r ⟨e,h,c⟩:=by refine .inr ⟨_,_,ek,_,_,_,_,_,_,x47.hf,x47.hc,x47.hn,A01 rfl,x47.ok,rfl,λhb2=>?_⟩;dsimp only[x47,Ad];have hOK2:=Ctx.fd_ok (nt:=16) (hb:=hb2) hS;have F:=f0;refine go hS F ?_;refine cf F ?_;refine go hS F ?_;refine cf F ?_;refine go hS F ?_;refine MB ⟨by simp only[go_sem,seval,F],?_⟩;exact⟨vc,xs,h1,h2,h3,.ofD h4,h5⟩
theorem Fg{S:Tab}{F G:Prop}{E:Type}{a r:E}(hS:TabOK Tryz.prog S)(f:F)(h:some a=some r)(t:TabOK Tryz.prog S->(r=a/\F)->G:=by
 intro hS f;refine Zv ?_ (Vu hS ?_ ?_ ?_ ?_)
 ·simp only[go_sem,seval,f]<;>eq_refl
 all_goals (simp only[go_sem,seval,f]<;>eq_refl)):G:=t hS ⟨(yJ h).symm,f⟩
theorem Ol{S:Tab}{F G:Prop}{E:Type}{a r:E}(hS:TabOK Tryz.prog S)(f:F)(h:some a=some r)(t:TabOK Tryz.prog S->(r=a/\F)->G:=by
 intro hS f
 repeat' (first
  |(with_reducible (first|apply Dc|apply D2|apply DX|apply EN|apply Dd|apply De|apply Fs|apply Ft);(·(first|exact Ctx.fn_ok hS|exact Ctx.rd_ok hS|assumption|exact yT|exact Ctx.rdG_ok hS));iterate 2 (·(simp only[go_sem,seval,f]<;>eq_refl)))
  |with_reducible (first|apply C8|apply DR|apply CT|apply CU|apply CC|apply Cb|apply Co|apply Dr|apply DF|apply DS|apply DT|apply DU|apply DV)
  |(with_reducible apply DW;(·first|rfl|decide))
  |(with_reducible apply AO;(·simp))
  |with_reducible (first|apply Gs|apply Gt|apply Gu|apply Da|apply Db|apply DZ|apply D0|apply D1|apply yT|apply And.intro yT yT)
  |(fail_if_success with_reducible apply FP);(fail_if_success with_reducible apply DY);first|with_reducible apply And.intro|omega|(simp only[go_sem,seval,f];done)|with_reducible assumption|(refine And.intro ?_ ?_)|(intro hg;simp_all;done)|decide|grind)
 refine XB hS (by simp only[go_sem,seval,f]<;>eq_refl) (by simp only[go_sem,seval,f]<;>eq_refl) (by simp only[go_sem,seval,f]) (by simp only[go_sem,seval,f]) ?_ rfl
 first|(simp only[go_sem,seval,f];done)|(simp[f,Gd,GH,F3,GW,wk];done)):G:=t hS ⟨(yJ h).symm,f⟩
end
attribute [local irreducible] Aq BD Bv A8 Bq Ba AQ Bw By Ck
attribute [local irreducible] Ej
def Lz(N:Nat)(s1:List UInt8):Option ((Int×(Int×Int×Int×(List (Int×Int))×Int×Int)×Int×Int×Int×(Int×Int×Int×Int×Bool))×Int):=(BJ N s1 0).bind λ(r2,r3,r4)=>bif !(decide (r4=0))then(some ((0,(0,0,0,[],0,0),0,0,0,(0,0,0,0,false)),170))else(bif decide (r2=1)then((KJ N s1 r3).bind λ(ee,co,d9)=>bif !(decide (d9=0))then(some ((0,(0,0,0,[],0,0),0,0,0,(0,0,0,0,false)),170))else((DI N ee).bind λ((bi,bh,bg,bf,be,bb),d8)=>bif !(decide (d8=0))then(some ((0,(0,0,0,[],0,0),0,0,0,(0,0,0,0,false)),170))else(gd ((decide (co=(s1.length:Int)))=true->((BB N r2 bi bh bg bf be bb 0 0 0 0 0 0 0 false).isSome=true))<|bif !((decide (co=(s1.length:Int)))&&((BB N r2 bi bh bg bf be bb 0 0 0 0 0 0 0 false).getD false))then(some ((0,(0,0,0,[],0,0),0,0,0,(0,0,0,0,false)),170))else(some ((r2,(bi,bh,bg,bf,be,bb),0,0,0,(0,0,0,0,false)),0)))))else(bif decide (r2=2)then((BJ N s1 r3).bind λ(ba,cn,d7)=>bif !(decide (d7=0))then(some ((0,(0,0,0,[],0,0),0,0,0,(0,0,0,0,false)),170))else(gd ((decide (cn=(s1.length:Int)))=true->((BB N r2 0 0 0 [] 0 0 ba 0 0 0 0 0 0 false).isSome=true))<|bif !((decide (cn=(s1.length:Int)))&&((BB N r2 0 0 0 [] 0 0 ba 0 0 0 0 0 0 false).getD false))then(some ((0,(0,0,0,[],0,0),0,0,0,(0,0,0,0,false)),170))else(some ((r2,(0,0,0,[],0,0),ba,0,0,(0,0,0,0,false)),0))))else(bif decide (r2=6)then((BJ N s1 r3).bind λ(az,ck,d6)=>bif !(decide (d6=0))then(some ((0,(0,0,0,[],0,0),0,0,0,(0,0,0,0,false)),170))else(gd ((decide (ck=(s1.length:Int)))=true->((BB N r2 0 0 0 [] 0 0 az 0 0 0 0 0 0 false).isSome=true))<|bif !((decide (ck=(s1.length:Int)))&&((BB N r2 0 0 0 [] 0 0 az 0 0 0 0 0 0 false).getD false))then(some ((0,(0,0,0,[],0,0),0,0,0,(0,0,0,0,false)),170))else(some ((r2,(0,0,0,[],0,0),az,0,0,(0,0,0,0,false)),0))))else(bif decide (r2=7)then((BJ N s1 r3).bind λ(ay,cj,d5)=>bif !(decide (d5=0))then(some ((0,(0,0,0,[],0,0),0,0,0,(0,0,0,0,false)),170))else(gd ((decide (cj=(s1.length:Int)))=true->((BB N r2 0 0 0 [] 0 0 ay 0 0 0 0 0 0 false).isSome=true))<|bif !((decide (cj=(s1.length:Int)))&&((BB N r2 0 0 0 [] 0 0 ay 0 0 0 0 0 0 false).getD false))then(some ((0,(0,0,0,[],0,0),0,0,0,(0,0,0,0,false)),170))else(some ((r2,(0,0,0,[],0,0),ay,0,0,(0,0,0,0,false)),0))))else(bif decide (r2=3)then((BJ N s1 r3).bind λ(aw,dz,dy)=>bif !(decide (dy=0))then(some ((0,(0,0,0,[],0,0),0,0,0,(0,0,0,0,false)),170))else((BJ N s1 dz).bind λ(av,dx,dw)=>bif !(decide (dw=0))then(some ((0,(0,0,0,[],0,0),0,0,0,(0,0,0,0,false)),170))else((BJ N s1 dx).bind λ(au,du,dt)=>bif !(decide (dt=0))then(some ((0,(0,0,0,[],0,0),0,0,0,(0,0,0,0,false)),170))else((BJ N s1 du).bind λ(aq,ci,dq)=>bif !(decide (dq=0))then(some ((0,(0,0,0,[],0,0),0,0,0,(0,0,0,0,false)),170))else(gd ((decide (ci=(s1.length:Int)))=true->((BB N r2 aq 0 0 [] 0 0 aw av au 0 0 0 0 false).isSome=true))<|bif !((decide (ci=(s1.length:Int)))&&((BB N r2 aq 0 0 [] 0 0 aw av au 0 0 0 0 false).getD false))then(some ((0,(0,0,0,[],0,0),0,0,0,(0,0,0,0,false)),170))else(some ((r2,(aq,0,0,[],0,0),aw,av,au,(0,0,0,0,false)),0)))))))else(bif decide (r2=4)then((BJ N s1 r3).bind λ(ak,ce,b9)=>bif !(decide (b9=0))then(some ((0,(0,0,0,[],0,0),0,0,0,(0,0,0,0,false)),170))else((BJ N s1 ce).bind λ(aj,b7,bz)=>bif !(decide (bz=0))then(some ((0,(0,0,0,[],0,0),0,0,0,(0,0,0,0,false)),170))else((BJ N s1 b7).bind λ(ai,an,bw)=>bif !(decide (bw=0))then(some ((0,(0,0,0,[],0,0),0,0,0,(0,0,0,0,false)),170))else(gd ((decide (an=(s1.length:Int)))=true->((BB N r2 0 0 0 [] 0 0 ak aj ai 0 0 0 0 false).isSome=true))<|bif !((decide (an=(s1.length:Int)))&&((BB N r2 0 0 0 [] 0 0 ak aj ai 0 0 0 0 false).getD false))then(some ((0,(0,0,0,[],0,0),0,0,0,(0,0,0,0,false)),170))else(some ((r2,(0,0,0,[],0,0),ak,aj,ai,(0,0,0,0,false)),0))))))else(bif decide (r2=5)then((BJ N s1 r3).bind λ(ah,bv,bu)=>bif !(decide (bu=0))then(some ((0,(0,0,0,[],0,0),0,0,0,(0,0,0,0,false)),170))else((BJ N s1 bv).bind λ(af,br,bq)=>bif !(decide (bq=0))then(some ((0,(0,0,0,[],0,0),0,0,0,(0,0,0,0,false)),170))else((BJ N s1 br).bind λ(ae,bp,bo)=>bif !(decide (bo=0))then(some ((0,(0,0,0,[],0,0),0,0,0,(0,0,0,0,false)),170))else((BJ N s1 bp).bind λ(ab,bn,bm)=>bif !(decide (bm=0))then(some ((0,(0,0,0,[],0,0),0,0,0,(0,0,0,0,false)),170))else((BJ N s1 bn).bind λ(aa,am,bl)=>bif !(decide (bl=0))then(some ((0,(0,0,0,[],0,0),0,0,0,(0,0,0,0,false)),170))else((Bs N aa 0 1).bind λbj=>bif !bj then(some ((0,(0,0,0,[],0,0),0,0,0,(0,0,0,0,false)),170))else(gd ((decide (am=(s1.length:Int)))=true->((BB N r2 0 0 0 [] 0 0 0 0 0 ah af ae ab (decide (aa=1))).isSome=true))<|bif !((decide (am=(s1.length:Int)))&&((BB N r2 0 0 0 [] 0 0 0 0 0 ah af ae ab (decide (aa=1))).getD false))then(some ((0,(0,0,0,[],0,0),0,0,0,(0,0,0,0,false)),170))else(some ((r2,(0,0,0,[],0,0),0,0,0,(ah,af,ae,ab,decide (aa=1))),0)))))))))else(gd ((decide (r3=(s1.length:Int)))=true->((BB N r2 0 0 0 [] 0 0 0 0 0 0 0 0 0 false).isSome=true))<|bif !((decide (r3=(s1.length:Int)))&&((BB N r2 0 0 0 [] 0 0 0 0 0 0 0 0 0 false).getD false))then(some ((0,(0,0,0,[],0,0),0,0,0,(0,0,0,0,false)),170))else(some ((r2,(0,0,0,[],0,0),0,0,0,(0,0,0,0,false)),0))))))))))
@[go_sem] def s35(N:Nat):Spec:=p0<|(qT<|qE<|qF ((0,(0,0,0,[],0,0),0,0,0,(0,0,0,0,false)),0) λr=>.tup [.agg [.i r.1.1,.i r.1.2.1.1,.i r.1.2.1.2.1,.i r.1.2.1.2.2.1,BK r.1.2.1.2.2.2.1,.i r.1.2.1.2.2.2.2.1,.i r.1.2.1.2.2.2.2.2,.i r.1.2.2.1,.i r.1.2.2.2.1,.i r.1.2.2.2.2.1,.i r.1.2.2.2.2.2.1,.i r.1.2.2.2.2.2.2.1,.i r.1.2.2.2.2.2.2.2.1,.i r.1.2.2.2.2.2.2.2.2.1,.b r.1.2.2.2.2.2.2.2.2.2],.i r.2]) (Lz N)
theorem Aau(N:Nat):Au Tryz.prog 18 (s35 N):=by
 refine fk (wD iT (Aa (XE N)<|Aa (AaI N)<|Aa (Aa2 N)<|Aa (Pk N)<|Aa (kL N)<|Ae)) ?_;intro s1 r h hb hS F;dsimp only[iT,Ad];have hOK:=Ctx.fd_ok (nt:=104) (hb:=hb) hS;unfold Lz at h;refine go hS F ?_;refine H8 hS 1 rfl rfl (ev F) yT (ev F) (ev F) ?_;refine go hS F ?_;refine Bu hS 1 x48.hf x48.hc x48.hn x48.ok rfl (ev F) (ev F) ?_ rfl (ev F) (A01 rfl) λhb=>?_
 ·exact AS hS F
 dsimp only[x48,Ad];obtain⟨⟨r2,r3,r4⟩,gc,h⟩:=un h;replace F:=fc gc F;refine go hS F ?_;refine AM hS 2 x50.hf x50.hc x50.hn x50.ok rfl (ev F) (ev F) ?_ rfl (ev F) (A01 rfl) λhb=>?_
 ·exact AS hS F
 dsimp only[x50,Ad];refine An hS F h (λ_ h=>?_) (λ_ h=>?_)
 ·refine go hS F ?_;refine A1 (Ctx.fn_ok hS) 2 rfl rfl (ev F) (ev F) (ev F) ?_
  repeat' (first|with_reducible (first|apply AT|apply AU|apply A2|apply AD|apply Bi)|((with_reducible apply AO);(·simp)))
  exact Fg hS F h
 ·refine An hS F h (λfp h=>?_) (λfp h=>?_)
  ·replace F:=fc fp F;obtain⟨⟨ee,co,d9⟩,fg,h⟩:=un h;replace F:=fc fg F;refine go hS F ?_;refine Bu hS 2 x50.hf x50.hc x50.hn x50.ok rfl (ev F) (ev F) ?_ rfl (ev F) (A01 rfl) λhb=>?_
   ·exact AS hS F
   dsimp only[x50,Ad];refine An hS F h (λ_ h=>?_) (λ_ h=>?_)
   ·refine go hS F ?_;refine A1 (Ctx.fn_ok hS) 2 rfl rfl (ev F) (ev F) (ev F) ?_
    repeat' (first|with_reducible (first|apply AT|apply AU|apply A2|apply AD|apply Bi)|((with_reducible apply AO);(·simp)))
    exact Fg hS F h
   ·obtain⟨⟨⟨bi,bh,bg,bf,be,bb⟩,d8⟩,e9,h⟩:=un h;replace F:=fc e9 F;refine go hS F ?_;refine Bu hS 2 x50.hf x50.hc x50.hn x50.ok rfl (ev F) (ev F) ?_ rfl (ev F) (A01 rfl) λhb=>?_
    ·exact AS hS F
    dsimp only[x50,Ad];refine An hS F h (λ_ h=>?_) (λ_ h=>?_)
    ·refine go hS F ?_;refine A1 (Ctx.fn_ok hS) 2 rfl rfl (ev F) (ev F) (ev F) ?_
     repeat' (first|with_reducible (first|apply AT|apply AU|apply A2|apply AD|apply Bi)|((with_reducible apply AO);(·simp)))
     exact Fg hS F h
    ·obtain⟨gi,h⟩:=un h;refine go hS F ?_;refine Bu hS 8 x50.hf x50.hc x50.hn x50.ok rfl (ev F) (ev F) ?_ rfl (ev F) (A01 rfl) λhb=>?_
     ·exact AS hS F
     dsimp only[x50,Ad];refine An hS F h (λ_ h=>?_) (λ_ h=>?_)
     ·refine go hS F ?_;refine A1 (Ctx.fn_ok hS) 2 rfl rfl (ev F) (ev F) (ev F) ?_
      repeat' (first|with_reducible (first|apply AT|apply AU|apply A2|apply AD|apply Bi)|((with_reducible apply AO);(·simp)))
      exact Fg hS F h
     ·exact Ol hS F h
  ·replace F:=fc fp F;refine An hS F h (λfo h=>?_) (λfo h=>?_)
   ·replace F:=fc fo F;refine Jg hS F ?_;refine go hS F ?_;refine Bu hS 1 x48.hf x48.hc x48.hn x48.ok rfl (ev F) (ev F) ?_ rfl (ev F) (A01 rfl) λhb=>?_
    ·exact AS hS F
    dsimp only[x48,Ad];obtain⟨⟨ba,cn,d7⟩,e8,h⟩:=un h;replace F:=fc e8 F;refine go hS F ?_;refine AM hS 2 x50.hf x50.hc x50.hn x50.ok rfl (ev F) (ev F) ?_ rfl (ev F) (A01 rfl) λhb=>?_
    ·exact AS hS F
    dsimp only[x50,Ad];refine An hS F h (λ_ h=>?_) (λ_ h=>?_)
    ·refine go hS F ?_;refine A1 (Ctx.fn_ok hS) 2 rfl rfl (ev F) (ev F) (ev F) ?_
     repeat' (first|with_reducible (first|apply AT|apply AU|apply A2|apply AD|apply Bi)|((with_reducible apply AO);(·simp)))
     exact Fg hS F h
    ·obtain⟨gh,h⟩:=un h;refine go hS F ?_;refine Bu hS 8 x50.hf x50.hc x50.hn x50.ok rfl (ev F) (ev F) ?_ rfl (ev F) (A01 rfl) λhb=>?_
     ·exact AS hS F
     dsimp only[x50,Ad];refine An hS F h (λ_ h=>?_) (λ_ h=>?_)
     ·refine go hS F ?_;refine A1 (Ctx.fn_ok hS) 2 rfl rfl (ev F) (ev F) (ev F) ?_
      repeat' (first|with_reducible (first|apply AT|apply AU|apply A2|apply AD|apply Bi)|((with_reducible apply AO);(·simp)))
      exact Fg hS F h
     ·exact Ol hS F h
   ·replace F:=fc fo F;refine An hS F h (λfm h=>?_) (λfm h=>?_)
    ·replace F:=fc fm F;refine Jg hS F ?_;refine go hS F ?_;refine Bu hS 1 x48.hf x48.hc x48.hn x48.ok rfl (ev F) (ev F) ?_ rfl (ev F) (A01 rfl) λhb=>?_
     ·exact AS hS F
     dsimp only[x48,Ad];obtain⟨⟨az,ck,d6⟩,ez,h⟩:=un h;replace F:=fc ez F;refine go hS F ?_;refine AM hS 2 x50.hf x50.hc x50.hn x50.ok rfl (ev F) (ev F) ?_ rfl (ev F) (A01 rfl) λhb=>?_
     ·exact AS hS F
     dsimp only[x50,Ad];refine An hS F h (λ_ h=>?_) (λ_ h=>?_)
     ·refine go hS F ?_;refine A1 (Ctx.fn_ok hS) 2 rfl rfl (ev F) (ev F) (ev F) ?_
      repeat' (first|with_reducible (first|apply AT|apply AU|apply A2|apply AD|apply Bi)|((with_reducible apply AO);(·simp)))
      exact Fg hS F h
     ·obtain⟨gg,h⟩:=un h;refine go hS F ?_;refine Bu hS 8 x50.hf x50.hc x50.hn x50.ok rfl (ev F) (ev F) ?_ rfl (ev F) (A01 rfl) λhb=>?_
      ·exact AS hS F
      dsimp only[x50,Ad];refine An hS F h (λ_ h=>?_) (λ_ h=>?_)
      ·refine go hS F ?_;refine A1 (Ctx.fn_ok hS) 2 rfl rfl (ev F) (ev F) (ev F) ?_
       repeat' (first|with_reducible (first|apply AT|apply AU|apply A2|apply AD|apply Bi)|((with_reducible apply AO);(·simp)))
       exact Fg hS F h
      ·exact Ol hS F h
    ·replace F:=fc fm F;refine An hS F h (λfj h=>?_) (λfj h=>?_)
     ·replace F:=fc fj F;refine go hS F ?_;refine Bu hS 1 x48.hf x48.hc x48.hn x48.ok rfl (ev F) (ev F) ?_ rfl (ev F) (A01 rfl) λhb=>?_
      ·exact AS hS F
      dsimp only[x48,Ad];obtain⟨⟨ay,cj,d5⟩,eu,h⟩:=un h;replace F:=fc eu F;refine go hS F ?_;refine AM hS 2 x50.hf x50.hc x50.hn x50.ok rfl (ev F) (ev F) ?_ rfl (ev F) (A01 rfl) λhb=>?_
      ·exact AS hS F
      dsimp only[x50,Ad];refine An hS F h (λ_ h=>?_) (λ_ h=>?_)
      ·refine go hS F ?_;refine A1 (Ctx.fn_ok hS) 2 rfl rfl (ev F) (ev F) (ev F) ?_
       repeat' (first|with_reducible (first|apply AT|apply AU|apply A2|apply AD|apply Bi)|((with_reducible apply AO);(·simp)))
       exact Fg hS F h
      ·obtain⟨ge,h⟩:=un h;refine go hS F ?_;refine Bu hS 8 x50.hf x50.hc x50.hn x50.ok rfl (ev F) (ev F) ?_ rfl (ev F) (A01 rfl) λhb=>?_
       ·exact AS hS F
       dsimp only[x50,Ad];refine An hS F h (λ_ h=>?_) (λ_ h=>?_)
       ·refine go hS F ?_;refine A1 (Ctx.fn_ok hS) 2 rfl rfl (ev F) (ev F) (ev F) ?_
        repeat' (first|with_reducible (first|apply AT|apply AU|apply A2|apply AD|apply Bi)|((with_reducible apply AO);(·simp)))
        exact Fg hS F h
       ·exact Ol hS F h
     ·replace F:=fc fj F;refine An hS F h (λfh h=>?_) (λfh h=>?_)
      ·replace F:=fc fh F;refine go hS F ?_;refine OR hS 2 1 x48.hf x48.hc x48.hn x48.ok rfl (ev F) (ev F) ?_ rfl (ev F) (A01 rfl) λhb=>?_
       ·exact AS hS F
       dsimp only[x48,Ad];obtain⟨⟨aw,dz,dy⟩,ep,h⟩:=un h;replace F:=fc ep F;refine go hS F ?_;refine AM hS 2 x50.hf x50.hc x50.hn x50.ok rfl (ev F) (ev F) ?_ rfl (ev F) (A01 rfl) λhb=>?_
       ·exact AS hS F
       dsimp only[x50,Ad];refine An hS F h (λ_ h=>?_) (λ_ h=>?_)
       ·refine go hS F ?_;refine A1 (Ctx.fn_ok hS) 2 rfl rfl (ev F) (ev F) (ev F) ?_
        repeat' (first|with_reducible (first|apply AT|apply AU|apply A2|apply AD|apply Bi)|((with_reducible apply AO);(·simp)))
        exact Fg hS F h
       ·refine go hS F ?_;refine OS 1 1 x48.hf x48.hc x48.hn x48.ok (ev F) ?_ rfl (ev F) (ev F) ?_ rfl (ev F) (A01 rfl) λhb=>?_
        ·exact AS hS F
        ·exact AS hS F
        dsimp only[x48,Ad];obtain⟨⟨av,dx,dw⟩,el,h⟩:=un h;replace F:=fc el F;refine go hS F ?_;refine AM hS 2 x50.hf x50.hc x50.hn x50.ok rfl (ev F) (ev F) ?_ rfl (ev F) (A01 rfl) λhb=>?_
        ·exact AS hS F
        dsimp only[x50,Ad];refine An hS F h (λ_ h=>?_) (λ_ h=>?_)
        ·refine go hS F ?_;refine A1 (Ctx.fn_ok hS) 2 rfl rfl (ev F) (ev F) (ev F) ?_
         repeat' (first|with_reducible (first|apply AT|apply AU|apply A2|apply AD|apply Bi)|((with_reducible apply AO);(·simp)))
         exact Fg hS F h
        ·refine go hS F ?_;refine OS 0 1 x48.hf x48.hc x48.hn x48.ok (ev F) ?_ rfl (ev F) (ev F) ?_ rfl (ev F) (A01 rfl) λhb=>?_
         ·exact AS hS F
         ·exact AS hS F
         dsimp only[x48,Ad];obtain⟨⟨au,du,dt⟩,ej,h⟩:=un h;replace F:=fc ej F;refine go hS F ?_;refine AM hS 2 x50.hf x50.hc x50.hn x50.ok rfl (ev F) (ev F) ?_ rfl (ev F) (A01 rfl) λhb=>?_
         ·exact AS hS F
         dsimp only[x50,Ad];refine An hS F h (λ_ h=>?_) (λ_ h=>?_)
         ·refine go hS F ?_;refine A1 (Ctx.fn_ok hS) 2 rfl rfl (ev F) (ev F) (ev F) ?_
          repeat' (first|with_reducible (first|apply AT|apply AU|apply A2|apply AD|apply Bi)|((with_reducible apply AO);(·simp)))
          exact Fg hS F h
         ·refine go hS F ?_;refine U3 1 x48.hf x48.hc x48.hn x48.ok (ev F) ?_ rfl (ev F) (ev F) ?_ rfl (ev F) (A01 rfl) λhb=>?_
          ·exact AS hS F
          ·exact AS hS F
          dsimp only[x48,Ad];obtain⟨⟨aq,ci,dq⟩,eh,h⟩:=un h;replace F:=fc eh F;refine go hS F ?_;refine AM hS 2 x50.hf x50.hc x50.hn x50.ok rfl (ev F) (ev F) ?_ rfl (ev F) (A01 rfl) λhb=>?_
          ·exact AS hS F
          dsimp only[x50,Ad];refine An hS F h (λ_ h=>?_) (λ_ h=>?_)
          ·refine go hS F ?_;refine A1 (Ctx.fn_ok hS) 2 rfl rfl (ev F) (ev F) (ev F) ?_
           repeat' (first|with_reducible (first|apply AT|apply AU|apply A2|apply AD|apply Bi)|((with_reducible apply AO);(·simp)))
           exact Fg hS F h
          ·obtain⟨fy,h⟩:=un h;refine go hS F ?_;refine Bu hS 8 x50.hf x50.hc x50.hn x50.ok rfl (ev F) (ev F) ?_ rfl (ev F) (A01 rfl) λhb=>?_
           ·exact AS hS F
           dsimp only[x50,Ad];refine An hS F h (λ_ h=>?_) (λ_ h=>?_)
           ·refine go hS F ?_;refine A1 (Ctx.fn_ok hS) 2 rfl rfl (ev F) (ev F) (ev F) ?_
            repeat' (first|with_reducible (first|apply AT|apply AU|apply A2|apply AD|apply Bi)|((with_reducible apply AO);(·simp)))
            exact Fg hS F h
           ·exact Ol hS F h
      ·replace F:=fc fh F;refine An hS F h (λdm h=>?_) (λdm h=>?_)
       ·replace F:=fc dm F;refine go hS F ?_;refine OR hS 1 1 x48.hf x48.hc x48.hn x48.ok rfl (ev F) (ev F) ?_ rfl (ev F) (A01 rfl) λhb=>?_
        ·exact AS hS F
        dsimp only[x48,Ad];obtain⟨⟨ak,ce,b9⟩,dh,h⟩:=un h;replace F:=fc dh F;refine go hS F ?_;refine AM hS 2 x50.hf x50.hc x50.hn x50.ok rfl (ev F) (ev F) ?_ rfl (ev F) (A01 rfl) λhb=>?_
        ·exact AS hS F
        dsimp only[x50,Ad];refine An hS F h (λ_ h=>?_) (λ_ h=>?_)
        ·refine go hS F ?_;refine A1 (Ctx.fn_ok hS) 2 rfl rfl (ev F) (ev F) (ev F) ?_
         repeat' (first|with_reducible (first|apply AT|apply AU|apply A2|apply AD|apply Bi)|((with_reducible apply AO);(·simp)))
         exact Fg hS F h
        ·refine go hS F ?_;refine OS 0 1 x48.hf x48.hc x48.hn x48.ok (ev F) ?_ rfl (ev F) (ev F) ?_ rfl (ev F) (A01 rfl) λhb=>?_
         ·exact AS hS F
         ·exact AS hS F
         dsimp only[x48,Ad];obtain⟨⟨aj,b7,bz⟩,dg,h⟩:=un h;replace F:=fc dg F;refine go hS F ?_;refine AM hS 2 x50.hf x50.hc x50.hn x50.ok rfl (ev F) (ev F) ?_ rfl (ev F) (A01 rfl) λhb=>?_
         ·exact AS hS F
         dsimp only[x50,Ad];refine An hS F h (λ_ h=>?_) (λ_ h=>?_)
         ·refine go hS F ?_;refine A1 (Ctx.fn_ok hS) 2 rfl rfl (ev F) (ev F) (ev F) ?_
          repeat' (first|with_reducible (first|apply AT|apply AU|apply A2|apply AD|apply Bi)|((with_reducible apply AO);(·simp)))
          exact Fg hS F h
         ·refine go hS F ?_;refine U3 1 x48.hf x48.hc x48.hn x48.ok (ev F) ?_ rfl (ev F) (ev F) ?_ rfl (ev F) (A01 rfl) λhb=>?_
          ·exact AS hS F
          ·exact AS hS F
          dsimp only[x48,Ad];obtain⟨⟨ai,an,bw⟩,de,h⟩:=un h;replace F:=fc de F;refine go hS F ?_;refine AM hS 2 x50.hf x50.hc x50.hn x50.ok rfl (ev F) (ev F) ?_ rfl (ev F) (A01 rfl) λhb=>?_
          ·exact AS hS F
          dsimp only[x50,Ad];refine An hS F h (λ_ h=>?_) (λ_ h=>?_)
          ·refine go hS F ?_;refine A1 (Ctx.fn_ok hS) 2 rfl rfl (ev F) (ev F) (ev F) ?_
           repeat' (first|with_reducible (first|apply AT|apply AU|apply A2|apply AD|apply Bi)|((with_reducible apply AO);(·simp)))
           exact Fg hS F h
          ·obtain⟨fx,h⟩:=un h;refine go hS F ?_;refine Bu hS 8 x50.hf x50.hc x50.hn x50.ok rfl (ev F) (ev F) ?_ rfl (ev F) (A01 rfl) λhb=>?_
           ·exact AS hS F
           dsimp only[x50,Ad];refine An hS F h (λ_ h=>?_) (λ_ h=>?_)
           ·refine go hS F ?_;refine A1 (Ctx.fn_ok hS) 2 rfl rfl (ev F) (ev F) (ev F) ?_
            repeat' (first|with_reducible (first|apply AT|apply AU|apply A2|apply AD|apply Bi)|((with_reducible apply AO);(·simp)))
            exact Fg hS F h
           ·exact Ol hS F h
       ·replace F:=fc dm F;refine An hS F h (λdl h=>?_) (λdl h=>?_)
        ·replace F:=fc dl F;refine go hS F ?_;refine OR hS 2 1 x48.hf x48.hc x48.hn x48.ok rfl (ev F) (ev F) ?_ rfl (ev F) (A01 rfl) λhb=>?_
         ·exact AS hS F
         dsimp only[x48,Ad];obtain⟨⟨ah,bv,bu⟩,db,h⟩:=un h;replace F:=fc db F;refine go hS F ?_;refine AM hS 2 x50.hf x50.hc x50.hn x50.ok rfl (ev F) (ev F) ?_ rfl (ev F) (A01 rfl) λhb=>?_
         ·exact AS hS F
         dsimp only[x50,Ad];refine An hS F h (λ_ h=>?_) (λ_ h=>?_)
         ·refine go hS F ?_;refine A1 (Ctx.fn_ok hS) 2 rfl rfl (ev F) (ev F) (ev F) ?_
          repeat' (first|with_reducible (first|apply AT|apply AU|apply A2|apply AD|apply Bi)|((with_reducible apply AO);(·simp)))
          exact Fg hS F h
         ·refine go hS F ?_;refine OS 1 1 x48.hf x48.hc x48.hn x48.ok (ev F) ?_ rfl (ev F) (ev F) ?_ rfl (ev F) (A01 rfl) λhb=>?_
          ·exact AS hS F
          ·exact AS hS F
          dsimp only[x48,Ad];obtain⟨⟨af,br,bq⟩,da,h⟩:=un h;replace F:=fc da F;refine go hS F ?_;refine AM hS 2 x50.hf x50.hc x50.hn x50.ok rfl (ev F) (ev F) ?_ rfl (ev F) (A01 rfl) λhb=>?_
          ·exact AS hS F
          dsimp only[x50,Ad];refine An hS F h (λ_ h=>?_) (λ_ h=>?_)
          ·refine go hS F ?_;refine A1 (Ctx.fn_ok hS) 2 rfl rfl (ev F) (ev F) (ev F) ?_
           repeat' (first|with_reducible (first|apply AT|apply AU|apply A2|apply AD|apply Bi)|((with_reducible apply AO);(·simp)))
           exact Fg hS F h
          ·refine go hS F ?_;refine OS 0 1 x48.hf x48.hc x48.hn x48.ok (ev F) ?_ rfl (ev F) (ev F) ?_ rfl (ev F) (A01 rfl) λhb=>?_
           ·exact AS hS F
           ·exact AS hS F
           dsimp only[x48,Ad];obtain⟨⟨ae,bp,bo⟩,cy,h⟩:=un h;replace F:=fc cy F;refine go hS F ?_;refine AM hS 2 x50.hf x50.hc x50.hn x50.ok rfl (ev F) (ev F) ?_ rfl (ev F) (A01 rfl) λhb=>?_
           ·exact AS hS F
           dsimp only[x50,Ad];refine An hS F h (λ_ h=>?_) (λ_ h=>?_)
           ·refine go hS F ?_;refine A1 (Ctx.fn_ok hS) 2 rfl rfl (ev F) (ev F) (ev F) ?_
            repeat' (first|with_reducible (first|apply AT|apply AU|apply A2|apply AD|apply Bi)|((with_reducible apply AO);(·simp)))
            exact Fg hS F h
           ·refine go hS F ?_;refine U3 1 x48.hf x48.hc x48.hn x48.ok (ev F) ?_ rfl (ev F) (ev F) ?_ rfl (ev F) (A01 rfl) λhb=>?_
            ·exact AS hS F
            ·exact AS hS F
            dsimp only[x48,Ad];obtain⟨⟨ab,bn,bm⟩,cu,h⟩:=un h;replace F:=fc cu F;refine go hS F ?_;refine AM hS 2 x50.hf x50.hc x50.hn x50.ok rfl (ev F) (ev F) ?_ rfl (ev F) (A01 rfl) λhb=>?_
            ·exact AS hS F
            dsimp only[x50,Ad];refine An hS F h (λ_ h=>?_) (λ_ h=>?_)
            ·refine go hS F ?_;refine A1 (Ctx.fn_ok hS) 2 rfl rfl (ev F) (ev F) (ev F) ?_
             repeat' (first|with_reducible (first|apply AT|apply AU|apply A2|apply AD|apply Bi)|((with_reducible apply AO);(·simp)))
             exact Fg hS F h
            ·refine go hS F ?_;refine Bu hS 1 x48.hf x48.hc x48.hn x48.ok rfl (ev F) (ev F) ?_ rfl (ev F) (A01 rfl) λhb=>?_
             ·exact AS hS F
             dsimp only[x48,Ad];obtain⟨⟨aa,am,bl⟩,cr,h⟩:=un h;replace F:=fc cr F;refine go hS F ?_;refine AM hS 2 x50.hf x50.hc x50.hn x50.ok rfl (ev F) (ev F) ?_ rfl (ev F) (A01 rfl) λhb=>?_
             ·exact AS hS F
             dsimp only[x50,Ad];refine An hS F h (λ_ h=>?_) (λ_ h=>?_)
             ·refine go hS F ?_;refine A1 (Ctx.fn_ok hS) 2 rfl rfl (ev F) (ev F) (ev F) ?_
              repeat' (first|with_reducible (first|apply AT|apply AU|apply A2|apply AD|apply Bi)|((with_reducible apply AO);(·simp)))
              exact Fg hS F h
             ·obtain⟨bj,cq,h⟩:=un h;replace F:=fc cq F;refine go hS F ?_;refine Bu hS 2 x50.hf x50.hc x50.hn x50.ok rfl (ev F) (ev F) ?_ rfl (ev F) (A01 rfl) λhb=>?_
              ·exact AS hS F
              dsimp only[x50,Ad];refine An hS F h (λ_ h=>?_) (λ_ h=>?_)
              ·refine go hS F ?_;refine A1 (Ctx.fn_ok hS) 2 rfl rfl (ev F) (ev F) (ev F) ?_
               repeat' (first|with_reducible (first|apply AT|apply AU|apply A2|apply AD|apply Bi)|((with_reducible apply AO);(·simp)))
               exact Fg hS F h
              ·obtain⟨fr,h⟩:=un h;refine go hS F ?_;refine Bu hS 8 x50.hf x50.hc x50.hn x50.ok rfl (ev F) (ev F) ?_ rfl (ev F) (A01 rfl) λhb=>?_
               ·exact AS hS F
               dsimp only[x50,Ad];refine An hS F h (λ_ h=>?_) (λ_ h=>?_)
               ·refine go hS F ?_;refine A1 (Ctx.fn_ok hS) 2 rfl rfl (ev F) (ev F) (ev F) ?_
                repeat' (first|with_reducible (first|apply AT|apply AU|apply A2|apply AD|apply Bi)|((with_reducible apply AO);(·simp)))
                exact Fg hS F h
               ·exact Ol hS F h
        ·replace F:=fc dl F;obtain⟨fq,h⟩:=un h;refine go hS F ?_;refine Bu hS 8 x50.hf x50.hc x50.hn x50.ok rfl (ev F) (ev F) ?_ rfl (ev F) (A01 rfl) λhb=>?_
         ·exact AS hS F
         dsimp only[x50,Ad];refine An hS F h (λ_ h=>?_) (λ_ h=>?_)
         ·refine go hS F ?_;refine A1 (Ctx.fn_ok hS) 2 rfl rfl (ev F) (ev F) (ev F) ?_
          repeat' (first|with_reducible (first|apply AT|apply AU|apply A2|apply AD|apply Bi)|((with_reducible apply AO);(·simp)))
          exact Fg hS F h
         ·exact Ol hS F h
