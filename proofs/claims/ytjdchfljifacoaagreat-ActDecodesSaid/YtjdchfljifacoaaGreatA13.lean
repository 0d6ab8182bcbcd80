import Derived.Test.YtjdchfljifacoaaGreatA11
set_option linter.all false
namespace Go.Proofs.YtjdchfljifacoaaGreat.Am
open Go
section
variable{V:Ctx}
theorem TQ(hΓ:V.OK){ops':Array Oper}{ops:List AOp}{WQ:Exit->Act->World->Prop}(bs:Nat)(e0:Az)(hx0:GZ V.P V.nt ops' ops'.toList=some ops)(k i:Nat)(hki:k<=i){yo:AOp}{K:AV->St->Prop}{U:Cf}{a:Act}{e e1:Az}{h h1:Hp}{c:Nat}{vc:Prop}{f:Nat}{args:List AV}{fn:Func}{ac:AC}{rvs:List RV}{ntf:Nat}(hf:V.P.funcs[f]? =some fn)(hcf:Du V.P fn=some (ac,rvs))(hnt:fn.ntmps=ntf)(hok:Dh V.P f)(hyo:ops[i]? =some yo)(hex:Bg V.S (c+1) (bs+k) ((ops.drop k).take (i-k)) e h=some (vc,e1,h1))(hvc:vc)(hg:Ei e1 yo.g=some true)(hca:EU e1 yo.k=some (f,args))(hn:args.length<=ntf)(hbody:∀hb,Ax (Ctx.fn V.P V.S ntf hb) ac (Bk rvs K) ⟨BQ 0 args,h1,c+1⟩)(hgl:∀t,V.nt<=t->lk e t=lk e0 t)(hI:Inv U e h a V.nt V.hb)(hal:∀m,U.al m->m.2<=c\/(m.2=c+1/\m.1<bs+k))(hrest:∀Z a' r s,Evo U Z->Inv Z (BV yo.d r e1) s.hp a' V.nt V.hb->(∀m,Z.al m->m.2<=s.cnt)->(∀t,V.nt<=t->lk (BV yo.d r e1) t=lk e0 t)->K r s->wpOpsIn V.F 0 V.P ops' WQ (List.range' (i+1) (ops'.size-(i+1))) a' Z.w):wpOpsIn V.F 0 V.P ops' WQ (List.range' k (ops'.size-k)) a U.w:=by
 obtain⟨c1,c2⟩:=C9 hx0;obtain⟨_,t0⟩:=CE k hx0;obtain⟨t1,_⟩:=CE (i-k) t0;have hi:i<ops.length:=(fO.1 hyo).1;have hsz:ops.length=ops'.size:=c1.trans (by simp);have hi':i<ops'.size:=by omega
 have ho:ops'[i]? =some ops'[i]:=eR hi';obtain⟨yo',g1,g2⟩:=c2 i ops'[i] (by simp);rw[hyo]at g1;cases g1
 have hlen:((ops'.toList.drop k).take (i-k)).length=i-k:=by simp;omega
 have hr:List.range' k (ops'.size-k)=List.range' k ((ops'.toList.drop k).take (i-k)).length++(i::List.range' (i+1) (ops'.size-(i+1))):=by rw[hlen,<-vG];have:=List.range'_append_1 (s:=k) (m:=i-k) (n:=ops'.size-(i+1)+1);rw[show k+(i-k)=i by omega]at this;rw[this];congr 1;omega
 rw[hr];refine F6 hΓ (cnt:=c) bs e0 _ ((ops'.toList.drop k).take (i-k)) k ((ops.drop k).take (i-k)) U e e1 h h1 a vc hgl (λj hj=>?_) t1 hex hvc hI hal λa1 σ1 ev1 hI1 hal1 hfar1=>?_
 ·have:j<i-k:=by omega
  simp[tK,this]
 rw[wpOpsIn_cons];unfold wpOpIn;simp only[ho];obtain⟨hno,k4,k3,vals,hv,hrun⟩:=La hI1 g2 hok hca;have hw:=D6 hI1.t k4 hg;simp only[hw,if_true];refine⟨λf _=>hΓ.F.fn f,?_⟩;rw[Oper.semAt_eq _ a1.eval _ hno,hrun];refine⟨λh=>by simp[hΓ.F.depth]at h,hΓ.F.calls ((callsIn_wide.1 (Jw hΓ.S hf hcf hnt hn hI1.df.gl hI1.h (cnt:=c+1) (λm hm=>by rcases hal1 m hm with h|h<;>omega) hv (hbody _))).mono ?_)⟩;rintro en w' ⟨v,Z,s,r,rfl,rfl,evτ,hτ,alτ,rv,hK⟩;have hd:∀k,ops'[i].dst=some k->k<a1.tmps.size:=by rw[k3];intro d hd;rw[hI1.sz];exact DA g2 d hd
 have hI2:Inv Z (BV yo.d r e1) s.hp (a1.put ops'[i].dst v) V.nt V.hb:=by rw[<-k3];exact⟨hτ,(hI1.t.mono evτ).put hd rv,by rw[Act.size_put];exact hI1.sz,by rw[Act.defers_put,Ee (λd hd=>DA g2 d (k3▸hd)) (show V.nt<=dk V.nt from EQ _ _)];exact hI1.df.mono evτ⟩
 exact hrest Z _ r s (ev1.trans evτ) hI2 alτ (λt ht=>(Ee (DA g2) ht).trans (hfar1 t ht)) hK
def UT(P:Program)(S:Tab)(rid i j:Nat)(d:Option Nat)(mid:List AOp)(yo2:AOp)(post:List AOp)(f2 ntf2:Nat)(ac2:AC)(rvs2:List RV)(e1:Az)(Q:AE->St->Prop)(r:AV)(s:St):Prop:=∃(vc2:Prop)(e2:Az)(h2:Hp)(args2:List AV),Bg S (s.cnt+1) (100*rid+(i+1)) mid (BV d r e1) s.hp=some (vc2,e2,h2)/\vc2/\Ei e2 yo2.g=some true/\EU e2 yo2.k=some (f2,args2)/\args2.length<=ntf2/\∀hb,Ax (Ctx.fn P S ntf2 hb) ac2 (Bk rvs2 (AY S rid j yo2.d post e2 Q)) ⟨BQ 0 args2,h2,s.cnt+1⟩
theorem gC(hΓ:V.OK)(i j:Nat)(hij:i<j){rid:Nat}{ops:List AOp}{yo yo2:AOp}{Q:AE->St->Prop}{e e1:Az}{h h1:Hp}{c:Nat}{vc:Prop}{f f2:Nat}{args:List AV}{fn fn2:Func}{ac ac2:AC}{rvs rvs2:List RV}{ntf ntf2:Nat}(hf:V.P.funcs[f]? =some fn)(hcf:Du V.P fn=some (ac,rvs))(hnt:fn.ntmps=ntf)(hok:Dh V.P f)(hf2:V.P.funcs[f2]? =some fn2)(hcf2:Du V.P fn2=some (ac2,rvs2))(hnt2:fn2.ntmps=ntf2)(hok2:Dh V.P f2)(hyo:ops[i]? =some yo)(hyo2:ops[j]? =some yo2)(hex:Bg V.S (c+1) (100*rid) (ops.take i) e h=some (vc,e1,h1))(hvc:vc)(hg:Ei e1 yo.g=some true)(hca:EU e1 yo.k=some (f,args))(hn:args.length<=ntf)(hbody:∀hb,Ax (Ctx.fn V.P V.S ntf hb) ac (Bk rvs (UT V.P V.S rid i j yo.d ((ops.drop (i+1)).take (j-(i+1))) yo2 (ops.drop (j+1)) f2 ntf2 ac2 rvs2 e1 Q)) ⟨BQ 0 args,h1,c+1⟩):Ax V (.reg rid ops) Q ⟨e,h,c⟩:=by
 intro code hc U a hA;cases code with
 |region id ops' d=>
  simp only[cCode]at hc;obtain⟨l0,hx0,⟨rfl,e0⟩|⟨_,_,_,_,e0⟩⟩:=Cc hc
  ·cases e0
   refine wpIn_region ?_;have hr0:List.range ops'.size=List.range' 0 (ops'.size-0):=by rw[uI];simp
   rw[hr0];refine TQ hΓ (100*rid) e hx0 0 i (rB _) (c:=c) hf hcf hnt hok hyo (by simpa using hex) hvc hg hca hn hbody (λ_ _=>rfl) hA.1 (λm hm=>.inl (hA.2.1 m hm)) ?_;rintro Z a' r s ev1 hI1 al1 gl1 ⟨vc2,e2,h2,args2,q1,q2,q3,q4,q5,q6⟩;refine TQ hΓ (100*rid) e hx0 (i+1) j hij (c:=s.cnt) hf2 hcf2 hnt2 hok2 hyo2 q1 q2 q3 q4 q5 q6 gl1 hI1 (λm hm=>.inl (al1 m hm)) ?_;rintro τ2 a2 r2 s2 ev2 hI2 al2 gl2 ⟨vc3,e3,h3,p1,p2,p3⟩;obtain⟨c1,_⟩:=C9 hx0;obtain⟨_,t3⟩:=CE (j+1) hx0;have hj:j<ops.length:=(fO.1 hyo2).1;have hsz:ops.length=ops'.size:=c1.trans (by simp);have hl:(ops'.toList.drop (j+1)).length=ops'.size-(j+1):=by simp
   have:=G7 hΓ (ops:=ops') (Q:=Q) (cnt:=s2.cnt) (100*rid) e U hA.2.2 (ops'.toList.drop (j+1)) (j+1) (ops.drop (j+1)) τ2 _ _ _ _ _ vc3 gl2 (λj=>by simp) (by simp;omega) t3 p1 p2 (ev1.trans ev2) hI2 (λm hm=>.inl (al2 m hm)) p3;rw[hl]at this;exact this
  ·cases e0
 |seq x y=>simp only[cCode]at hc;split at hc<;>simp at hc
 |cond c x y=>simp only[cCode]at hc;split at hc<;>simp at hc
 |rangeFunc f ps x y=>simp only[cCode]at hc;split at hc<;>simp at hc
 |_=>simp[cCode]at hc
end
theorem TR{P:Program}{S:Tab}{nt hb:Nat}(hS:TabOK P S)(i j:Nat)(hij:i<j){rid:Nat}{ops mid post:List AOp}{d d2:Option Nat}{g g2:Option (Nat×Bool)}{k k2:AK}{Q:AE->St->Prop}{e e1:Az}{h h1:Hp}{c:Nat}{vc:Prop}{f f2:Nat}{args:List AV}{fn fn2:Func}{ac ac2:AC}{rvs rvs2:List RV}{ntf ntf2:Nat}(hf:P.funcs[f]? =some fn)(hcf:Du P fn=some (ac,rvs))(hnt:fn.ntmps=ntf)(hok:Dh P f)(hf2:P.funcs[f2]? =some fn2)(hcf2:Du P fn2=some (ac2,rvs2))(hnt2:fn2.ntmps=ntf2)(hok2:Dh P f2)(hyo:ops[i]? =some ⟨d,g,k⟩)(hyo2:ops[j]? =some ⟨d2,g2,k2⟩)(hmid:(ops.drop (i+1)).take (j-(i+1))=mid)(hpost:ops.drop (j+1)=post)(hex:Bg S (c+1) (100*rid) (ops.take i) e h=some (vc,e1,h1))(hvc:vc)(hg:Ei e1 g=some true)(hca:EU e1 k=some (f,args))(hn:args.length<=ntf)(hbody:∀hb,Ax (Ctx.fn P S ntf hb) ac (Bk rvs (UT P S rid i j d mid ⟨d2,g2,k2⟩ post f2 ntf2 ac2 rvs2 e1 Q)) ⟨BQ 0 args,h1,c+1⟩):Ax (Ctx.fn P S nt hb) (.reg rid ops) Q ⟨e,h,c⟩:=by subst hmid hpost;exact gC (Ctx.fn_ok hS) i j hij hf hcf hnt hok hf2 hcf2 hnt2 hok2 hyo hyo2 hex hvc hg hca hn hbody
theorem Vs{P:Program}{S:Tab}{rid i j:Nat}{d d2:Option Nat}{g2:Option (Nat×Bool)}{k2:AK}{mid post:List AOp}{f2 ntf2:Nat}{ac2:AC}{rvs rvs2:List RV}{e1 e e2:Az}{h h2:Hp}{c:Nat}{Q:AE->St->Prop}{vc vc2:Prop}{xs args2:List AV}(h1:DS e h rvs=some (vc,xs))(hx:Bg S (c+1) (100*rid+(i+1)) mid (BV d (one xs) e1) h=some (vc2,e2,h2))(hv:vc)(hv2:vc2)(hg:Ei e2 g2=some true)(hca:EU e2 k2=some (f2,args2))(hn:args2.length<=ntf2)(hb:∀hb,Ax (Ctx.fn P S ntf2 hb) ac2 (Bk rvs2 (AY S rid j d2 post e2 Q)) ⟨BQ 0 args2,h2,c+1⟩):Bk rvs (UT P S rid i j d mid ⟨d2,g2,k2⟩ post f2 ntf2 ac2 rvs2 e1 Q) .n ⟨e,h,c⟩:=⟨vc,xs,h1,hv,vc2,e2,h2,args2,hx,hv2,hg,hca,hn,hb⟩
theorem Vt{P:Program}{S:Tab}{rid i j:Nat}{d d2:Option Nat}{g2:Option (Nat×Bool)}{k2:AK}{mid post:List AOp}{f2 ntf2:Nat}{ac2:AC}{rvs rvs2:List RV}{e1 e e2:Az}{h h2:Hp}{c:Nat}{Q:AE->St->Prop}{vc vc2:Prop}{xs args2:List AV}(h1:DS e h rvs=some (vc,xs))(hx:Bg S (c+1) (100*rid+(i+1)) mid (BV d (one xs) e1) h=some (vc2,e2,h2))(hv:vc)(hv2:vc2)(hg:Ei e2 g2=some true)(hca:EU e2 k2=some (f2,args2))(hn:args2.length<=ntf2)(hb:∀hb,Ax (Ctx.fn P S ntf2 hb) ac2 (Bk rvs2 (AY S rid j d2 post e2 Q)) ⟨BQ 0 args2,h2,c+1⟩):Bk rvs (UT P S rid i j d mid ⟨d2,g2,k2⟩ post f2 ntf2 ac2 rvs2 e1 Q) .r ⟨e,h,c⟩:=⟨vc,xs,h1,hv,vc2,e2,h2,args2,hx,hv2,hg,hca,hn,hb⟩
def E3(rvs:List RV)(K:AV->St->Prop)(Kp:Value->St->Prop):AE->St->Prop|.x _,_=>False|.p v,s=>Kp v s|_,s=>∃vc xs,DS s.env s.hp rvs=some (vc,xs)/\vc/\K (one xs) s
section
variable{P:Program}{S:Tab}
theorem NV(hS:TabOK P S){f:Nat}{fn:Func}{c:AC}{rvs:List RV}{args:List AV}{ntf cnt:Nat}{K:AV->St->Prop}{Kp:Value->St->Prop}(hf:P.funcs[f]? =some fn)(hc:Du P fn=some (c,rvs))(hnt:fn.ntmps=ntf)(hn:args.length<=ntf){U:Cf}{h1:Hp}{vals:List Value}(hgl:Gl U)(hI:HInv U h1)(hal:∀m,U.al m->m.2<=cnt)(hv:RepL U args vals)(h:Ax (Ctx.fn P S ntf U.w.heap.size) c (E3 rvs K Kp) ⟨BQ 0 args,h1,cnt⟩):CallsIn Fence.wide 0 P f vals.toArray U.w λen w'=>(∃v Z s r,en=.returned v/\Z.w=w'/\Evo U Z/\HInv Z s.hp/\(∀m,Z.al m->m.2<=s.cnt)/\Rep Z r v/\K r s)\/∃v Z s,en=.panicked [⟨v,false,false⟩]/\Z.w=w'/\Evo U Z/\HInv Z s.hp/\(∀m,Z.al m->m.2<=s.cnt)/\Kp v s:=by
 subst hnt;unfold Du at hc;split at hc
 ·rename_i b hbd;split at hc
  ·rename_i c' r' g1 g2;simp at hc;obtain⟨rfl,rfl⟩:=hc;have hlen:=Bs hv;have hw:=h b g1 U {tmps:=vals.toArray++Array.replicate (fn.ntmps-vals.toArray.size) undef,defers:=[]} ?_
   ·refine callsIn_of_wp_marks (n:=0) hf hbd trivial (wpIn_mono hw ?_);rintro e a' w' ⟨σ',s',e',rfl,ev,h3,h4,h5⟩;have ev:Evo U σ':=ev;have key:(∃vc xs,DS s'.env s'.hp r'=some (vc,xs)/\vc/\K (one xs) s')->LeavesInM Fence.wide 0 P fn a'.tmps (λen w'=>(∃v Z s r,en=.returned v/\Z.w=w'/\Evo U Z/\HInv Z s.hp/\(∀m,Z.al m->m.2<=s.cnt)/\Rep Z r v/\K r s)\/∃v Z s,en=.panicked [⟨v,false,false⟩]/\Z.w=w'/\Evo U Z/\HInv Z s.hp/\(∀m,Z.al m->m.2<=s.cnt)/\Kp v s) a'.defers .returning σ'.w:=by
     rintro⟨vc,xs,k1,k2,k3⟩;refine Ho a'.defers σ' (λb hb=>⟨h3.1.h.ou b hb,λhM=>h3.1.h.dis b hM hb⟩) (DOK.of' h3.1.df) λW ko kO kb=>?_
     have hI':Inv W s'.env s'.hp {a' with defers:=[]} fn.ntmps (U.w.heap.size,false):=⟨h3.1.h.oth ko,h3.1.t.ev ko.ev,h3.1.sz,DOK.nil (oJ h3.1.df.le ko.sz) (h3.1.df.gl.ev ko.ev)⟩
     obtain⟨us,u1,u2⟩:=G8 hI' g2 k1 k2;have evρ:Evo U W:=⟨λn hn=>by rw[ko.al,ko.rb];exact ev.box n hn,λn hn l' hl'=>by rw[ko.ra];rw[ko.ln]at hl';exact ev.arr n hn l' hl',λb o hb hm=>by obtain⟨q1,q2⟩:=ev.fro b o hb hm;exact⟨kb b o (.inl (dY.1 hb).1) q1,by rw[ko.M];exact q2⟩,kO.trans ev.out,oJ ev.sz ko.sz,ev.io.trans ko.io⟩
     refine⟨_,G9 u1,.inl ⟨_,W,s',one xs,rfl,rfl,evρ,hI'.h,λm hm=>h3.2.1 m (by rw[ko.al]at hm;exact hm),?_,k3⟩⟩;have hl':=Bs u2;unfold one;split
     ·rename_i x;simp only[RepL]at u2;obtain⟨y,ys,rfl,e2,rfl⟩:=u2;simpa using e2
     ·rename_i hno;have hne:us.toArray.size≠1:=by
       intro h1;simp at h1;rw[h1]at hl';cases xs with
       |nil=>simp at hl'
       |cons x xs=>cases xs with
        |nil=>exact hno x rfl
        |cons _ _=>simp at hl'
      rw[dif_neg hne];simp only[Rep];exact⟨us,rfl,u2⟩
    cases e with
    |normal=>simp[AE.of]at h4;subst h4;exact key h5
    |ret=>simp[AE.of]at h4;subst h4;exact key h5
    |exit i=>simp[AE.of]at h4;subst h4;exact h5.elim
    |goto l=>simp[AE.of]at h4
    |panic c=>
     obtain⟨v,rfl,rfl⟩:=AE.of_panic h4;have:=ML (dd:=[]) (u:=.panicking [⟨v,false,false⟩]) (F:=Fence.wide) (n:=0) (P:=P) (fn:=fn) (tmps:=a'.tmps) (R:=λen w'=>(∃v Z s r,en=.returned v/\Z.w=w'/\Evo U Z/\HInv Z s.hp/\(∀m,Z.al m->m.2<=s.cnt)/\Rep Z r v/\K r s)\/∃v Z s,en=.panicked [⟨v,false,false⟩]/\Z.w=w'/\Evo U Z/\HInv Z s.hp/\(∀m,Z.al m->m.2<=s.cnt)/\Kp v s) (by simp) a'.defers σ' (λb hb=>⟨h3.1.h.ou b hb,λhM=>h3.1.h.dis b hM hb⟩) (DOK.of' h3.1.df) λW ko kO kb=>?_
     ·rwa [nA]at this
     ·have evρ:Evo U W:=⟨λn hn=>by rw[ko.al,ko.rb];exact ev.box n hn,λn hn l' hl'=>by rw[ko.ra];rw[ko.ln]at hl';exact ev.arr n hn l' hl',λb o hb hm=>by obtain⟨q1,q2⟩:=ev.fro b o hb hm;exact⟨kb b o (.inl (dY.1 hb).1) q1,by rw[ko.M];exact q2⟩,kO.trans ev.out,oJ ev.sz ko.sz,ev.io.trans ko.io⟩
      exact .inr ⟨v,W,s',rfl,rfl,evρ,h3.1.h.oth ko,λm hm=>h3.2.1 m (by rw[ko.al]at hm;exact hm),h5⟩
    |outgrown=>simp[AE.of]at h4
   ·refine⟨⟨hI,λt=>?_,by show _=fn.ntmps;simp;omega,DOK.nil (eN _) hgl⟩,hal,trivial⟩;rw[Hn];split
    ·rename_i ht;simp only[rB,oH,true_and]at ht;have hg:args[t]? =some args[t]:=dQ ht;obtain⟨x,g1,g2⟩:=Dr hv t _ hg;have e1:args.getD (t-0) .un=args[t]:=by simp[ht]
     have hlt':t<vals.length:=by omega
     have e2:(vals.toArray++Array.replicate (fn.ntmps-vals.toArray.size) undef).getD t undef=x:=by rw[dQ hlt']at g1;simp at g1;simp[t6,tW,hlt',g1]
     rw[e1,e2];exact g2
    ·simp[Rep]
  ·simp at hc
 ·simp at hc
variable{V:Ctx}
theorem Wi(hΓ:V.OK)(i:Nat){rid:Nat}{ops:List AOp}{yo:AOp}{Q:AE->St->Prop}{e e1:Az}{h h1:Hp}{c:Nat}{vc:Prop}{f:Nat}{args:List AV}{fn:Func}{ac:AC}{rvs:List RV}{ntf:Nat}(hf:V.P.funcs[f]? =some fn)(hcf:Du V.P fn=some (ac,rvs))(hnt:fn.ntmps=ntf)(hok:Dh V.P f)(hyo:ops[i]? =some yo)(hex:Bg V.S (c+1) (100*rid) (ops.take i) e h=some (vc,e1,h1))(hvc:vc)(hg:Ei e1 yo.g=some true)(hca:EU e1 yo.k=some (f,args))(hn:args.length<=ntf)(hbody:∀hb,Ax (Ctx.fn V.P V.S ntf hb) ac (E3 rvs (AY V.S rid i yo.d (ops.drop (i+1)) e1 Q) λv s=>Q (.p v) ⟨e1,s.hp,s.cnt⟩) ⟨BQ 0 args,h1,c+1⟩):Ax V (.reg rid ops) Q ⟨e,h,c⟩:=by
 intro code hc U a hA;cases code with
 |region id ops' d=>
  simp only[cCode]at hc;obtain⟨l0,hx0,⟨rfl,e0⟩|⟨_,_,_,_,e0⟩⟩:=Cc hc
  ·cases e0
   refine wpIn_region ?_;obtain⟨c1,c2⟩:=C9 hx0;obtain⟨t1,t2⟩:=CE i hx0;obtain⟨_,t3⟩:=CE (i+1) hx0;have hi:i<ops.length:=(fO.1 hyo).1;have hsz:ops.length=ops'.size:=c1.trans (by simp);have hi':i<ops'.size:=by omega
   have ho:ops'[i]? =some ops'[i]:=eR hi';obtain⟨yo',g1,g2⟩:=c2 i ops'[i] (by simp);rw[hyo]at g1;cases g1
   have hr:List.range ops'.size=List.range' 0 (ops'.toList.take i).length++(i::List.range' (i+1) (ops'.toList.drop (i+1)).length):=by
    have e1:(ops'.toList.take i).length=i:=by simp;omega
    have e2:(ops'.toList.drop (i+1)).length=ops'.size-(i+1):=by simp
    rw[e1,e2,uI,<-vG];have:=List.range'_append_1 (s:=0) (m:=i) (n:=ops'.size-(i+1)+1);rw[oH]at this;rw[this];congr 1;omega
   rw[hr];refine F6 hΓ (cnt:=c) (100*rid) e _ (ops'.toList.take i) 0 (ops.take i) U e e1 h h1 a vc (λ_ _=>rfl) (λj hj=>?_) t1 hex hvc hA.1 (λm hm=>.inl (hA.2.1 m hm)) λa1 σ1 ev1 hI1 hal1 hfar1=>?_
   ·have:j<i:=by simp at hj;omega
    simp[tK,this]
   rw[wpOpsIn_cons];unfold wpOpIn;simp only[ho];obtain⟨hno,k4,k3,vals,hv,hrun⟩:=La hI1 g2 hok hca;have hw:=D6 hI1.t k4 hg;simp only[hw,if_true];refine⟨λf _=>hΓ.F.fn f,?_⟩;rw[Oper.semAt_eq _ a1.eval _ hno,hrun];refine⟨λh=>by simp[hΓ.F.depth]at h,hΓ.F.calls ((callsIn_wide.1 (NV hΓ.S hf hcf hnt hn hI1.df.gl hI1.h (cnt:=c+1) (λm hm=>by rcases hal1 m hm with h|h<;>omega) hv (hbody _))).mono ?_)⟩;rintro en w' (⟨v,Z,s,r,rfl,rfl,evτ,hτ,alτ,rv,vc2,e2,h2,q1,q2,q3⟩|⟨v,Z,s,rfl,rfl,evτ,hτ,alτ,hq⟩)
   rotate_left
   ·exact⟨Z,⟨e1,s.hp,s.cnt⟩,_,rfl,V.ofE (ev1.trans evτ),⟨⟨hτ,hI1.t.mono evτ,hI1.sz,hI1.df.mono evτ⟩,alτ,V.g hA.2.2 (ev1.trans evτ) λt ht=>.inr (hfar1 t ht)⟩,rfl,hq⟩
   have hd:∀k,ops'[i].dst=some k->k<a1.tmps.size:=by rw[k3];intro d hd;rw[hI1.sz];exact DA g2 d hd
   have hI2:Inv Z (BV yo.d r e1) s.hp (a1.put ops'[i].dst v) V.nt V.hb:=by rw[<-k3];exact⟨hτ,(hI1.t.mono evτ).put hd rv,by rw[Act.size_put];exact hI1.sz,by rw[Act.defers_put,Ee (λd hd=>DA g2 d (k3▸hd)) (show V.nt<=dk V.nt from EQ _ _)];exact hI1.df.mono evτ⟩
   exact G7 hΓ (ops:=ops') (Q:=Q) (cnt:=s.cnt) (100*rid) e U hA.2.2 (ops'.toList.drop (i+1)) (i+1) (ops.drop (i+1)) Z _ _ _ _ _ vc2 (λt ht=>(Ee (DA g2) ht).trans (hfar1 t ht)) (λj=>by simp) (by simp;omega) t3 q1 q2 (ev1.trans evτ) hI2 (λm hm=>.inl (alτ m hm)) q3
  ·cases e0
 |seq x y=>simp only[cCode]at hc;split at hc<;>simp at hc
 |cond c x y=>simp only[cCode]at hc;split at hc<;>simp at hc
 |rangeFunc f ps x y=>simp only[cCode]at hc;split at hc<;>simp at hc
 |_=>simp[cCode]at hc
end
theorem Bx{rvs:List RV}{K:AV->St->Prop}{Kp:Value->St->Prop}{v:Value}{s:St}(h:Kp v s):E3 rvs K Kp (.p v) s:=h
theorem GD(_:True){S:Tab}{rid i:Nat}{d:Option Nat}{post:List AOp}{e1:Az}{Q:AE->St->Prop}{Kp:Value->St->Prop}{rvs:List RV}{e:Az}{h:Hp}{c:Nat}{vc:Prop}{xs:List AV}{vc2:Prop}{e2:Az}{h2:Hp}(h1:DS e h rvs=some (vc,xs))(hx:Bg S (c+1) (100*rid+(i+1)) post (BV d (one xs) e1) h=some (vc2,e2,h2))(hv:vc)(hv2:vc2)(hQ:Q .n ⟨e2,h2,c+1⟩):E3 rvs (AY S rid i d post e1 Q) Kp .n ⟨e,h,c⟩:=⟨vc,xs,h1,hv,vc2,e2,h2,hx,hv2,hQ⟩
theorem GE(_:True){S:Tab}{rid i:Nat}{d:Option Nat}{post:List AOp}{e1:Az}{Q:AE->St->Prop}{Kp:Value->St->Prop}{rvs:List RV}{e:Az}{h:Hp}{c:Nat}{vc:Prop}{xs:List AV}{vc2:Prop}{e2:Az}{h2:Hp}(h1:DS e h rvs=some (vc,xs))(hx:Bg S (c+1) (100*rid+(i+1)) post (BV d (one xs) e1) h=some (vc2,e2,h2))(hv:vc)(hv2:vc2)(hQ:Q .n ⟨e2,h2,c+1⟩):E3 rvs (AY S rid i d post e1 Q) Kp .r ⟨e,h,c⟩:=⟨vc,xs,h1,hv,vc2,e2,h2,hx,hv2,hQ⟩
section
variable{P:Program}{S:Tab}{nt hb:Nat}
theorem AZ(hS:TabOK P S)(i:Nat){rid:Nat}{ops post:List AOp}{d:Option Nat}{g:Option (Nat×Bool)}{k:AK}{Q:AE->St->Prop}{e e1:Az}{h h1:Hp}{c:Nat}{vc:Prop}{f:Nat}{args:List AV}{fn:Func}{ac:AC}{rvs:List RV}{ntf:Nat}(hf:P.funcs[f]? =some fn)(hcf:Du P fn=some (ac,rvs))(hnt:fn.ntmps=ntf)(hok:Dh P f)(hyo:ops[i]? =some ⟨d,g,k⟩)(hpost:ops.drop (i+1)=post)(hex:Bg S (c+1) (100*rid) (ops.take i) e h=some (vc,e1,h1))(hvc:vc)(hg:Ei e1 g=some true)(hca:EU e1 k=some (f,args))(hn:args.length<=ntf)(hbody:∀hb,Ax (Ctx.fn P S ntf hb) ac (E3 rvs (AY S rid i d post e1 Q) λv s=>Q (.p v) ⟨e1,s.hp,s.cnt⟩) ⟨BQ 0 args,h1,c+1⟩):Ax (Ctx.fn P S nt hb) (.reg rid ops) Q ⟨e,h,c⟩:=by subst hpost;exact Wi (Ctx.fn_ok hS) i hf hcf hnt hok hyo hex hvc hg hca hn hbody
end
attribute [local irreducible] Ax BO BB Bj BC Bk AY BD BK Cq
structure Hid(p:Prop):Prop where
 k:p
theorem f0:([]:List Nat).length=0:=rfl
theorem fc{p q:Prop}(x:p)(y:q):p/\q:=⟨x,y⟩
theorem go{S F G G':Prop}(hS:S)(f:F)(k:G')(h:S->F->Hid G'->G:=by
 intro hS f k
 repeat' (first
  |(with_reducible (first|apply DD|apply EA|apply Eu|apply FL|apply DE|apply DF|apply GD|apply GE);(·(first|exact Ctx.fn_ok hS|exact Ctx.rd_ok hS|assumption|exact yT|exact Ctx.rdG_ok hS));iterate 2 (·(simp only[go_sem,seval,f]<;>eq_refl)))
  |with_reducible (first|apply Dz|apply En|apply Di|apply Dj|apply CX|apply Cw|apply CK|apply DW|apply Ec|apply Eo|apply Ep|apply Er|apply Es)
  |(with_reducible apply Et;(·first|rfl|decide))
  |(with_reducible apply A4;(·simp))
  |with_reducible (first|apply HV|apply HW|apply HX|apply DB|apply DC|apply Ex|apply Ey|apply Ez|apply yT|apply And.intro yT yT)
  |(fail_if_success with_reducible apply G1);(fail_if_success with_reducible apply Ew);(try clear k);first|with_reducible apply And.intro|omega|(simp only[go_sem,seval,f];done)|with_reducible assumption|(refine And.intro ?_ ?_)|(intro hg;simp_all;done)|decide|grind)
 exact k.k):G:=h hS f ⟨k⟩
theorem Bl{S F G:Prop}(hS:S)(f:F)(h:S->F->G:=by
 intro hS f
 repeat' (first
  |(with_reducible (first|apply DD|apply EA|apply Eu|apply FL|apply DE|apply DF|apply GD|apply GE);(·(first|exact Ctx.fn_ok hS|exact Ctx.rd_ok hS|assumption|exact yT|exact Ctx.rdG_ok hS));iterate 2 (·(simp only[go_sem,seval,f]<;>eq_refl)))
  |with_reducible (first|apply Dz|apply En|apply Di|apply Dj|apply CX|apply Cw|apply CK|apply DW|apply Ec|apply Eo|apply Ep|apply Er|apply Es)
  |(with_reducible apply Et;(·first|rfl|decide))
  |(with_reducible apply A4;(·simp))
  |with_reducible (first|apply HV|apply HW|apply HX|apply DB|apply DC|apply Ex|apply Ey|apply Ez|apply yT|apply And.intro yT yT)
  |(fail_if_success with_reducible apply G1);(fail_if_success with_reducible apply Ew);first|with_reducible apply And.intro|omega|(simp only[go_sem,seval,f];done)|with_reducible assumption|(refine And.intro ?_ ?_)|(intro hg;simp_all;done)|decide|grind)):G:=h hS f
theorem fin{F G:Prop}(f:F)(h:F->G:=by
 intro f
 first|refine Ma (by simp only[go_sem,seval,f]<;>eq_refl) (by simp only[go_sem,seval,f]) (by simp only[go_sem,seval,f]) ?_ rfl|refine Mb (by simp only[go_sem,seval,f]<;>eq_refl) (by simp only[go_sem,seval,f]) (by simp only[go_sem,seval,f]) ?_ rfl
 first|(simp only[go_sem,seval,f];done)|(simp only[go_sem,seval,f,tI,eG,tG,List.map_set,List.map_take,List.map_drop];done)|(simp[f];done)):G:=h f
theorem Ch{F:Prop}{s' s:St}(f:F)(h:F->Le s' s:=by intro f;refine Le.of ?_ ?_ (by first|exact eN _|(simp;omega)|simp)<;>first|(simp only[go_sem,seval,f];done)|(simp only[go_sem,seval,f,tI,eG,tG,List.map_set,List.map_take,List.map_drop];done)|(simp[f,tI,List.map_set];done)):Le s' s:=h f
section
variable{V:Ctx}{F:Prop}{cc:Opd}{x y:AC}{Q:AE->St->Prop}{e:Az}{h:Hp}{c:Nat}
theorem cb{B:Bool}(f:F)(B':Bool)(ht:B'=true->Ax V x Q ⟨e,h,c⟩)(hf:B'=false->Ax V y Q ⟨e,h,c⟩)(hb:F->AJ true (AI e cc)=.v (.bool B):=by intro f;simp only[go_sem,seval,f]<;>eq_refl)(hB:F->B=B':=by intro f;first|rfl|(simp;done)|grind):Ax V (.cond cc x y) Q ⟨e,h,c⟩:=xD (hb f) (hB f) ht hf
theorem ct(f:F)(ht:Ax V x Q ⟨e,h,c⟩)(hb:F->AJ true (AI e cc)=.v (.bool true):=by intro f;simp only[go_sem,seval,f]<;>eq_refl):Ax V (.cond cc x y) Q ⟨e,h,c⟩:=L9 (hb f) ht
theorem cf(f:F)(hf:Ax V y Q ⟨e,h,c⟩)(hb:F->AJ true (AI e cc)=.v (.bool false):=by intro f;simp only[go_sem,seval,f]<;>eq_refl):Ax V (.cond cc x y) Q ⟨e,h,c⟩:=Oo (hb f) hf
end
