import Derived.Test.YtjdchfljifacoaaGreatDoorA12
import Derived.RecoverIn
set_option linter.all false
namespace Go.Proofs.YtjdchfljifacoaaGreatDoor.Am
open Go
section
def Ej(rvs:List RV)(K:AV->St->Prop)(Kp:Value->St->Prop):AE->St->Prop|.x _,_=>False|.p v,s=>Kp v s|_,s=>∃vc xs,DK s.env s.hp rvs=some (vc,xs)/\vc/\K (one xs) s
section
variable{P:Program}{S:Tab}
theorem Mb(hS:TabOK P S){f:Nat}{fn:Func}{c:AC}{rvs:List RV}{args:List AV}{ntf cnt:Nat}{K:AV->St->Prop}{Kp:Value->St->Prop}(hf:P.funcs[f]? =some fn)(hc:Dj P fn=some (c,rvs))(hnt:fn.ntmps=ntf)(hn:args.length<=ntf){U:Cf}{h1:Hp}{vals:List Value}(hgl:Gl U)(hI:HInv U h1)(hal:∀m,U.al m->m.2<=cnt)(hv:RepL U args vals)(h:Aq (Ctx.fn P S ntf U.w.heap.size) c (Ej rvs K Kp) ⟨BC 0 args,h1,cnt⟩):CallsIn Fence.wide 0 P f vals.toArray U.w λen w'=>(∃v Z s r,en=.returned v/\Z.w=w'/\Evo U Z/\HInv Z s.hp/\(∀m,Z.al m->m.2<=s.cnt)/\Rep Z r v/\K r s)\/∃v Z s,en=.panicked [⟨v,false,false⟩]/\Z.w=w'/\Evo U Z/\HInv Z s.hp/\(∀m,Z.al m->m.2<=s.cnt)/\Kp v s:=by
 subst hnt;unfold Dj at hc;split at hc
 ·rename_i b hbd;split at hc
  ·rename_i c' r' g1 g2;simp at hc;obtain⟨rfl,rfl⟩:=hc;have hlen:=Bx hv;have hw:=h b g1 U {tmps:=vals.toArray++Array.replicate (fn.ntmps-vals.toArray.size) undef,defers:=[]} ?_
   ·refine callsIn_of_wp_marks (n:=0) hf hbd trivial (wpIn_mono hw ?_);rintro e a' w' ⟨σ',s',e',rfl,ev,h3,h4,h5⟩;have ev:Evo U σ':=ev;have key:(∃vc xs,DK s'.env s'.hp r'=some (vc,xs)/\vc/\K (one xs) s')->LeavesInM Fence.wide 0 P fn a'.tmps (λen w'=>(∃v Z s r,en=.returned v/\Z.w=w'/\Evo U Z/\HInv Z s.hp/\(∀m,Z.al m->m.2<=s.cnt)/\Rep Z r v/\K r s)\/∃v Z s,en=.panicked [⟨v,false,false⟩]/\Z.w=w'/\Evo U Z/\HInv Z s.hp/\(∀m,Z.al m->m.2<=s.cnt)/\Kp v s) a'.defers .returning σ'.w:=by
     rintro⟨vc,xs,k1,k2,k3⟩;refine F6 a'.defers σ' (λb hb=>⟨h3.1.h.ou b hb,λhM=>h3.1.h.dis b hM hb⟩) (DOK.of' h3.1.df) λW ko kO kb=>?_
     have hI':Inv W s'.env s'.hp {a' with defers:=[]} fn.ntmps (U.w.heap.size,false):=⟨h3.1.h.oth ko,h3.1.t.ev ko.ev,h3.1.sz,DOK.nil (A09 h3.1.df.le ko.sz) (h3.1.df.gl.ev ko.ev)⟩
     obtain⟨us,u1,u2⟩:=FT hI' g2 k1 k2;have evρ:Evo U W:=⟨λn hn=>by rw[ko.al,ko.rb];exact ev.box n hn,λn hn l' hl'=>by rw[ko.ra];rw[ko.ln]at hl';exact ev.arr n hn l' hl',λb o hb hm=>by obtain⟨q1,q2⟩:=ev.fro b o hb hm;exact⟨kb b o (.inl (u0.1 hb).1) q1,by rw[ko.M];exact q2⟩,kO.trans ev.out,A09 ev.sz ko.sz,ev.io.trans ko.io⟩
     refine⟨_,FU u1,.inl ⟨_,W,s',one xs,rfl,rfl,evρ,hI'.h,λm hm=>h3.2.1 m (by rw[ko.al]at hm;exact hm),?_,k3⟩⟩;have hl':=Bx u2;unfold one;split
     ·grind[RepL]
     ·rename_i hno;have hne:us.toArray.size≠1:=by
       intro h1;simp at h1;rw[h1]at hl';cases xs with
       |nil=>simp at hl'
       |cons x xs=>cases xs with
        |nil=>exact hno x rfl
        |cons _ _=>simp at hl'
      rw[dif_neg hne];simp only[Rep];exact⟨us,rfl,u2⟩
    cases e with
    |normal=>simp[AE.of]at h4;subst h4;exact key h5
    |ret=>simp[AE.of]at h4;subst h4;exact key h5
    |exit i=>simp[AE.of]at h4;subst h4;exact h5.elim
    |goto l=>simp[AE.of]at h4
    |panic c=>
     obtain⟨v,rfl,rfl⟩:=AE.of_panic h4;have:=K7 (dd:=[]) (u:=.panicking [⟨v,false,false⟩]) (F:=Fence.wide) (n:=0) (P:=P) (fn:=fn) (tmps:=a'.tmps) (R:=λen w'=>(∃v Z s r,en=.returned v/\Z.w=w'/\Evo U Z/\HInv Z s.hp/\(∀m,Z.al m->m.2<=s.cnt)/\Rep Z r v/\K r s)\/∃v Z s,en=.panicked [⟨v,false,false⟩]/\Z.w=w'/\Evo U Z/\HInv Z s.hp/\(∀m,Z.al m->m.2<=s.cnt)/\Kp v s) (by simp) a'.defers σ' (λb hb=>⟨h3.1.h.ou b hb,λhM=>h3.1.h.dis b hM hb⟩) (DOK.of' h3.1.df) λW ko kO kb=>?_
     ·rwa [A05]at this
     ·have evρ:Evo U W:=⟨λn hn=>by rw[ko.al,ko.rb];exact ev.box n hn,λn hn l' hl'=>by rw[ko.ra];rw[ko.ln]at hl';exact ev.arr n hn l' hl',λb o hb hm=>by obtain⟨q1,q2⟩:=ev.fro b o hb hm;exact⟨kb b o (.inl (u0.1 hb).1) q1,by rw[ko.M];exact q2⟩,kO.trans ev.out,A09 ev.sz ko.sz,ev.io.trans ko.io⟩
      exact .inr ⟨v,W,s',rfl,rfl,evρ,h3.1.h.oth ko,λm hm=>h3.2.1 m (by rw[ko.al]at hm;exact hm),h5⟩
    |outgrown=>simp[AE.of]at h4
   ·refine⟨⟨hI,λt=>?_,by show _=fn.ntmps;simp;omega,DOK.nil (w6 _) hgl⟩,hal,trivial⟩;rw[F5];split
    ·rename_i ht;simp only[A16,A08,true_and]at ht;have hg:args[t]? =some args[t]:=t6 ht;obtain⟨x,g1,g2⟩:=C1 hv t _ hg;have e1:args.getD (t-0) .un=args[t]:=by simp[ht]
     have hlt':t<vals.length:=by omega
     have e2:(vals.toArray++Array.replicate (fn.ntmps-vals.toArray.size) undef).getD t undef=x:=by rw[t6 hlt']at g1;simp[A32,A30,hlt',g1]
     rw[e1,e2];exact g2
    ·simp[Rep]
  ·simp at hc
 ·simp at hc
variable{V:Ctx}
theorem T4(hΓ:V.OK)(i:Nat){rid:Nat}{ops:List AOp}{yo:AOp}{Q:AE->St->Prop}{e e1:Ar}{h h1:Hp}{c:Nat}{vc:Prop}{f:Nat}{args:List AV}{fn:Func}{ac:AC}{rvs:List RV}{ntf:Nat}(hf:V.P.funcs[f]? =some fn)(hcf:Dj V.P fn=some (ac,rvs))(hnt:fn.ntmps=ntf)(hok:C0 V.P f)(hyo:ops[i]? =some yo)(hex:Bh V.S (c+1) (100*rid) (ops.take i) e h=some (vc,e1,h1))(hvc:vc)(hg:D8 e1 yo.g=some true)(hca:EG e1 yo.k=some (f,args))(hn:args.length<=ntf)(hbody:∀hb,Aq (Ctx.fn V.P V.S ntf hb) ac (Ej rvs (AQ V.S rid i yo.d (ops.drop (i+1)) e1 Q) λv s=>Q (.p v) ⟨e1,s.hp,s.cnt⟩) ⟨BC 0 args,h1,c+1⟩):Aq V (.reg rid ops) Q ⟨e,h,c⟩:=by
 intro code hc U a hA;cases code with
 |region id ops' d=>
  simp only[cCode]at hc;obtain⟨l0,hx0,⟨rfl,e0⟩|⟨_,_,_,_,e0⟩⟩:=BM hc
  ·cases e0
   refine wpIn_region ?_;obtain⟨c1,c2⟩:=CM hx0;obtain⟨t1,t2⟩:=Cj i hx0;obtain⟨_,t3⟩:=Cj (i+1) hx0;have hi:i<ops.length:=(y5.1 hyo).1;have hsz:ops.length=ops'.size:=c1.trans (by simp);have hi':i<ops'.size:=by omega
   have ho:ops'[i]? =some ops'[i]:=w7 hi';obtain⟨yo',g1,g2⟩:=c2 i ops'[i] (by simp);rw[hyo]at g1;cases g1
   have hr:List.range ops'.size=List.range' 0 (ops'.toList.take i).length++(i::List.range' (i+1) (ops'.toList.drop (i+1)).length):=by
    have e1:(ops'.toList.take i).length=i:=by simp;omega
    have e2:(ops'.toList.drop (i+1)).length=ops'.size-(i+1):=by simp
    rw[e1,e2,A36,<-A38];have:=List.range'_append_1 (s:=0) (m:=i) (n:=ops'.size-(i+1)+1);rw[A08]at this;rw[this];congr 1;omega
   rw[hr];refine E0 hΓ (cnt:=c) (100*rid) e _ (ops'.toList.take i) 0 (ops.take i) U e e1 h h1 a vc (λ_ _=>rfl) (λj hj=>?_) t1 hex hvc hA.1 (λm hm=>.inl (hA.2.1 m hm)) λa1 σ1 ev1 hI1 hal1 hfar1=>?_
   ·have:j<i:=by simp at hj;omega
    simp[A27,this]
   rw[wpOpsIn_cons];unfold wpOpIn;simp only[ho];obtain⟨hno,k4,k3,vals,hv,hrun⟩:=Jk hI1 g2 hok hca;have hw:=DA hI1.t k4 hg;simp only[hw,if_true];refine⟨λf _=>hΓ.F.fn f,?_⟩;rw[Oper.semAt_eq _ a1.eval _ hno,hrun];refine⟨λh=>by simp[hΓ.F.depth]at h,hΓ.F.calls ((callsIn_wide.1 (Mb hΓ.S hf hcf hnt hn hI1.df.gl hI1.h (cnt:=c+1) (λm hm=>by rcases hal1 m hm with h|h<;>omega) hv (hbody _))).mono ?_)⟩;rintro en w' (⟨v,Z,s,r,rfl,rfl,evτ,hτ,alτ,rv,vc2,e2,h2,q1,q2,q3⟩|⟨v,Z,s,rfl,rfl,evτ,hτ,alτ,hq⟩)
   rotate_left
   ·exact⟨Z,⟨e1,s.hp,s.cnt⟩,_,rfl,V.ofE (ev1.trans evτ),⟨⟨hτ,hI1.t.mono evτ,hI1.sz,hI1.df.mono evτ⟩,alτ,V.g hA.2.2 (ev1.trans evτ) λt ht=>.inr (hfar1 t ht)⟩,rfl,hq⟩
   have hd:∀k,ops'[i].dst=some k->k<a1.tmps.size:=by rw[k3];intro d hd;rw[hI1.sz];exact C9 g2 d hd
   have hI2:Inv Z (BQ yo.d r e1) s.hp (a1.put ops'[i].dst v) V.nt V.hb:=by rw[<-k3];exact⟨hτ,(hI1.t.mono evτ).put hd rv,by rw[Act.size_put];exact hI1.sz,by rw[Act.defers_put,DL (λd hd=>C9 g2 d (k3▸hd)) (show V.nt<=dk V.nt from A55 _ _)];exact hI1.df.mono evτ⟩
   exact FS hΓ (ops:=ops') (Q:=Q) (cnt:=s.cnt) (100*rid) e U hA.2.2 (ops'.toList.drop (i+1)) (i+1) (ops.drop (i+1)) Z _ _ _ _ _ vc2 (λt ht=>(DL (C9 g2) ht).trans (hfar1 t ht)) (λj=>by simp) (by simp;omega) t3 q1 q2 (ev1.trans evτ) hI2 (λm hm=>.inl (alτ m hm)) q3
  ·cases e0
 |seq x y=>simp only[cCode]at hc;split at hc<;>simp at hc
 |cond c x y=>simp only[cCode]at hc;split at hc<;>simp at hc
 |rangeFunc f ps x y=>simp only[cCode]at hc;split at hc<;>simp at hc
 |_=>simp[cCode]at hc
end
theorem Bi{rvs:List RV}{K:AV->St->Prop}{Kp:Value->St->Prop}{v:Value}{s:St}(h:Kp v s):Ej rvs K Kp (.p v) s:=h
theorem Fs(_:True){S:Tab}{rid i:Nat}{d:Option Nat}{post:List AOp}{e1:Ar}{Q:AE->St->Prop}{Kp:Value->St->Prop}{rvs:List RV}{e:Ar}{h:Hp}{c:Nat}{vc:Prop}{xs:List AV}{vc2:Prop}{e2:Ar}{h2:Hp}(h1:DK e h rvs=some (vc,xs))(hx:Bh S (c+1) (100*rid+(i+1)) post (BQ d (one xs) e1) h=some (vc2,e2,h2))(hv:vc)(hv2:vc2)(hQ:Q .n ⟨e2,h2,c+1⟩):Ej rvs (AQ S rid i d post e1 Q) Kp .n ⟨e,h,c⟩:=⟨vc,xs,h1,hv,vc2,e2,h2,hx,hv2,hQ⟩
theorem Ft(_:True){S:Tab}{rid i:Nat}{d:Option Nat}{post:List AOp}{e1:Ar}{Q:AE->St->Prop}{Kp:Value->St->Prop}{rvs:List RV}{e:Ar}{h:Hp}{c:Nat}{vc:Prop}{xs:List AV}{vc2:Prop}{e2:Ar}{h2:Hp}(h1:DK e h rvs=some (vc,xs))(hx:Bh S (c+1) (100*rid+(i+1)) post (BQ d (one xs) e1) h=some (vc2,e2,h2))(hv:vc)(hv2:vc2)(hQ:Q .n ⟨e2,h2,c+1⟩):Ej rvs (AQ S rid i d post e1 Q) Kp .r ⟨e,h,c⟩:=⟨vc,xs,h1,hv,vc2,e2,h2,hx,hv2,hQ⟩
section
variable{P:Program}{S:Tab}{nt hb:Nat}
theorem AM(hS:TabOK P S)(i:Nat){rid:Nat}{ops post:List AOp}{d:Option Nat}{g:Option (Nat×Bool)}{k:AK}{Q:AE->St->Prop}{e e1:Ar}{h h1:Hp}{c:Nat}{vc:Prop}{f:Nat}{args:List AV}{fn:Func}{ac:AC}{rvs:List RV}{ntf:Nat}(hf:P.funcs[f]? =some fn)(hcf:Dj P fn=some (ac,rvs))(hnt:fn.ntmps=ntf)(hok:C0 P f)(hyo:ops[i]? =some ⟨d,g,k⟩)(hpost:ops.drop (i+1)=post)(hex:Bh S (c+1) (100*rid) (ops.take i) e h=some (vc,e1,h1))(hvc:vc)(hg:D8 e1 g=some true)(hca:EG e1 k=some (f,args))(hn:args.length<=ntf)(hbody:∀hb,Aq (Ctx.fn P S ntf hb) ac (Ej rvs (AQ S rid i d post e1 Q) λv s=>Q (.p v) ⟨e1,s.hp,s.cnt⟩) ⟨BC 0 args,h1,c+1⟩):Aq (Ctx.fn P S nt hb) (.reg rid ops) Q ⟨e,h,c⟩:=by subst hpost;exact T4 (Ctx.fn_ok hS) i hf hcf hnt hok hyo hex hvc hg hca hn hbody
end
attribute [local irreducible] Aq BD Bv A8 Bq Ba AQ Bw By Ck
structure Hid(p:Prop):Prop where
 k:p
theorem f0:([]:List Nat).length=0:=rfl
theorem fc{p q:Prop}(x:p)(y:q):p/\q:=⟨x,y⟩
theorem go{S F G G':Prop}(hS:S)(f:F)(k:G')(h:S->F->Hid G'->G:=by
 intro hS f k
 repeat' (first
  |(with_reducible (first|apply Dc|apply D2|apply DX|apply EN|apply Dd|apply De|apply Fs|apply Ft);(·(first|exact Ctx.fn_ok hS|exact Ctx.rd_ok hS|assumption|exact yT|exact Ctx.rdG_ok hS));iterate 2 (·(simp only[go_sem,seval,f]<;>eq_refl)))
  |with_reducible (first|apply C8|apply DR|apply CT|apply CU|apply CC|apply Cb|apply Co|apply Dr|apply DF|apply DS|apply DT|apply DU|apply DV)
  |(with_reducible apply DW;(·first|rfl|decide))
  |(with_reducible apply AO;(·simp))
  |with_reducible (first|apply Gs|apply Gt|apply Gu|apply Da|apply Db|apply DZ|apply D0|apply D1|apply yT|apply And.intro yT yT)
  |(fail_if_success with_reducible apply FP);(fail_if_success with_reducible apply DY);(try clear k);first|with_reducible apply And.intro|omega|(simp only[go_sem,seval,f];done)|with_reducible assumption|(refine And.intro ?_ ?_)|(intro hg;simp_all;done)|decide|grind)
 exact k.k):G:=h hS f ⟨k⟩
theorem AS{S F G:Prop}(hS:S)(f:F)(h:S->F->G:=by
 intro hS f
 repeat' (first
  |(with_reducible (first|apply Dc|apply D2|apply DX|apply EN|apply Dd|apply De|apply Fs|apply Ft);(·(first|exact Ctx.fn_ok hS|exact Ctx.rd_ok hS|assumption|exact yT|exact Ctx.rdG_ok hS));iterate 2 (·(simp only[go_sem,seval,f]<;>eq_refl)))
  |with_reducible (first|apply C8|apply DR|apply CT|apply CU|apply CC|apply Cb|apply Co|apply Dr|apply DF|apply DS|apply DT|apply DU|apply DV)
  |(with_reducible apply DW;(·first|rfl|decide))
  |(with_reducible apply AO;(·simp))
  |with_reducible (first|apply Gs|apply Gt|apply Gu|apply Da|apply Db|apply DZ|apply D0|apply D1|apply yT|apply And.intro yT yT)
  |(fail_if_success with_reducible apply FP);(fail_if_success with_reducible apply DY);first|with_reducible apply And.intro|omega|(simp only[go_sem,seval,f];done)|with_reducible assumption|(refine And.intro ?_ ?_)|(intro hg;simp_all;done)|decide|grind)):G:=h hS f
theorem fin{F G:Prop}(f:F)(h:F->G:=by
 intro f
 first|refine Ks (by simp only[go_sem,seval,f]<;>eq_refl) (by simp only[go_sem,seval,f]) (by simp only[go_sem,seval,f]) ?_ rfl|refine Kt (by simp only[go_sem,seval,f]<;>eq_refl) (by simp only[go_sem,seval,f]) (by simp only[go_sem,seval,f]) ?_ rfl
 first|(simp only[go_sem,seval,f];done)|(simp only[go_sem,seval,f,A24,w5,A22,List.map_set,List.map_take,List.map_drop];done)|(simp[f];done)):G:=h f
theorem CB{F:Prop}{s' s:St}(f:F)(h:F->Le s' s:=by intro f;refine Le.of ?_ ?_ (by first|exact w6 _|(simp;omega)|simp)<;>first|(simp only[go_sem,seval,f];done)|(simp only[go_sem,seval,f,A24,w5,A22,List.map_set,List.map_take,List.map_drop];done)|(simp[f,A24,List.map_set];done)):Le s' s:=h f
section
variable{V:Ctx}{F:Prop}{cc:Opd}{x y:AC}{Q:AE->St->Prop}{e:Ar}{h:Hp}{c:Nat}
theorem cb{B:Bool}(f:F)(B':Bool)(ht:B'=true->Aq V x Q ⟨e,h,c⟩)(hf:B'=false->Aq V y Q ⟨e,h,c⟩)(hb:F->Ay true (Ax e cc)=.v (.bool B):=by intro f;simp only[go_sem,seval,f]<;>eq_refl)(hB:F->B=B':=by intro f;first|rfl|(simp;done)|grind):Aq V (.cond cc x y) Q ⟨e,h,c⟩:=sP (hb f) (hB f) ht hf
theorem ct(f:F)(ht:Aq V x Q ⟨e,h,c⟩)(hb:F->Ay true (Ax e cc)=.v (.bool true):=by intro f;simp only[go_sem,seval,f]<;>eq_refl):Aq V (.cond cc x y) Q ⟨e,h,c⟩:=Kr (hb f) ht
theorem cf(f:F)(hf:Aq V y Q ⟨e,h,c⟩)(hb:F->Ay true (Ax e cc)=.v (.bool false):=by intro f;simp only[go_sem,seval,f]<;>eq_refl):Aq V (.cond cc x y) Q ⟨e,h,c⟩:=ME (hb f) hf
end
end
theorem VL{hp:Hp}{n:Nm}:∀{k o:Nat}{cs:List AV},G8 hp n o k=some cs->∀j c,cs[j]? =some c->hl hp (.c n (o+j))=some c
 |0,o,cs,h,j,c,hj=>by simp[G8]at h;subst h;simp at hj
 |k+1,o,cs,h,j,c,hj=>by
  simp only[G8]at h;split at h
  ·rename_i c' hc;cases hm:isM c' with
   |true=>rw[hm]at h;cases h
   |false=>
   rw[hm,A12]at h;cases hr:G8 hp n (o+1) k with
   |none=>simp[hr]at h
   |some ds=>
    simp[hr]at h;subst h;cases j with
    |zero=>grind
    |succ j=>have:=VL hr j c (by simpa using hj);grind
  ·simp at h
theorem Pq{U Z:Cf}(hf:∀b,Fz U b->Fz Z b)(hw:∀b,Fz U b->Z.w.heap[b]? =U.w.heap[b]?){n:Nm}(ha:Z.al n)(hr:Z.rb n=U.rb n):∀{args:List AV}{vs:List Value},Hj args=true->Fh args=some n->RepL U args vs->RepL Z args vs
 |[],_,h,_,_=>by simp[Hj]at h
 |c::cs,vs,h1,h2,hr'=>by
  obtain⟨y,ys,rfl,g1,g2⟩:=hr';refine⟨y,ys,rfl,?_⟩;cases c with
  |box m o=>grind[Hj,Fh,Rep,RepL.ofPure]
  |_=>simp only[Hj,y8]at h1 h2;exact⟨Rep.ofPure hf hw _ _ h1.1 g1,Pq hf hw ha hr h1.2 h2 g2⟩
def iL(P:Program)(f:Nat)(fst cps:List AV)(m:Nm)(bc:List AV)(xs:List (List AV)):Prop:=∀(l hb:Nat)(β:Int->Cf->Prop)(U:Cf)(vals:List Value),Rng P Fence.wide l hb xs β->β 0 U->HInv U (D6 m 0 bc)->(∀n,U.al n->n=m)->RepL U (fst++AV.clo (.yield l) [] []::cps) vals->hb<=U.w.heap.size->Gl U->CallsIn Fence.wide 0 P f vals.toArray U.w λe w'=>∃v σ',e=.returned v/\σ'.w=w'/\(β xs.length σ'\/β (-1) σ')
section
variable{P:Program}{S:Tab}{nt hbo:Nat}
theorem X8{X:Type}(m:Nm)(bc:List AV)(I:X->Hp×Nat)(Pre:X->Prop)(K:X->Nat)(x0:X){f:Opd}{ps:List Nat}{asg bdy:AC}{Q:AE->St->Prop}{e:Ar}{h:Hp}{c fi:Nat}{fst cps:List AV}{xs:List (List AV)}(hx:Ay true (Ax e f)=.clo (.func fi) fst cps)(hit:iL P fi fst cps m bc xs)(hok:C0 P fi)(hpu:AA fst=true/\Hj cps=true/\Fh cps=some m)(hbc:G8 h m 0 bc.length=some bc/\bc.isEmpty=false/\G9 bc=true)(hno:∀j,hl (I x0).1 (.c m j)=none)(hps:∀p∈ps,p<nt)(hpure:∀args∈xs,AA args=true/\args.length=ps.length)(h0:Pre x0)(hk0:K x0=0)(hle:Le ⟨e,(I x0).1,(I x0).2⟩ ⟨e,h,c⟩)(round:∀l x,Pre x->∀args,xs[K x]? =some args->Aq (Ctx.rdG P S nt l) asg (By (Ctx.rdG P S nt l) bdy (Bw e I Pre K (K x+1) Q)) ⟨Gq ps args e,(I x).1,(I x).2⟩)(hend:∀x,Pre x->K x=xs.length->Q .n ⟨e,(I x).1,(I x).2⟩):Aq (Ctx.fn P S nt hbo) (.rfun f ps asg bdy) Q ⟨e,h,c⟩:=by
 intro code hc U a hA;cases code with
 |rangeFunc g ps' assign body=>
  simp only[cCode]at hc;split at hc
  ·rename_i x' y' hca hcb;simp at hc;obtain⟨rfl,rfl,rfl,rfl⟩:=hc;obtain⟨ev0,A0⟩:=hA.leM hle;have hcel:∀j c,bc[j]? =some c->hl h (.c m j)=some c:=λj c hj=>by have:=VL hbc.1 j c hj;simpa using this
   obtain⟨b0,hb0⟩:∃b0,bc[0]? =some b0:=by cases bc with|nil=>simp at hbc|cons b _=>exact⟨b,rfl⟩
   have hcm:=hA.1.h.cel m 0 b0 (hcel 0 b0 hb0);have hexc:∀p b,Owns {U with ln:=lenOf (I x0).1} (I x0).1 p b->b≠U.rb m:=by
    rintro p b hp rfl;have hsub:=TQ hle.h;have h1:Owns U h p (U.rb m):=by
     rcases hp with⟨g1,g2,j,c,g3⟩|⟨g1,⟨sz,rows,d,g2⟩,o,cap,g3,g4⟩
     ·exact .inl ⟨g1,g2,j,c,hsub _ _ g3⟩
     ·exact .inr ⟨g1,⟨sz,rows,d,hsub _ _ g2⟩,o,cap,g3,g4⟩
    have h2:=hA.1.h.inj p (false,m) _ h1 (.inl ⟨rfl,rfl,0,b0,hcel 0 b0 hb0⟩);subst h2;rcases hp with⟨_,_,j,c,g3⟩|⟨g1,_⟩
    ·grind
    ·cases g1
   obtain⟨hrlt,hrM,hrO,hrc⟩:U.rb m<U.w.heap.size/\U.M (U.rb m)/\¬U.O (U.rb m)/\∃cs T,U.w.heap[U.rb m]? =some (.cells cs T (0,0)):=by obtain⟨_,k2,cs,T,_,k3,_⟩:=hcm.cells (PT hbc.1 0 b0 hb0);exact⟨hA.1.h.lt _ k2,k2,hA.1.h.dis _ k2,cs,T,k3⟩
   have hbcel:∀j c,bc[j]? =some c->CelF U m j c:=λj c hj=>hA.1.h.cel m j c (hcel j c hj)
   generalize hss:({U with ln:=lenOf (I x0).1}:Cf)=ss at ev0 A0 hexc;have ew:ss.w=U.w:=by rw[<-hss]
   have eM:ss.M=U.M:=by rw[<-hss]
   have eO:ss.O=U.O:=by rw[<-hss]
   have er:ss.rb=U.rb:=by rw[<-hss]
   rw[<-ew]at hrlt hrc;rw[<-eM]at hrM;rw[<-eO]at hrO;rw[<-er]at hrlt hrM hrO hrc hexc;have hbce:∀j c,bc[j]? =some c->∃cs T x,ss.w.heap[ss.rb m]? =some (.cells cs T (0,0))/\cs[j]? =some x/\Bp x=true/\Rep U c x:=λj c hj=>by obtain⟨_,_,cs,T,x,k3,k4,k5,k6⟩:=(hbcel j c hj).cells (PT hbc.1 j c hj);exact⟨cs,T,x,by rw[ew,er];exact k3,k4,k5,k6⟩
   rw[<-ew];refine wpIn_mono (Q:=lift (Ctx.fn P S nt hbo) ss Q) ?_ λe a w k=>k.mono (Ctx.ofE _ ev0)
   have hX:=EZ (g:=true) rfl A0.1.t g;rw[hx]at hX;simp only[Rep]at hX;obtain⟨fs,cs,hX,hf1,hc1⟩:=hX;refine wpIn_rangeFunc (F:=Fence.wide) λfn _=>?_
   let lp:LoopState->Option Code->Loop:=λst pe=>{state:=st,pending:=pe,fn:=fn,tmps:=a.tmps,params:=ps',assign:=assign,body:=body,defers:=ss.w.heap.size}
   let W1:World:=(ss.w.alloc (.deferred (some []))).alloc (.loop (lp .ready none))
   have hL1:W1.heap[ss.w.heap.size+1]? =some (.loop (lp .ready none)):=by have:=World.alloc_heap_new (ss.w.alloc (.deferred (some []))) (.loop (lp .ready none));rwa [World.size_alloc]at this
   have hsz1:W1.heap.size=ss.w.heap.size+2:=by simp[W1]
   have hkeep:∀(b:Nat)(o:Obj),ss.w.heap[b]? =some o->W1.heap[b]? =some o:=by grind[Cd]
   have hK1:W1.heap[ss.w.heap.size]? =some (.deferred (some [])):=by rw[Cd (by simp)];exact World.alloc_heap_new ss.w _
   let D:=ss.w.heap.size
   let l:=ss.w.heap.size+1
   let a0:Act:={a with defers:=[{target:=.collected D,args:=#[]}]++a.defers}
   let H:RFix:={O0:=ss.O,l:=l,D:=D,ss:=ss,e:=e,a:=a0,lp:=lp}
   let so:Cf:={ss with w:=W1,M:=λb=>ss.M b/\b≠ss.rb m,O:=λb=>ss.O b\/b=ss.rb m}
   have evs0:Evo ss (ss.at W1):=Evo.at hkeep ⟨rfl,rfl⟩;have fzs:∀b,Fz ss b->Fz so b:=λb hb=>⟨λh=>hb.1 h.1,λh=>h.elim hb.2.1 λe=>hb.1 (e▸hrM),by have:=hb.2.2;show b<W1.heap.size;omega⟩
   have evs:Ev ss so:=⟨λ_ h=>⟨h,rfl⟩,λ_ _ l h=>⟨l,h,w6 _,λ_=>rfl⟩,fzs,λb o x hb hc=>evs0.cell hb.1 hc⟩
   let si:Cf:={rb:=ss.rb,ra:=λ_=>(none,0),M:=λb=>b=ss.rb m,O:=λb=>(ss.M b/\b≠ss.rb m)\/ss.O b\/b=l\/b=D,ln:=λ_=>none,al:=λn=>n=m,w:=W1}
   have hgsi:Gl si:=λb j hj=>by
    obtain⟨g1,g2⟩:=A0.1.df.gl b j hj;have g3:=(Gl.mono A0.1.df.gl evs0 b j hj).2;refine⟨⟨λh=>g1.1 (show ss.M b from h▸hrM),?_,?_⟩,g3⟩
    ·have:=g1.2.2;rintro(h|h|h|h)
     ·exact g1.1 h.1
     ·exact g1.2.1 h
     ·simp only[l]at h;omega
     ·simp only[D]at h;omega
    ·show b<W1.heap.size;have:=g1.2.2;omega
   have hdf:∀d∈H.a.defers,∃r,d={target:=.collected r,args:=#[]}/\(r<H.ss.w.heap.size\/r=H.D):=by
    intro d hd;simp only[H,a0,A10,A02,y6]at hd;rcases hd with rfl|hd
    ·exact⟨D,rfl,.inr rfl⟩
    ·obtain⟨r,r1,_,r3,_⟩:=A0.1.df.all rfl d hd;grind
   have nM:∀b,ss.w.heap.size<=b->¬ss.M b:=λb hb hm=>by have:=A0.1.h.lt b hm;omega
   have nO:∀b,ss.w.heap.size<=b->¬ss.O b:=λb hb hm=>by have:=A0.1.h.ou b hm;omega
   have hso:HInv so (I x0).1:=by
    have h1:HInv (ss.at W1) (I x0).1:=A0.1.h.at hkeep ⟨rfl,rfl⟩;have own:∀p b,Owns so (I x0).1 p b->Owns ss (I x0).1 p b:=λp b hp=>hp
    refine⟨h1.ln,λn j c hc=>?_,λn sz live rows d hc=>?_,h1.inj,λb hb=>h1.lt b hb.1,λb hb=>?_,λb hb ho=>?_⟩
    ·have kc:=h1.cel n j c hc;have hne:=hexc (false,n) (ss.rb n) (.inl ⟨rfl,rfl,j,c,hc⟩);have ev1:Ev (ss.at W1) so:=⟨λ_ h=>⟨h,rfl⟩,λ_ _ l h=>⟨l,h,w6 _,λ_=>rfl⟩,λb hb=>⟨λh=>hb.1 h.1,λh=>h.elim hb.2.1 λe=>hb.1 (e▸hrM),hb.2.2⟩,λb o x _ hc=>hc⟩
     exact kc.keepE ev1 ⟨kc.2.1,hne⟩ rfl
    ·have ev1:Ev (ss.at W1) so:=⟨λ_ h=>⟨h,rfl⟩,λ_ _ l h=>⟨l,h,w6 _,λ_=>rfl⟩,λb hb=>⟨λh=>hb.1 h.1,λh=>h.elim hb.2.1 λe=>hb.1 (e▸hrM),hb.2.2⟩,λb o x _ hc=>hc⟩
     refine(h1.arr n sz live rows d hc).keepE ev1 rfl λhl b o cap h2 h3 h4=>⟨⟨h4,?_⟩,rfl⟩
     subst hl;exact hexc (true,n) b (.inr ⟨rfl,⟨sz,rows,d,hc⟩,o,cap,h2,h3⟩)
    ·grind
    ·rcases ho with ho|rfl
     ·exact h1.dis b hb.1 ho
     ·exact hb.2 rfl
   have hsi:HInv si (D6 m 0 bc):=by
    have key:∀n j c,hl (D6 m 0 bc) (.c n j)=some c->n=m/\bc[j]? =some c:=by intro n j c hm;rw[Mz]at hm;grind
    have own:∀p b,Owns si (D6 m 0 bc) p b->p=(false,m):=by
     rintro⟨k,n⟩ b (⟨h1,_,j,c,h3⟩|⟨_,⟨_,_,_,h3⟩,_⟩)
     ·grind
     ·simp[G4]at h3
    refine⟨λn=>by simp[si,lenOf,G4],λn j c hn=>?_,λn sz live rows d hn=>by simp[G4]at hn,λp q b hp hq=>by rw[own p b hp,own q b hq],λb hb=>by grind,λb hb=>?_,λb hb ho=>?_⟩
    ·obtain⟨rfl,h1⟩:=key n j c hn;obtain⟨cs,T,x,k3,k4,k5,k6⟩:=hbce j c h1;exact⟨rfl,rfl,.inl ⟨cs,T,x,hkeep _ _ k3,k4,k5,HO c x (Ko hbc.2.2 (A14 h1)) k6⟩⟩
    ·grind
    grind
   have hJ0:RJ (Ctx.fn P S nt hbo) H I Pre K Q 0 si:=by
    refine⟨so,(I x0).1,(I x0).2,.ready,none,⟨rfl,λb=>Iff.rfl,λb=>⟨λh=>h.imp id λh=>⟨h,by rw[h];show _<W1.heap.size;omega⟩,λh=>h.imp id λh=>h.1⟩,hsi.dis,hsi.ou⟩,⟨evs.box,evs.arr,λb o hb hM=>⟨hkeep b o hb,λh=>hM h.1⟩,λb _ h1 h2=>h1 (show ss.M b from h2▸hrM),evs0.sz,evs0.io⟩,⟨hso,A0.1.t.ev evs,A0.1.sz,DOK.of rfl (λd hd=>?_) ?_ (A09 A0.1.df.le evs0.sz) (A0.1.df.gl.ev evs)⟩,A0.2.1,λh=>nM _ (Nat.le_succ _) h.1,hL1,hK1,.inl ⟨x0,h0,by simp[hk0],rfl,rfl,rfl,rfl⟩⟩
    ·simp only[H,a0,A10,A02,y6]at hd;rcases hd with rfl|hd
     ·exact⟨D,rfl,A0.1.df.le,hK1,λh=>nM _ (w6 _) h.1,λh=>h.elim (nO _ (w6 _)) λh=>by simp only[D]at h;omega⟩
     ·obtain⟨r,r1,r2,r3,r4,r5⟩:=A0.1.df.all rfl d hd;grind
    ·simp only[H,a0,A10,A02];refine A25.2 ⟨λd hd he=>?_,A0.1.df.nd rfl⟩;obtain⟨r,rfl,_,r3,_⟩:=A0.1.df.all rfl d hd;grind
   have hDn:∀so si hp,Way H.ss so si->Inv so H.e hp H.a nt (hbo,false)->¬so.M H.D:=λso si hp _ h3=>by obtain⟨r,r1,_,_,r4,_⟩:=h3.df.all rfl {target:=.collected D,args:=#[]} (by simp[H,a0]);grind
   have hR:Rng P Fence.wide l (ss.w.heap.size+2) xs (RJ (Ctx.fn P S nt hbo) H I Pre K Q):=
    {evo:=λhj ev=>hj.evo hdf ev
     oth:=λhj o hO hP=>hj.oth (hb:=ss.w.heap.size+2) (by simp only[H];omega) hdf o hO hP
     rnd:=λhj hi hxs hv=>RJ.rndG (H:=H) (fn:=fn) (ps:=ps') rfl hca hcb hps hpure (round l) (by simp only[H,l];omega) hDn hj hi hxs hv}
   have hvals:RepL si (fst++AV.clo (.yield l) [] []::cps) (fs++ .func (.yield l) #[] #[]::cs):=by
    have ff:∀b,Fz ss b->Fz si b:=λb hb=>⟨λh=>hb.1 (show ss.M b from h▸hrM),by
     have:=hb.2.2;rintro(g|g|g|g)
     ·exact hb.1 g.1
     ·exact hb.2.1 g
     ·simp only[l]at g;omega
     ·simp only[D]at g;omega,by show b<W1.heap.size;have:=hb.2.2;omega⟩
    have fw:∀b,Fz ss b->si.w.heap[b]? =ss.w.heap[b]? :=λb hb=>by have:=w7 hb.2.2;grind
    refine Dz (RepL.ofPure ff fw _ _ hpu.1 hf1) ?_;simp only[RepL];exact⟨_,_,rfl,by simp[Rep,RepL],Pq ff fw rfl rfl hpu.2.1 hpu.2.2 hc1⟩
   refine⟨l,[{target:=.collected D,args:=#[]}],W1,{target:=.fn (.func fi) cs.toArray,args:=fs.toArray++#[.func (.yield l) #[] #[]]},W1,fi,(fs.toArray++#[.func (.yield l) #[] #[]])++cs.toArray,W1,run_enterLoop_outer _ _ _ _ _,?_,λ_ _=>trivial,?_,λh=>by simp[Fence.wide]at h,?_⟩
   ·have hy:Array.map a.eval #[.const (.func (.yield l) #[] #[])]=#[.func (.yield l) #[] #[]]:=by simp[Act.eval]
    simp only[resolve,rangeCall,hy,hX,Deferred.ofValue,Sem.run_pure]
   ·simp only[invoke];exact FE hok _ _
   have harr:(fs.toArray++#[.func (.yield l) #[] #[]])++cs.toArray=(fs++ .func (.yield l) #[] #[]::cs).toArray:=by apply Array.ext';simp
   rw[harr];refine(hit l (ss.w.heap.size+2) _ si _ hR hJ0 hsi (λ_ h=>h) hvals (by show _<=W1.heap.size;omega) hgsi).mono ?_;rintro en w' ⟨v,σ',rfl,rfl,hj⟩;have key:∀hp cnt st pe so2,Pair H.O0 H.l H.D so2 σ'->Way H.ss so2 σ'->Inv so2 H.e hp H.a nt (hbo,false)->(∀m,so2.al m->m.2<=cnt)->¬so2.M H.l->so2.w.heap[H.l]? =some (.loop (H.lp st pe))->st≠.busy->∃s5:Cf,(Instr.endLoop l).run P σ'.w=.ok pe s5.w/\Evo ss s5/\At (Ctx.fn P S nt hbo) s5 ⟨e,hp,cnt⟩ a0:=by
    intro hp cnt st pe so2 h1 h2 h3 h4 h8 h5 hb;have dis2:∀b,so2.O b->b<so2.w.heap.size/\¬so2.M b:=λb hb=>⟨h3.h.ou b hb,λhM=>h3.h.dis b hM hb⟩
    obtain⟨s4,hs4,o4,r4,l4,k4⟩:=HR (r':={H.lp st pe with state:=.exhausted}) dis2 h8 h5;have hOs:∀b,ss.O b->s4.O b:=λb hb=>by rw[r4.out];exact(h1.oo b).2 (.inl hb)
    let s5:Cf:={s4 with O:=ss.O}
    have h4i:=h3.h.oth o4;have o5:Oth s4 s5:=⟨rfl,rfl,rfl,rfl,rfl,λb hb=>⟨h4i.ou b (hOs b hb),λhM=>h4i.dis b hM (hOs b hb),λhf=>hf.2.1 (hOs b hb)⟩,w6 _,λ_ _=>rfl,λ_ _ _ _ h=>h,SameO.refl _⟩
    have df4:=h3.df.rd r4 h5 (.inl rfl);refine⟨s5,?_,⟨λn hn=>?_,λn hn l' hl'=>?_,λb o ho hm=>?_,rfl,A09 h2.sz r4.sz,h2.io.trans r4.io⟩,⟨h4i.oth o5,(h3.t.ev o4.ev).ev o5.ev,h3.sz,DOK.of rfl (λd hd=>?_) (df4.nd rfl) df4.le (df4.gl.ev o5.ev)⟩,λm hm=>h4 m ?_,trivial⟩
    ·have:=run_endLoop (P:=P) (w:=so2.w) h5 hb;rw[h1.w]at this;show _=Result.ok pe s4.w;rw[hs4,this,h1.w]
    ·exact⟨(r4.box n (h2.box n hn).1).1,((r4.box n (h2.box n hn).1).2).trans (h2.box n hn).2⟩
    ·obtain⟨l1,g1,g2,g3⟩:=r4.arr n (h2.box n hn).1 l' hl';obtain⟨m,q1,q2,q3⟩:=h2.arr n hn l1 g1;grind
    ·obtain⟨g1,g2⟩:=h2.old b o ho hm;grind
    ·obtain⟨r,r1,r2,r3,r4',r5⟩:=df4.all rfl d hd;exact⟨r,r1,r2,r3,r4',λh=>r5 (hOs r h)⟩
    grind
   have inv:∀{k:Int},RJ (Ctx.fn P S nt hbo) H I Pre K Q k σ'->rangePost Fence.wide 0 P l (lift (Ctx.fn P S nt hbo) ss Q) a0 (.returned v) σ'.w\/False\/k≠xs.length/\k≠-1:=by
    intro k hj;obtain⟨so2,hp,cnt,st,pe,h1,h2,h3,h4,h8,h5,h6,h7⟩:=hj;rcases h7 with⟨x,hx,hk,rfl,rfl,rfl,rfl⟩|⟨hk,c',e',rfl,rfl,hjp,hq⟩
    ·by_cases hlen:K x=xs.length
     ·obtain⟨s5,g1,g2,g3⟩:=key _ _ _ _ so2 h1 h2 h3 h4 h8 h5 (by simp);exact .inl ⟨none,s5.w,g1,s5,_,.n,rfl,g2,g3,rfl,hend x hx hlen⟩
     grind
    ·obtain⟨s5,g1,g2,g3⟩:=key _ _ _ _ so2 h1 h2 h3 h4 h8 h5 (by simp);refine .inl ⟨some c',s5.w,g1,?_⟩;rcases hjp with⟨rfl,rfl⟩|⟨i,rfl,rfl⟩
     ·exact wpIn_ret ⟨s5,_,.r,rfl,g2,g3,rfl,hq⟩
     ·exact wpIn_exit ⟨s5,_,.x i,rfl,g2,g3,rfl,hq⟩
   rcases hj with hj|hj
   ·rcases inv hj with h|h|h
    ·exact h
    ·exact h.elim
    ·exact absurd rfl h.1
   ·rcases inv hj with h|h|h
    ·exact h
    ·exact h.elim
    ·exact absurd rfl h.2
  ·simp at hc
 |region id ops d=>obtain⟨_,_,⟨_,e⟩|⟨_,_,_,_,e⟩⟩:=BM hc<;>cases e
 |seq x y=>simp only[cCode]at hc;split at hc<;>simp at hc
 |cond c x y=>simp only[cCode]at hc;split at hc<;>simp at hc
 |_=>simp[cCode]at hc
end
theorem pJ{P:Program}{S:Tab}{m:Nm}{bc:List AV}(hS:TabOK P S){f:Nat}{fn:Func}{c:AC}{fst cps:List AV}{xs:List (List AV)}(nt:Nat)(hf:P.funcs[f]? =some fn)(hc:Dj P fn=some (c,[]))(hnt:fn.ntmps=nt)(hgs:nt<=gs)(hn:(fst++cps).length<nt)(h:∀(l hb:Nat) (β:Int->Cf->Prop) (evo:∀{k:Int} {U σ':Cf},β k U->Evo U σ'->β k σ'),Rng P Fence.wide l hb xs β->Aq (Ctx.it P Fence.wide S nt hb β hgs evo) c (Ck xs.length) ⟨(gs,CD 0)::BC 0 (fst++AV.clo (.yield l) [] []::cps),D6 m 0 bc,m.2⟩):iL P f fst cps m bc xs:=by
 subst hnt;intro l hb β U vals hR hJ hI hal hx hsz hgl;unfold Dj at hc;split at hc
 ·rename_i b hbd;split at hc
  ·rename_i c' r' h1 h2;simp at hc;obtain⟨rfl,rfl⟩:=hc;have hw:=h l hb β hR.evo hR b h1 U {tmps:=vals.toArray++Array.replicate (fn.ntmps-vals.toArray.size) undef,defers:=[]} ?_
   ·refine callsIn_of_wp_marks (n:=0) hf hbd trivial (wpIn_mono hw ?_);rintro e a' w' ⟨σ',s',e',rfl,_,h3,h4,h5⟩;have key:(lk s'.env gs=CD xs.length\/lk s'.env gs=CD (-1))->LeavesInM Fence.wide 0 P fn a'.tmps (λe w'=>∃v σ',e=.returned v/\σ'.w=w'/\(β xs.length σ'\/β (-1) σ')) a'.defers .returning σ'.w:=by
     intro hk;refine F6 a'.defers σ' (λb hb=>⟨h3.1.h.ou b hb,λhM=>h3.1.h.dis b hM hb⟩) (DOK.of' h3.1.df) λW ko kO kb=>?_
     obtain⟨ρ',hρ,hn'⟩:=(h3.1.h.oth ko).nil;obtain⟨us,k1,k2⟩:=FT (P:=P) (s:=⟨[],[],0⟩) (rs:=fn.results.toList) (rvs:=[]) (vc:=True) (xs:=[]) (U:=ρ') (a:={a' with defers:=[]}) (nt:=fn.ntmps) (hb:=(hb,false))
      ⟨hn',λt=>by simp[lk,Rep],h3.1.sz,DOK.nil (by rw[hρ];exact A09 h3.1.df.le ko.sz) (by rw[hρ];exact λb j hj=>⟨((h3.1.df.gl.ev ko.ev) b j hj).1,((h3.1.df.gl.ev ko.ev) b j hj).2⟩)⟩ h2 rfl trivial
     rw[hρ]at k1;refine⟨_,FU k1,_,W,rfl,rfl,?_⟩;have hj:∀k,β k σ'->β k W:=λk hk=>hR.oth hk ko kO kb
     rcases hk with hk|hk
     ·exact .inl (hj _ (h3.2.2 _ hk))
     ·exact .inr (hj _ (h3.2.2 _ hk))
    cases e with
    |normal=>simp[AE.of]at h4;subst h4;exact key h5
    |ret=>simp[AE.of]at h4;subst h4;exact key h5
    |exit i=>simp[AE.of]at h4;subst h4;exact h5.elim
    |goto l=>simp[AE.of]at h4
    |panic c=>obtain⟨v,rfl,rfl⟩:=AE.of_panic h4;exact h5.elim
    |outgrown=>simp[AE.of]at h4
   ·have hlen:=Bx hx;refine⟨⟨hI,λt=>?_,by show _=fn.ntmps;simp at hn hlen⊢;omega,DOK.nil hsz hgl⟩,by grind,?_⟩
    ·simp only[lk];by_cases ht:gs=t
     ·subst ht;have h1:vals.length<=fn.ntmps:=by simp at hn hlen;omega
      have:¬gs<vals.length+(fn.ntmps-vals.length):=by omega
      simp[Rep,Array.getD,this]
     ·rw[t7 ht,F5];split
      ·rename_i ht;simp only[A16,A08,true_and]at ht;have hg:(fst++AV.clo (.yield l) [] []::cps)[t]? =some (fst++AV.clo (.yield l) [] []::cps)[t]:=t6 ht;obtain⟨x,g1,g2⟩:=C1 hx t _ hg;have e1:(fst++AV.clo (.yield l) [] []::cps).getD (t-0) .un=(fst++AV.clo (.yield l) [] []::cps)[t]:=by grind
       have hlt':t<vals.length:=by omega
       have e2:(vals.toArray++Array.replicate (fn.ntmps-vals.toArray.size) undef).getD t undef=x:=by rw[t6 hlt']at g1;simp[A32,A30,hlt',g1]
       rw[e1,e2];exact g2
      ·simp[Rep]
    ·intro k hk
     simp_all[lk]
  ·simp at hc
 ·simp at hc
theorem kU{P:Program}{S:Tab}{m:Nm}{bc:List AV}(hS:TabOK P S){f:Nat}{fn:Func}{c:AC}{fst cps:List AV}{xs:List (List AV)}(nt:Nat)(hf:P.funcs[f]? =some fn)(hc:Dj P fn=some (c,[]))(hnt:fn.ntmps=nt)(hgs:nt<=gs)(hn:(fst++cps).length<nt)(h:∀(l:Nat) (V:Ctx),V.OK->V.S=S->Sj V l xs->Aq V c (Ck xs.length) ⟨(gs,CD 0)::BC 0 (fst++AV.clo (.yield l) [] []::cps),D6 m 0 bc,m.2⟩):iL P f fst cps m bc xs:=pJ hS nt hf hc hnt hgs hn λl hb β evo hR=>h l _ (Ctx.it_ok hS) (Eq.refl _) λi=>QO hS hR i
def AbX(n:Nm)(cells:List AV)(r:AV)(us:List (Nat×AV))(r':AV)(s:St):Prop:=wk r' r/\∀j c,hl (I1 n us++D6 n 0 cells) (.c n j)=some c->hl s.hp (.c n j)=some c
theorem bA{P:Program}{S:Tab}(hS:TabOK P S){f:Nat}{fn:Func}{c:AC}{rvs:List RV}{n:Nm}{args cells:List AV}{r:AV}{us:List (Nat×AV)}(nt:Nat)(hf:P.funcs[f]? =some fn)(hc:Dj P fn=some (c,rvs))(hnt:fn.ntmps=nt)(hn:args.length<=nt)(h:∀hb,Aq (Ctx.fn P S nt hb) c (Ba rvs (AbX n cells r us)) ⟨BC 0 args,D6 n 0 cells,n.2⟩):S0 P f n args cells r us:=by intro U vs hg hI hal hr;refine callsIn_wide.1 ((IO hS hf hc hnt hn hg hI (by grind) hr (h _)).mono ?_);rintro en w' ⟨v,Z,s,r',rfl,rfl,ev,hτ,_,hv,hk1,hk2⟩;exact⟨v,Z,rfl,rfl,ev,λj c hj=>hτ.cel n j c (hk2 j c hj),JP _ _ _ hk1 hv⟩
