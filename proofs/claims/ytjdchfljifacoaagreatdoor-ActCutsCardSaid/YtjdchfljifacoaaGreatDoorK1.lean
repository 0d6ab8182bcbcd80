import Derived.Test.YtjdchfljifacoaaGreatDoorA14
import Derived.Test.YtjdchfljifacoaaGreatDoorProg
import Derived.Lib.Builder
import Derived.Lib.AppendZeros
import Derived.Lib.UnsafeStr
import Derived.Lib.Strings
import Derived.Lib.Walk
import Derived.Shelf.RegionOpenPlain
set_option linter.all false
set_option maxRecDepth 100000
set_option maxHeartbeats 2000000
namespace Go.Proofs.YtjdchfljifacoaaGreatDoor.Am
section
open Go
def Ctx.fd(P:Program)(S:Tab)(nt hb:Nat):Ctx:={P:=P,F:=Fence.wide,S:=S,nt:=nt,hb:=(hb,true),R:=Evo,G:=λ_ _=>True,ofE:=id,tr:=Evo.trans,g:=λ_ _ _=>trivial}
theorem Ctx.fd_ok{P:Program}{S:Tab}{nt hb:Nat}(h:TabOK P S):(Ctx.fd P S nt hb).OK:=⟨h,.inl (Eq.refl _)⟩
theorem AbY{P:Program}{S:Tab}{nt hb:Nat}:(Ctx.fd P S nt hb).S=S:=rfl
theorem M2{P:Program}{nt:Nat}{ops:Array Oper}{o:Oper}{yo:AOp}(h:JI P nt ops o=some yo):yo.k=cK P o.op/\o.dst=yo.d/\cG ops o.guard=some yo.g:=by unfold JI at h;grind
theorem pM{P:Program}{op:Op}{x:Opd}(h:cK P op=.pan x):∃y,op=.panic y/\x=Al y:=by
 cases op with
 |panic y=>simp only[cK,AK.pan.injEq]at h;exact⟨y,rfl,h.symm⟩
 |_=>
  simp only[cK,Hk,E3,I9,Ja,Jb,Jc,KI,Jd,H9]at h
  (repeat' (split at h))<;>cases h
theorem pN{P:Program}{op:Op}{x:Opd}(h:cK P op=.dfr x):∃c y,op=.defer c/\c.callee=.value y/\c.args.toList=[]/\x=Al y:=by
 cases op with
 |defer c=>simp only[cK]at h;grind
 |_=>
  simp only[cK,Hk,E3,I9,Ja,Jb,Jc,KI,Jd,H9]at h
  (repeat' (split at h))<;>cases h
theorem pP{P:Program}{op:Op}(h:cK P op=.rcv):∃c,op=.call c/\c.callee=.builtin .recover:=by
 cases op with
 |call c=>simp only[cK,H9]at h;grind
 |_=>
  simp only[cK,Hk,E3,I9,Ja,Jb,Jc,KI,Jd]at h
  (repeat' (split at h))<;>cases h
variable{V:Ctx}
theorem M3(hΓ:V.OK){ops':Array Oper}{ops:List AOp}{WQ:Exit->Act->World->Prop}{U:Cf}{a:Act}{e e1:Ar}{h h1:Hp}{c rid i:Nat}{vc:Prop}{yo:AOp}(hx0:FM V.P V.nt ops' ops'.toList=some ops)(hlen:ops.length=i+1)(hyo:ops[i]? =some yo)(hgu:yo.g=none)(hex:Bh V.S (c+1) (100*rid) (ops.take i) e h=some (vc,e1,h1))(hvc:vc)(hA:At V U ⟨e,h,c⟩ a)(hlast:∀(o:Oper) (a1:Act) (σ1:Cf),ops'[i]? =some o->yo.k=cK V.P o.op->o.dst=yo.d->Region.wanted o (yielded ops' a1.tmps)=true->Evo U σ1->Inv σ1 e1 h1 a1 V.nt V.hb->(∀m,σ1.al m->m.2<=c+1)->(∀t,V.nt<=t->lk e1 t=lk e t)->wpOpIn V.F 0 V.P ops' WQ i (wpOpsIn V.F 0 V.P ops' WQ []) a1 σ1.w):wpOpsIn V.F 0 V.P ops' WQ (List.range ops'.size) a U.w:=by
 obtain⟨c1,c2⟩:=CM hx0;obtain⟨t1,t2⟩:=Cj i hx0;have hi:i<ops.length:=by omega
 have hsz:ops.length=ops'.size:=by omega
 obtain⟨yo',g1,g2⟩:=c2 i ops'[i] (by simp);rw[hyo]at g1;cases g1
 have hr:List.range ops'.size=List.range' 0 (ops'.toList.take i).length++[i]:=by
  have e1:(ops'.toList.take i).length=i:=by simp;omega
  rw[e1,A36,show ops'.size=i+1 by omega,List.range'_1_concat,A08]
 rw[hr];refine E0 hΓ (cnt:=c) (100*rid) e _ (ops'.toList.take i) 0 (ops.take i) U e e1 h h1 a vc (λ_ _=>rfl) (λj hj=>?_) t1 hex hvc hA.1 (λm hm=>.inl (hA.2.1 m hm)) λa1 σ1 ev1 hI1 hal1 hfar1=>?_
 ·grind
 rw[wpOpsIn_cons];obtain⟨q1,q2,q3⟩:=M2 g2;have hw:=DA hI1.t q3 (show D8 e1 yo.g=some true by rw[hgu];rfl);grind
theorem A1(hΓ:V.OK)(i:Nat){rid:Nat}{ops:List AOp}{Q:AE->St->Prop}{e e1:Ar}{h h1:Hp}{c:Nat}{vc:Prop}{d:Option Nat}{x:Opd}{t:TypeId}{v:Value}(hlen:ops.length=i+1)(hyo:ops[i]? =some ⟨d,none,.pan x⟩)(hex:Bh V.S (c+1) (100*rid) (ops.take i) e h=some (vc,e1,h1))(hvc:vc)(hx:Ay true (Ax e1 x)=.v (.iface t v))(hQ:Q (.p (.iface t v)) ⟨e1,h1,c+1⟩):Aq V (.reg rid ops) Q ⟨e,h,c⟩:=by
 intro code hc U a hA;cases code with
 |region id ops' d'=>
  obtain⟨l0,hx0,⟨rfl,e0⟩|⟨_,_,_,_,e0⟩⟩:=BM hc
  ·cases e0
   refine wpIn_region (M3 hΓ hx0 hlen hyo rfl hex hvc hA λo a1 σ1 ho hk hd hw ev hI hal hfar=>?_);obtain⟨y,hop,rfl⟩:=pM hk.symm;have hX:=EZ rfl hI.t y;rw[hx]at hX;have hv:=by simpa[Rep]using hX
   unfold wpOpIn;simp only[ho,hw];refine⟨λf _=>hΓ.F.fn f,?_⟩;rw[Oper.semAt_eq _ a1.eval _ (by grind)];have hr:(execOp a1.eval o).run V.P σ1.w=.halt (.panic (.iface t v)) σ1.w:=by simp_all[execOp,Instr.panic]
   rw[hr,Oper.uponIn_panic];exact⟨σ1,⟨e1,h1,c+1⟩,_,rfl,V.ofE ev,⟨hI,hal,V.g hA.2.2 ev λt ht=>.inr (hfar t ht)⟩,rfl,hQ⟩
  ·cases e0
 |seq x y=>simp only[cCode]at hc;split at hc<;>simp at hc
 |cond c x y=>simp only[cCode]at hc;split at hc<;>simp at hc
 |rangeFunc f ps x y=>simp only[cCode]at hc;split at hc<;>simp at hc
 |_=>simp[cCode]at hc
theorem H8{P:Program}{S:Tab}{nt hb:Nat}(hS:TabOK P S)(i:Nat){rid:Nat}{ops:List AOp}{Q:AE->St->Prop}{e e1:Ar}{h h1:Hp}{c f:Nat}{vc:Prop}{ys:List AV}{x:Opd}(hlen:ops.length=i+1)(hyo:ops[i]? =some ⟨none,none,.dfr x⟩)(hex:Bh S (c+1) (100*rid) (ops.take i) e h=some (vc,e1,h1))(hvc:vc)(hx:Ay true (Ax e1 x)=.clo (.func f) [] ys)(h0:lk e (dk nt)=.gd false (.tup []))(hQ:Q .n ⟨(dk nt,.gd false (.clo (.func f) [] ys))::e1,h1,c+1⟩):Aq (Ctx.fd P S nt hb) (.reg rid ops) Q ⟨e,h,c⟩:=by
 intro code hc U a hA;cases code with
 |region id ops' d'=>
  simp only[cCode]at hc;obtain⟨l0,hx0,⟨rfl,e0⟩|⟨_,_,_,_,e0⟩⟩:=BM hc
  ·cases e0
   refine wpIn_region (M3 (Ctx.fd_ok hS) hx0 hlen hyo rfl hex hvc hA λo a1 σ1 ho hk hd hw ev hI hal hfar=>?_);obtain⟨cl,y,hop,hcl,har,rfl⟩:=pN hk.symm;have hX:=EZ (g:=true) rfl hI.t y;rw[hx]at hX;simp only[Rep,RepL]at hX;obtain⟨xs0,vs,hv,rfl,hvs⟩:=hX;have har':cl.args=#[]:=Array.toList_inj.1 har;unfold wpOpIn;simp only[ho,hw,if_true];refine⟨λf _=>trivial,?_⟩;have hs:o.semAt (Ctx.fd P S nt hb).F.round a1.eval=execOp a1.eval o:=by have:(Ctx.fd P S nt hb).F.round=none:=rfl;rw[this];rfl
   rw[hs];have hr:(execOp a1.eval o).run (Ctx.fd P S nt hb).P σ1.w=.ok (.defer {target:=.fn (.func f) vs.toArray,args:=#[]}) σ1.w:=by simp[execOp,hop,resolve,hcl,har',hv,Deferred.ofValue]
   rw[hr,Oper.uponIn_defer];show wpOpsIn _ _ _ _ _ [] _ _;simp only[wpOpsIn];have hdst:o.dst=none:=hd;rw[hdst];refine⟨σ1,⟨(dk nt,.gd false (.clo (.func f) [] ys))::e1,h1,c+1⟩,_,Eq.refl _,ev,⟨⟨hI.h,λt=>?_,hI.sz,⟨?_,hI.df.le,hI.df.gl⟩⟩,hal,trivial⟩,rfl,hQ⟩
   ·simp only[lk];by_cases ht:dk nt=t
    ·rw[t8 ht];subst ht;have h1:a1.tmps.size=nt:=hI.sz;have h2:¬dk nt<a1.tmps.size:=by rw[h1];exact Nat.not_lt.2 (A55 _ _)
     show Rep _ _ (a1.tmps.getD (dk nt) undef);have:a1.tmps.getD (dk nt) undef=undef:=by simp[Array.getD,h2]
     rw[this];simp[Rep]
    ·rw[t7 ht];exact hI.t t
   ·obtain⟨ms,dd,q1,q2,q3,q4⟩:=hI.df.sp;have hms:=q4.2.2.2 rfl;have hdd:=q4.2.1 rfl ((hfar (dk nt) (A55 _ _)).trans h0);subst hms hdd;have ek:lk ((dk nt,AV.gd false (.clo (.func f) [] ys))::e1) (dk nt)=.gd false (.clo (.func f) [] ys):=by simp only[lk,if_true]
    refine⟨[],[{target:=.fn (.func f) vs.toArray,args:=#[]}],?_,by simp,.nil,λh=>(by cases h),λ_ h=>?_,λ_ f' ys' h=>?_,λ_=>rfl⟩
    ·simp only[Act.put];rw[q1];rfl
    ·have h':=ek.symm.trans h;cases h'
    ·have h':=ek.symm.trans h;injection h' with _ h'
     injection h' with h1 _ h2
     injection h1 with h1
     subst h1 h2;exact⟨vs,hvs,rfl⟩
  ·cases e0
 |seq x y=>simp only[cCode]at hc;split at hc<;>simp at hc
 |cond c x y=>simp only[cCode]at hc;split at hc<;>simp at hc
 |rangeFunc f ps x y=>simp only[cCode]at hc;split at hc<;>simp at hc
 |_=>simp[cCode]at hc
def S2(d:Nat):List AOp->Bool|[]=>true|[⟨some _,none,.mv (.t k)⟩]=>decide (k=d)|_=>false
def bB(d:Nat)(rv:Value)(e:Ar):List AOp->Ar|[⟨some k,_,_⟩]=>(k,.v rv)::(d,.v rv)::e|_=>(d,.v rv)::e
theorem X9{d:Nat}{post:List AOp}(h:S2 d post=true):post=[]\/∃k,post=[⟨some k,none,.mv (.t d)⟩]:=by
 unfold S2 at h;split at h
 ·exact .inl rfl
 ·rename_i k q;have:=of_decide_eq_true h;subst this;exact .inr ⟨k,rfl⟩
 ·cases h
theorem iM{P:Program}{op:Op}{x:Opd}(h:AK.mv x=cK P op):∃y,(op=.move y\/op=.assign y)/\x=Al y:=by
 cases op with
 |move y=>simp only[cK,AK.mv.injEq]at h;exact⟨y,.inl rfl,h⟩
 |assign y=>simp only[cK,AK.mv.injEq]at h;exact⟨y,.inr rfl,h⟩
 |_=>
  exfalso;simp only[cK,Hk,E3,I9,Ja,Jb,Jc,KI,Jd,H9]at h
  (repeat' (split at h))<;>cases h
theorem VM{ops:Array Oper}{o:Oper}(h:cG ops o.guard=some none):o.guard=none:=by
 cases hg:o.guard with
 |none=>rfl
 |some p=>obtain⟨j,w⟩:=p;rw[hg]at h;simp only[cG]at h;split at h<;>cases h
theorem bC{P:Program}{nt rid d:Nat}{id:Nat}{ops':Array Oper}{b:Bool}{post:List AOp}(h:Xh P nt id ops' b=some (.reg rid (⟨some d,none,.rcv⟩::post))):∃o cl,ops'[0]? =some o/\ops'.size=post.length+1/\b=false/\o.op=.call cl/\cl.callee=.builtin .recover/\o.dst=some d/\o.guard=none/\d<nt/\∀k,post=[⟨some k,none,.mv (.t d)⟩]->∃o2,ops'[1]? =some o2/\(o2.op=.move (.tmp d)\/o2.op=.assign (.tmp d))/\o2.dst=some k/\o2.guard=none/\k<nt:=by
 obtain⟨l0,hx0,⟨rfl,e0⟩|⟨_,_,_,_,e0⟩⟩:=BM h
 ·cases e0
  obtain⟨c1,c2⟩:=CM hx0;have hsz:ops'.size=post.length+1:=by simpa using c1.symm
  have h0:ops'[0]? =some ops'[0]:=w7 (by omega);obtain⟨yo',g1,g2⟩:=c2 0 ops'[0] (by simp);simp at g1;subst g1;obtain⟨q1,q2,q3⟩:=M2 g2;obtain⟨cl,r1,r2⟩:=pP q1.symm;refine⟨_,cl,h0,hsz,rfl,r1,r2,q2,VM q3,C9 g2 d rfl,?_⟩;rintro k rfl;have h1:1<ops'.size:=by simp at hsz;omega
  obtain⟨yo',g1,g3⟩:=c2 1 ops'[1] (by simp);simp at g1;subst g1;obtain⟨q1,q2,q3⟩:=M2 g3;obtain⟨y,r3,r4⟩:=iM q1;have hy:y=.tmp d:=by
   cases y with
   |tmp q=>simp only[Al,Opd.t.injEq]at r4;rw[r4]
   |const v=>cases r4
   |global g=>cases r4
   |func g=>cases r4
  subst hy;exact⟨_,w7 h1,r3,q2,VM q3,C9 g3 k rfl⟩
 ·cases e0
def iN(u:FrameMode)(rv:Value)(u':FrameMode):Prop:=∀(c₀:Frame)(cs:List Frame),c₀.mode=u->recoverD (c₀::cs)=some (rv,{c₀ with mode:=u'}::cs)\/(recoverD (c₀::cs)=none/\rv=.nilIface/\u'=u)
theorem kV:iN .returning .nilIface .returning:=λc₀ cs h=>.inr ⟨by simp[recoverD,h],rfl,rfl⟩
theorem kW(v:Value):iN (.panicking [⟨v,false,false⟩]) v (.panicking [⟨v,true,false⟩]):=λc₀ cs h=>.inl (by simp[recoverD,h])
def Xc(K:St->Prop):AE->St->Prop|.n,s=>K s|.r,s=>K s|_,_=>False
theorem MB{K:St->Prop}{s:St}(h:K s):Xc K .n s:=h
theorem kX{P:Program}{S:Tab}(hS:TabOK P S){f:Nat}{fn:Func}{rid d ntf:Nat}{ac:AC}{post:List AOp}(hpo:S2 d post=true)(hf:P.funcs[f]? =some fn)(hcf:Dj P fn=some (.seq (.reg rid (⟨some d,none,.rcv⟩::post)) ac,[]))(hnt:fn.ntmps=ntf){u u':FrameMode}{rv:Value}(hu:iN u rv u'){U:Cf}{h1:Hp}{vals:List Value}{ys:List AV}{cnt:Nat}{K:St->Prop}(hgl:Gl U)(hI:HInv U h1)(hal:∀m,U.al m->m.2<=cnt)(hv:RepL U ys vals)(hn:ys.length<=ntf)(h:Aq (Ctx.fd P S ntf U.w.heap.size) ac (Xc λs=>lk s.env (dk ntf)=.gd false (.tup [])/\K s) ⟨bB d rv ((dk ntf,.gd false (.tup []))::BC 0 ys) post,h1,cnt⟩):CallsDIn Fence.wide 0 P f vals.toArray u U.w λe u2 w'=>∃v Z s,e=.returned v/\u2=u'/\Z.w=w'/\Evo U Z/\HInv Z s.hp/\(∀m,Z.al m->m.2<=s.cnt)/\K s:=by
 subst hnt;unfold Dj at hcf;split at hcf
 ·rename_i b hbd;split at hcf
  ·rename_i c' r' g1 g2;simp only[yE,A57]at hcf;obtain⟨rfl,rfl⟩:=hcf;have hlen:=Bx hv;have hres:fn.results.toList=[]:=by
    cases hl:fn.results.toList with
    |nil=>rfl
    |cons x xs=>rw[hl]at g2;simp only[cRes]at g2;split at g2<;>simp at g2
   cases b with
   |seq b1 b2=>
    simp only[cCode]at g1;split at g1
    ·rename_i x' y' hx hy;simp only[yE,AC.seq.injEq]at g1;obtain⟨rfl,rfl⟩:=g1;cases b1 with
     |region id ops' dr=>
      simp only[cCode]at hx;obtain⟨o,cl,ho,hsz,rfl,r1,r2,r3,r4,hd,hpost⟩:=bC hx;refine callsDIn_of_wpSIn hf hbd trivial λc₀ cs hc₀=>?_
      refine wpSIn_seq (wpSIn_region ?_);obtain⟨a0,ha0⟩:∃a0:Act,a0={tmps:=vals.toArray++Array.replicate (fn.ntmps-vals.toArray.size) undef,defers:=[]}:=⟨_,rfl⟩
      rw[<-ha0];have hrun:(execOp a0.eval o).run P U.w=.ok .recover U.w:=by simp[execOp,r1,r2,resolve,invoke,builtin]
      have hw:∀a:Act,Region.wanted o (yielded ops' a.tmps)=true:=λa=>by unfold Region.wanted;rw[r4]
      have hsz0:a0.tmps.size=fn.ntmps:=by rw[ha0];simp;omega
      have hd0:a0.defers=[]:=by rw[ha0]
      have hT0:TInv U ((dk fn.ntmps,.gd false (.tup []))::BC 0 ys) a0:=by
       intro t;simp only[lk];by_cases ht:dk fn.ntmps=t
       ·rw[t8 ht];subst ht;have h2:¬dk fn.ntmps<a0.tmps.size:=by rw[hsz0];unfold dk;omega
        have:a0.tmps.getD (dk fn.ntmps) undef=undef:=by simp only[Array.getD,h2,dif_neg,not_false_eq_true]
        rw[this];simp[Rep]
       ·rw[t7 ht,F5];split
        ·rename_i ht;simp only[A16,A08,true_and]at ht;have hg:ys[t]? =some ys[t]:=t6 ht;obtain⟨x,g1,g2⟩:=C1 hv t _ hg;have e1:ys.getD (t-0) .un=ys[t]:=by simp[ht]
         have hlt':t<vals.length:=by omega
         have e2:a0.tmps.getD t undef=x:=by rw[ha0];rw[t6 hlt']at g1;simp at g1;simp[A32,A30,hlt',g1]
         rw[e1,e2];exact g2
        ·simp[Rep]
      have hk0:lk ((dk fn.ntmps,AV.gd false (.tup []))::BC 0 ys) (dk fn.ntmps)=.gd false (.tup []):=by simp only[lk,if_true]
      have key:∀cs' (a1:Act) (e1:Ar),cs'={c₀ with mode:=u'}::cs->a1.tmps.size=fn.ntmps->a1.defers=[]->TInv U e1 a1->lk e1 (dk fn.ntmps)=.gd false (.tup [])->Aq (Ctx.fd P S fn.ntmps U.w.heap.size) y' (Xc λs=>lk s.env (dk fn.ntmps)=.gd false (.tup [])/\K s) ⟨e1,h1,cnt⟩->(b2.wpSIn Fence.wide 0 P (bodyPostS P fn c₀ cs λe u2 w'=>∃v Z s,e=.returned v/\u2=u'/\Z.w=w'/\Evo U Z/\HInv Z s.hp/\(∀m,Z.al m->m.2<=s.cnt)/\K s)) a1 cs' U.w:=by
       rintro cs' a1 e1 rfl q1 q2 q3 q4 q5;refine wpSIn_of_wpIn rfl ?_;have hb:=q5 b2 hy U a1 ⟨⟨hI,q3,q1,?_⟩,hal,trivial⟩
       ·refine wpIn_mono hb ?_;rintro e a' w' ⟨Z,s',e',rfl,ev,h3,h4,h5⟩;have fin:(lk s'.env (dk fn.ntmps)=.gd false (.tup [])/\K s')->bodyPostS P fn c₀ cs (λe u2 w'=>∃v Z s,e=.returned v/\u2=u'/\Z.w=w'/\Evo U Z/\HInv Z s.hp/\(∀m,Z.al m->m.2<=s.cnt)/\K s) .ret a' ({c₀ with mode:=u'}::cs) Z.w:=by rintro⟨hk0,hk⟩;obtain⟨ms,dd,q1,_,_,q4⟩:=h3.1.df.sp;have e1:=q4.2.2.2 rfl;have e2:=q4.2.1 rfl hk0;subst e1 e2;have hr:=FU (P:=P) (fn:=fn) (tmps:=a'.tmps) (w:=Z.w) (vs:=[]) (by rw[hres];rfl);exact⟨q1,u',rfl,_,hr,_,Z,s',rfl,rfl,rfl,ev,h3.1.h,h3.2.1,hk⟩
        cases e with
        |normal=>simp[AE.of]at h4;subst h4;exact fin h5
        |ret=>simp[AE.of]at h4;subst h4;exact fin h5
        |exit i=>simp[AE.of]at h4;subst h4;exact h5.elim
        |goto l=>simp[AE.of]at h4
        |panic c=>obtain⟨v,rfl,rfl⟩:=AE.of_panic h4;exact h5.elim
        |outgrown=>simp[AE.of]at h4
       ·rw[q2];exact⟨⟨[],[],rfl,by simp,.nil,λ_=>rfl,λ_ _=>rfl,λ_ f' ys' h=>(by have h':=q4.symm.trans h;cases h'),λ_=>rfl⟩,w6 _,hgl⟩
      have hT1:TInv U ((d,.v rv)::(dk fn.ntmps,.gd false (.tup []))::BC 0 ys) (a0.put o.dst rv):=by rw[r3];exact TInv.put (d:=some d) (r:=.v rv) hT0 (λk hk=>by cases hk;omega) (by simp[Rep])
      have hk1:lk ((d,AV.v rv)::(dk fn.ntmps,AV.gd false (.tup []))::BC 0 ys) (dk fn.ntmps)=.gd false (.tup []):=(O9 hd).trans hk0;have rest:∀cs',cs'={c₀ with mode:=u'}::cs->wpOpsSIn Fence.wide 0 P ops' (Exit.thenS (b2.wpSIn Fence.wide 0 P (bodyPostS P fn c₀ cs λe u2 w'=>∃v Z s,e=.returned v/\u2=u'/\Z.w=w'/\Evo U Z/\HInv Z s.hp/\(∀m,Z.al m->m.2<=s.cnt)/\K s)) (bodyPostS P fn c₀ cs λe u2 w'=>∃v Z s,e=.returned v/\u2=u'/\Z.w=w'/\Evo U Z/\HInv Z s.hp/\(∀m,Z.al m->m.2<=s.cnt)/\K s)) (List.range' 1 post.length) (a0.put o.dst rv) cs' U.w:=by
       intro cs' hcs;rcases X9 hpo with rfl|⟨k,rfl⟩
       ·exact key _ _ _ hcs (by rw[Act.size_put];exact hsz0) (by rw[Act.defers_put];exact hd0) hT1 hk1 h
       ·obtain⟨o2,s1,s2,s3,s4,s5⟩:=hpost k rfl;have hev:(a0.put o.dst rv).eval (.tmp d)=rv:=by
         rw[r3];have:d<a0.tmps.size:=by omega
         simp[Act.eval,Act.put,this]
        have hrun2:(execOp (a0.put o.dst rv).eval o2).run P U.w=.ok (.value rv) U.w:=by rcases s2 with s2|s2<;>simp[execOp,s2,hev]
        have hw2:Region.wanted o2 (yielded ops' (a0.put o.dst rv).tmps)=true:=by unfold Region.wanted;rw[s4]
        show wpOpsSIn Fence.wide 0 P ops' _ [1] _ _ _;simp only[wpOpsSIn,s1,hrun2];refine⟨λf _=>trivial,?_⟩;rw[t8 hw2];refine key _ _ _ hcs (by rw[Act.size_put,Act.size_put];exact hsz0) (by rw[Act.defers_put,Act.defers_put];exact hd0) ?_ ((O9 s5).trans hk1) h;rw[s3];exact TInv.put (d:=some k) (r:=.v rv) hT1 (λq hq=>by cases hq;rw[Act.size_put];omega) (by simp[Rep])
      rw[hsz,A44,A36,<-List.range'_append_1 (s:=0) (m:=1) (n:=post.length)];show wpOpsSIn Fence.wide 0 P ops' _ (0::List.range' (0+1) post.length) _ _ _;simp only[wpOpsSIn,ho,hrun];refine⟨λf _=>trivial,?_⟩;rw[t8 (hw a0)];rcases hu c₀ cs hc₀ with hr|⟨hr,rfl,rfl⟩
      ·simp only[hr];exact rest _ rfl
      ·simp only[hr];exact rest _ (by rw[<-hc₀])
     |seq x y=>simp only[cCode]at hx;split at hx<;>simp at hx
     |cond c x y=>simp only[cCode]at hx;split at hx<;>simp at hx
     |rangeFunc f ps x y=>simp only[cCode]at hx;split at hx<;>simp at hx
     |_=>simp[cCode]at hx
    ·simp at g1
   |region id ops' d'=>simp only[cCode]at g1;obtain⟨_,_,⟨_,e⟩|⟨_,_,_,_,e⟩⟩:=BM g1<;>cases e
   |cond c x y=>simp only[cCode]at g1;split at g1<;>simp at g1
   |rangeFunc f ps x y=>simp only[cCode]at g1;split at g1<;>simp at g1
   |_=>simp[cCode]at g1
  ·simp at hcf
 ·simp at hcf
def Qr(P:Program)(S:Tab)(fc:Nat)(ys:List AV)(rv:Value)(hp:Hp)(cnt:Nat)(K:St->Prop):Prop:=∃fn rid d ntf ac post,P.funcs[fc]? =some fn/\Dj P fn=some (.seq (.reg rid (⟨some d,none,.rcv⟩::post)) ac,[])/\fn.ntmps=ntf/\ys.length<=ntf/\C0 P fc/\S2 d post=true/\∀hb,Aq (Ctx.fd P S ntf hb) ac (Xc λs=>lk s.env (dk ntf)=.gd false (.tup [])/\K s) ⟨bB d rv ((dk ntf,.gd false (.tup []))::BC 0 ys) post,hp,cnt⟩
def NY(P:Program)(S:Tab)(nt:Nat)(rvs:List RV)(r:AV):AE->St->Prop|.n,s=>(lk s.env (dk nt)=.gd false (.tup [])/\Gb rvs r s)\/∃fc ys,lk s.env (dk nt)=.gd false (.clo (.func fc) [] ys)/\Qr P S fc ys .nilIface s.hp s.cnt λs'=>Gb rvs r ⟨s.env,s'.hp,s'.cnt⟩|.r,s=>(lk s.env (dk nt)=.gd false (.tup [])/\Gb rvs r s)\/∃fc ys,lk s.env (dk nt)=.gd false (.clo (.func fc) [] ys)/\Qr P S fc ys .nilIface s.hp s.cnt λs'=>Gb rvs r ⟨s.env,s'.hp,s'.cnt⟩|.p v,s=>∃fc ys,lk s.env (dk nt)=.gd false (.clo (.func fc) [] ys)/\Qr P S fc ys v s.hp s.cnt λs'=>Gb rvs r ⟨s.env,s'.hp,s'.cnt⟩|.x _,_=>False
theorem Tp{P:Program}{S:Tab}(hS:TabOK P S){f:Nat}{fn:Func}{c:AC}{rvs:List RV}{args:List AV}{r:AV}(nt:Nat)(hf:P.funcs[f]? =some fn)(hc:Dj P fn=some (c,rvs))(hnt:fn.ntmps=nt)(hn:args.length<=nt)(h:∀hb,Aq (Ctx.fd P S nt hb) c (NY P S nt rvs r) ⟨(dk nt,.gd false (.tup []))::BC 0 args,[],0⟩):PCall P f args r:=by
 subst hnt;unfold Dj at hc;split at hc
 rotate_left
 ·simp at hc
 rename_i b hbd;split at hc
 rotate_left
 ·simp at hc
 rename_i c' r' hcc hr;simp only[yE,A57]at hc;obtain⟨rfl,rfl⟩:=hc;intro U vs hgl hlt hp hx;have hlen:=Bx hx
 let Z:=U.fresh
 have hgt:Gl Z:=λb j hj=>⟨⟨λh=>h,by rintro(h|h);exact(hgl b j hj).1.1 h;exact(hgl b j hj).1.2.1 h,(hgl b j hj).1.2.2⟩,(hgl b j hj).2⟩
 have hx':RepL Z args vs:=RepL.ofPure (U:=U) (σ':=Z) (λb hb=>⟨λh=>h,by rintro(h|h);exact hb.1 h;exact hb.2.1 h,hb.2.2⟩) (λ_ _=>rfl) args vs hp hx;have hkey:∀x,lk ((dk fn.ntmps,x)::BC 0 args) (dk fn.ntmps)=x:=λx=>by simp only[lk,if_true]
 have hI:Inv Z ((dk fn.ntmps,.gd false (.tup []))::BC 0 args) [] {tmps:=vs.toArray++Array.replicate (fn.ntmps-vs.toArray.size) undef,defers:=[]} fn.ntmps (U.w.heap.size,true):=by
  refine⟨⟨λn=>rfl,λn j c h=>by simp[hl]at h,λn sz live rows d h=>by simp[hl]at h,?_,λb h=>h.elim,hlt,λb h=>h.elim⟩,λt=>?_,by simp;omega,⟨⟨[],[],rfl,by simp,.nil,λ_=>rfl,λ_ _=>rfl,λ_ f' ys' h=>(by rw[hkey]at h;cases h),λ_=>rfl⟩,w6 _,hgt⟩⟩
  ·rintro p q b (⟨_,_,j,c,h⟩|⟨_,⟨_,_,_,h⟩,_⟩) _<;>simp[hl]at h
  ·simp only[lk];by_cases ht:dk fn.ntmps=t
   ·rw[t8 ht];subst ht;have h2:¬dk fn.ntmps<(vs.toArray++Array.replicate (fn.ntmps-vs.toArray.size) undef).size:=by simp only[Array.size_append,Array.size_replicate,List.size_toArray];unfold dk;omega
    have:(vs.toArray++Array.replicate (fn.ntmps-vs.toArray.size) undef).getD (dk fn.ntmps) undef=undef:=by simp only[Array.getD,h2,dif_neg,not_false_eq_true]
    rw[this];simp[Rep]
   ·rw[t7 ht,F5];split
    ·rename_i ht;simp only[A16,A08,true_and]at ht;have hg:args[t]? =some args[t]:=t6 ht;obtain⟨x,g1,g2⟩:=C1 hx' t _ hg;have e1:args.getD (t-0) .un=args[t]:=by simp[ht]
     have hlt':t<vs.length:=by omega
     have e2:(vs.toArray++Array.replicate (fn.ntmps-vs.toArray.size) undef).getD t undef=x:=by rw[t6 hlt']at g1;simp at g1;simp[A32,A30,hlt',g1]
     rw[e1,e2];exact g2
    ·simp[Rep]
 have hw:=h U.w.heap.size b hcc Z _ ⟨hI,λm hm=>hm.elim,trivial⟩;refine callsIn_wide.1 (callsIn_of_wp_marks (n:=0) hf hbd trivial (wpIn_mono hw ?_));rintro e a' w' ⟨σ',s',e',rfl,h2,h3,h4,h5⟩;have h2:Evo Z σ':=h2;have fin:∀(ρ0:Cf)(hp':Hp)(cnt':Nat),Evo Z ρ0->HInv ρ0 hp'->TInv ρ0 s'.env a'->Gb r' r ⟨s'.env,hp',cnt'⟩->LeavesInM Fence.wide 0 P fn a'.tmps (λe w'=>∃v',e=.returned v'/\(∀(b:Nat)(o:Obj),U.w.heap[b]? =some o->w'.heap[b]? =some o)/\SameO U.w w'/\BN r=true/\Rep (U.at w') r v') [] .returning ρ0.w:=by
  rintro ρ0 hp' cnt' ev hh ht ⟨vc,xs,g1,g2,g3,g4,g5⟩;have hI':Inv ρ0 s'.env hp' {a' with defers:=[]} fn.ntmps (U.w.heap.size,false):=⟨hh,ht,h3.1.sz,DOK.nil ev.sz (hgt.mono ev)⟩
  obtain⟨us,k1,k2⟩:=FT (s:=⟨s'.env,hp',cnt'⟩) hI' hr g1 g2;refine⟨_,FU k1,_,rfl,λb o hb=>(ev.fro b o hb (λh=>h)).1,ev.io,g5,?_⟩;have hone:Rep ρ0 (one xs) (if h:us.toArray.size=1 then us.toArray[0]else .tuple us.toArray):=by
   have hl':=Bx k2;unfold one;split
   ·rename_i x;simp only[RepL]at k2;obtain⟨y,ys,rfl,e2,rfl⟩:=k2;simpa using e2
   ·rename_i hno;have hne:us.toArray.size≠1:=by
     intro h1;simp at h1;rw[h1]at hl';cases xs with
     |nil=>simp at hl'
     |cons x xs=>cases xs with
      |nil=>exact hno x rfl
      |cons _ _=>simp at hl'
    rw[dif_neg hne];simp only[Rep];exact⟨us,rfl,k2⟩
  let W:Cf:={ρ0 with M:=λ_=>False}
  have e:Evo ρ0 W:=⟨λ_ h=>⟨h,rfl⟩,λ_ _ l h=>⟨l,h,w6 _,λ_=>rfl⟩,λ_ _ h _=>⟨h,λh=>h⟩,rfl,w6 _,SameO.refl _⟩
  have h6:=L0 (Z:=W) hI'.h e rfl (λ_ h=>h) _ _ g3 hone;have h7:=g4 _ _ h6;refine Rep.ofPure (U:=W) (σ':=U.at ρ0.w) (λb hb=>?_) (λ_ _=>rfl) r _ g5 h7;have hO:W.O=Z.O:=ev.out;have hb1:=hb.2.1;rw[hO]at hb1;exact⟨λh=>hb1 (.inl h),λh=>hb1 (.inr h),hb.2.2⟩
 obtain⟨ms,dd,q1,_,_,q4⟩:=h3.1.df.sp;have hms:=q4.2.2.2 rfl;subst hms;rw[A02]at q1;have clo:∀(u:FrameMode)(rv:Value)(u':FrameMode)(fc:Nat)(ys:List AV),u≠.run->iN u rv u'->settle u'=.returning->lk s'.env (dk fn.ntmps)=.gd false (.clo (.func fc) [] ys)->Qr P S fc ys rv s'.hp s'.cnt (λt=>Gb r' r ⟨s'.env,t.hp,t.cnt⟩)->LeavesInM Fence.wide 0 P fn a'.tmps (λe w'=>∃v',e=.returned v'/\(∀(b:Nat)(o:Obj),U.w.heap[b]? =some o->w'.heap[b]? =some o)/\SameO U.w w'/\BN r=true/\Rep (U.at w') r v') a'.defers u σ'.w:=by
  rintro u rv u' fc ys hrun hu hset hk ⟨fnc,rid,d,ntf,ac,post,z1,z2,z3,z4,z5,z0,z6⟩;obtain⟨vals,y1,y2⟩:=q4.2.2.1 rfl fc ys hk;rw[q1,y2];refine⟨hrun,.inr ⟨λh=>by simp[Fence.wide]at h,.func fc,vals.toArray,fc,vals.toArray,rfl,?_,λ_ _=>trivial,?_⟩⟩
  ·simp only[invoke];have:=FE z5 (#[]++vals.toArray) σ'.w;simpa using this
  ·refine(kX hS z0 z1 z2 z3 hu h3.1.df.gl h3.1.h h3.2.1 y1 z4 (z6 _)).mono ?_;rintro e u2 w2 ⟨v,τ2,t,rfl,rfl,rfl,ev2,hh2,hal2,hk2⟩;show LeavesInM _ _ _ _ _ _ [] (settle u2) _;rw[hset];exact fin τ2 t.hp t.cnt (h2.trans ev2) hh2 (h3.1.t.mono ev2) hk2
 have done:((lk s'.env (dk fn.ntmps)=.gd false (.tup [])/\Gb r' r s')\/∃fc ys,lk s'.env (dk fn.ntmps)=.gd false (.clo (.func fc) [] ys)/\Qr P S fc ys .nilIface s'.hp s'.cnt λt=>Gb r' r ⟨s'.env,t.hp,t.cnt⟩)->LeavesInM Fence.wide 0 P fn a'.tmps (λe w'=>∃v',e=.returned v'/\(∀(b:Nat)(o:Obj),U.w.heap[b]? =some o->w'.heap[b]? =some o)/\SameO U.w w'/\BN r=true/\Rep (U.at w') r v') a'.defers .returning σ'.w:=by
  rintro(⟨k0,k1⟩|⟨fc,ys,k0,k1⟩)
  ·have hdd:=q4.2.1 rfl k0;rw[q1,hdd];exact fin σ' s'.hp s'.cnt h2 h3.1.h h3.1.t k1
  ·exact clo .returning .nilIface .returning fc ys (by simp) kV rfl k0 k1
 cases e with
 |normal=>simp[AE.of]at h4;subst h4;exact done h5
 |ret=>simp[AE.of]at h4;subst h4;exact done h5
 |exit i=>simp[AE.of]at h4;subst h4;exact h5.elim
 |goto l=>simp[AE.of]at h4
 |panic c=>obtain⟨v,rfl,rfl⟩:=AE.of_panic h4;obtain⟨fc,ys,k0,k1⟩:=h5;exact clo (.panicking [⟨v,false,false⟩]) v (.panicking [⟨v,true,false⟩]) fc ys (by simp) (kW v) rfl k0 k1
 |outgrown=>simp[AE.of]at h4
attribute [go_sem] bB
end
open Go Go.RowKit
theorem Wy:∃j,Tryz.prog.info? 151=some j/\j.size=2:=Option.map_eq_some_iff.1 (show(Tryz.prog.info? 151).map (·.size)=some 2 by kernel_rfl)
theorem nL:∃i,Tryz.prog.info? 5=some i/\i.zero=some (.int .u8 0)/\i.size=1/\i.bytes=1:=by
 have h:(Tryz.prog.info? 5).map (λi=>(i.zero,i.size,i.bytes))=some (some (.int .u8 0),1,1):=by kernel_rfl
 simp_all
theorem nN(b:Nat)(w:World)(h0:w.cell? ⟨b,0,none⟩=some (.pointer (some ⟨b,0,none⟩))):Calls Tryz.prog 141 #[.pointer (some ⟨b,0,none⟩)] w λe w'=>e=.returned (.tuple #[])/\w'=w:=by
 obtain⟨j,hj,_⟩:=Wy
 go_enter Tryz.func141,Tryz.ntmps141
 go_wp2
 rw[Lib.run_neq_ptr_same w _ Tryz.underlying148 hj]
 go_wp2
 go_end0
 exact⟨rfl,rfl⟩
structure BT(T:TypeId):Prop where
 lies:liesAt Tryz.prog Tryz.prog.depth T (2/Tryz.prog.cellsOf T) 0 151 1=true
 ne:T≠5
theorem eC{T:TypeId}(hT:BT T)(b:Nat)(w:World)(h0:w.cell? ⟨b,0,none⟩=some (.pointer none))(hsh:w.shape? b=some (T,2))(hfz:w.frozen? ⟨b,0,none⟩=false):Calls Tryz.prog 141 #[.pointer (some ⟨b,0,none⟩)] w λe w'=>e=.returned (.tuple #[])/\w'=w.setCell ⟨b,0,none⟩ (.pointer (some ⟨b,0,none⟩)):=by
 obtain⟨j,hj,hjs⟩:=Wy
 go_enter Tryz.func141,Tryz.ntmps141
 go_wp2
 rw[Lib.run_to_unsafe w ⟨b,0,none⟩ Tryz.underlying148 Tryz.underlying207 hj (by rw[hjs];decide) hsh (Nat.zero_lt_succ 1)];simp only[Result.andThen];rw[Oper.upon_value]
 go_wp2
 rw[run_callFunc_extern Tryz.func161 (by kernel_rfl) (by kernel_rfl) (by kernel_rfl) (e:=Extern.AbiNoEscape.same) (by kernel_rfl)];rw[Lib.run_noEscape];simp only[Result.andThen];rw[Oper.upon_value]
 go_wp2
 rw[Lib.run_from_unsafe w ⟨b,0,none⟩ Tryz.underlying207 Tryz.underlying148 hj hsh hT.lies];simp only[Result.andThen];rw[Oper.upon_value]
 go_wp2
 go_end0
 exact⟨rfl,rfl⟩
theorem wF{P:Program}(w:World)(t u ty e:TypeId)(i:TypeInfo)(ht:P.underlying t=some (.slice e))(hu:P.underlying u=some .string)(hi:P.info? e=some i)(hz:i.zero=some (.int .u8 0))(hsize:i.size=1)(hby:i.bytes=1)(v:Value)(n:Nat)(xs:List Value)(hown:w.ownsRow 0 e 1 v n xs)(s:ByteArray)(h63:n+s.size<=maxLen)(hbytes:n+s.size<=140737488355328):∃v' w',(Builtin.append_ #[t,u] ty #[v,.string s]).run P w=.ok v' w'/\w'.ownsRow 0 e 1 v' (n+s.size) (xs++Lib.strCells s)/\w.grownBy w' v.ownBlock/\(∀k,v'.ownBlock=some k->v.ownBlock=some k\/w.heap.size<=k):=by
 obtain⟨v',w',h1,h2,h3,h4⟩:=Lib.run_append_own_string (P:=P) w 0 t u ty e i ht hu hi hz hsize hby v n xs hown s h63 hbytes (A16 _);refine⟨v',w',h1,h2,h3,λk hk=>?_⟩;simp only[maxLen]at h63;rcases hown.2 with⟨rfl,rfl⟩|⟨g,cap,cur,rfl,hbg,hg,hnc,hcm,hcs,htake⟩
 ·have hx:xs=[]:=List.eq_nil_of_length_eq_zero (by simpa using hown.1);subst hx;obtain⟨v2,w2,g1,g2,_⟩:=Lib.run_append_own_string (P:=P) w w.heap.size t u ty e i ht hu hi hz hsize hby _ 0 [] (World.ownsRow_nil w _ e 1) s h63 hbytes (w6 _);rw[h1]at g1;cases g1
  exact .inr (g2.lt k hk).1
 ·by_cases hroom:n+s.size<=cap
  ·have hr:=Lib.run_append_room_string (P:=P) w t u ty e i ht hu hi hsize g n cap cur hg s hroom (by omega);rw[h1]at hr;cases hr
   exact .inl hk
  ·have holds:∀j u,xs[j]? =some u->w.cell? ((⟨g,0,none⟩:Addr).add j)=some u:=hown.cells (g:=g) rfl;have hr:=Lib.run_append_grow_string (P:=P) w t u ty e i (.int .u8 0) ht hu hi hz ⟨g,0,none⟩ n cap xs (by rw[hsize];simpa using hown.1) holds s (by omega) (by omega) (by rw[hby];exact growslice_fits (by omega) (by omega));rw[h1]at hr;cases hr
   simp only[Value.ownBlock,yE]at hk;exact .inr (by omega)
def E7(w:World)(b:Nat):Option Nat:=(w.cell? ⟨b,1,none⟩).bind Value.ownBlock
def KB(T:TypeId)(w:World)(b:Nat)(l:List UInt8):Prop:=Lib.IsBuilder T 5 0 b (Lib.byteCells l) w
structure KStep(w w':World)(b:Nat):Prop where
 old:∀x,x<w.heap.size->x≠b->E7 w b≠some x->w'.heap[x]? =w.heap[x]?
 row:∀g,E7 w' b=some g->E7 w b=some g\/w.heap.size<=g
 sz:w.heap.size<=w'.heap.size
 io:w'.os=w.os/\w'.output=w.output
theorem KStep.refl(w:World)(b:Nat):KStep w w b:=⟨λ_ _ _ _=>rfl,λ_ h=>.inl h,w6 _,rfl,rfl⟩
theorem kb_row{T:TypeId}{w:World}{b:Nat}{p v:Value}{f:Nat×Nat}(hb:w.heap[b]? =some (.cells #[p,v] T f)):E7 w b=v.ownBlock:=by unfold E7;rw[Lib.cell_of_heap hb];rfl
theorem KStep.trans{w w1 w2:World}{b:Nat}(h:KStep w w1 b)(k:KStep w1 w2 b):KStep w w2 b where
 old x hx h1 h2:=by
  rw[k.old x (A20 hx h.sz) h1 λe=>?_,h.old x hx h1 h2];rcases h.row x e with e|e
  ·exact h2 e
  ·omega
 row g hg:=by
  rcases k.row g hg with e|e
  ·exact h.row g e
  ·exact .inr (A09 h.sz e)
 sz:=A09 h.sz k.sz
 io:=⟨k.io.1.trans h.io.1,k.io.2.trans h.io.2⟩
theorem KStep.set{T:TypeId}{w:World}{b:Nat}{l:List UInt8}{p:Value}(h:Lib.BuilderAt T 5 0 b p (Lib.byteCells l) w)(q:Value):KStep w (w.setCell ⟨b,0,none⟩ q) b:=by
 obtain⟨_,v,hb,_⟩:=h;refine⟨λx _ h1 _=>?_,λg hg=>.inl ?_,by simp[World.setCell],rfl,rfl⟩
 ·simp[World.setCell,Array.getElem?_modify,Ne.symm h1]
 ·rw[kb_row hb];have hb':(w.setCell ⟨b,0,none⟩ q).heap[b]? =some (.cells #[q,v] T (0,0)):=by simp[World.setCell,Array.getElem?_modify,hb]
  rw[kb_row hb']at hg;exact hg
theorem wG{T:TypeId}(hT:BT T)(b:Nat)(l:List UInt8)(w:World)(h:KB T w b l):Calls Tryz.prog 141 #[.pointer (some ⟨b,0,none⟩)] w λe w'=>e=.returned (.tuple #[])/\Lib.BuilderAt T 5 0 b (.pointer (some ⟨b,0,none⟩)) (Lib.byteCells l) w'/\KStep w w' b:=by
 rcases h with h|h
 ·refine(eC hT b w h.cell0 h.shape h.frozen0).mono ?_;rintro e w' ⟨rfl,rfl⟩;exact⟨rfl,h.used _,KStep.set h _⟩
 ·refine(nN b w h.cell0).mono ?_;rintro e w' ⟨rfl,rfl⟩;exact⟨rfl,h,KStep.refl _ _⟩
theorem eD{T:TypeId}(hT:BT T)(b:Nat)(l m:List UInt8)(w:World)(h:KB T w b l)(hl:l.length+m.length<=140737488355328):Calls Tryz.prog 76 #[.pointer (some ⟨b,0,none⟩),.string ⟨m.toArray⟩] w λe w'=>e=.returned (.tuple #[.int .i64 m.length,.nilIface])/\KB T w' b (l++m)/\KStep w w' b:=by
 obtain⟨i0,hi,hz0,hz1,hz2⟩:=nL
 go_enter Tryz.func76,Tryz.ntmps76
 go_wp2_with (go_at_call 141;refine(wG hT b l _ h).mono ?_)
 rintro e w1 ⟨rfl,h1,hb1⟩;obtain⟨hB,v,hbk,hown,hne⟩:=h1;have c0:w1.cell? ⟨b,0,none⟩=some (.pointer (some ⟨b,0,none⟩)):=by rw[Lib.cell_of_heap hbk];rfl
 have c1:w1.cell? ⟨b,1,none⟩=some v:=by rw[Lib.cell_of_heap hbk];rfl
 have hs:(⟨m.toArray⟩:ByteArray).size=m.length:=by simp[ByteArray.size]
 have hbl:(Lib.byteCells l).length=l.length:=Lib.byteCells_length l;have hst:Lib.strCells ⟨m.toArray⟩=Lib.byteCells m:=by simp[Lib.strCells,Lib.byteCells]
 obtain⟨v',w2,hr,hown',hgrow,hrow⟩:=wF (P:=Tryz.prog) w1 149 9 149 5 i0 Tryz.underlying149 Tryz.underlying9 hi hz0 hz1 hz2 v _ _ hown ⟨m.toArray⟩ (by rw[hs,hbl];unfold maxLen;omega) (by rw[hs,hbl];omega);have hlt:b<w1.heap.size:=by grind
 have hb2:w2.heap[b]? =some (.cells #[.pointer (some ⟨b,0,none⟩),v] T (0,0)):=by rw[hgrow.block b hlt (λe=>hne e.symm)];exact hbk
 have d0:w2.cell? ⟨b,0,none⟩=some (.pointer (some ⟨b,0,none⟩)):=by rw[Lib.cell_of_heap hb2];rfl
 have d1:w2.cell? ⟨b,1,none⟩=some v:=by rw[Lib.cell_of_heap hb2];rfl
 have f1:w2.frozen? ⟨b,1,none⟩=false:=Lib.frozen_of_heap hb2 1;obtain⟨ao,n',cap,rfl⟩:∃ao n' cap,v'=.slice ao n' cap:=by
  rcases hown'.2 with⟨hv,_⟩|⟨g,cap,cur,hv,_⟩
  ·exact⟨_,_,_,hv⟩
  ·exact⟨_,_,_,hv⟩
 go_wp2_with (at_builtin;refine Lib.wpList_append_run _ rfl _ _ _ _ rfl _ _ rfl rfl _ _ hr ?_)
 go_ret2
 have hbs:∀b2:Nat,b2=b->(w2.setCell ⟨b,1,none⟩ (.slice ao n' cap)).heap[b2]? =some (.cells #[.pointer (some ⟨b,0,none⟩),.slice ao n' cap] T (0,0)):=by rintro _ rfl;simp[World.setCell,Array.getElem?_modify,hb2]
 refine⟨rfl,.inr ?_,hb1.trans ⟨λx hx h1 h2=>?_,λg hg=>?_,?_,?_⟩⟩
 ·refine Lib.BuilderAt.put (T:=T) (e:=5) hB hb2 ?_ hT.ne;have e1:Lib.byteCells (l++m)=Lib.byteCells l++Lib.strCells ⟨m.toArray⟩:=by rw[hst];simp[Lib.byteCells]
  rw[e1,w9,Lib.strCells_length];exact hown'
 ·rw[kb_row hbk]at h2;have:(w2.setCell ⟨b,1,none⟩ (.slice ao n' cap)).heap[x]? =w2.heap[x]? :=by simp[World.setCell,Array.getElem?_modify,Ne.symm h1]
  rw[this];exact hgrow.block x hx (λe=>h2 e.symm)
 ·rw[kb_row (hbs b rfl)]at hg;rw[kb_row hbk];exact hrow g hg
 ·show w1.heap.size<=(w2.setCell _ _).heap.size;have:(w2.setCell ⟨b,1,none⟩ (.slice ao n' cap)).heap.size=w2.heap.size:=by simp[World.setCell]
  rw[this];exact hgrow.size
 ·exact⟨hgrow.os,hgrow.output⟩
theorem Zw{T:TypeId}(b:Nat)(l:List UInt8)(w:World)(h:KB T w b l)(h0:l≠[]):Calls Tryz.prog 77 #[.pointer (some ⟨b,0,none⟩)] w λe w'=>e=.returned (.string ⟨l.toArray⟩)/\KStep w w' b:=by
 obtain⟨p,hB,v,hbk,hown,hne⟩:∃p,Lib.BuilderAt T 5 0 b p (Lib.byteCells l) w:=by
  rcases h with h|h
  ·exact⟨_,h⟩
  ·exact⟨_,h⟩
 have hl0:l.length≠0:=by simpa using h0
 rw[Lib.byteCells_length]at hown;obtain⟨g,cap,cur,rfl,hbg,hg,hnc,hcm,hcs,htake⟩:∃g cap cur,v=.slice (some ⟨g,0,none⟩) l.length cap/\0<=g/\w.heap[g]? =some (.cells cur 5 (0,0))/\l.length<=cap/\cap<=maxLen/\cur.size=cap*1/\cur.toList.take (l.length*1)=Lib.byteCells l:=by
  rcases hown.2 with⟨_,hz⟩|⟨g,cap,cur,hv,r⟩
  ·exact absurd hz hl0
  ·exact⟨g,cap,cur,hv,r⟩
 have hrow:E7 w b=some g:=by rw[kb_row hbk];rfl
 have c1:w.drew.cell? ⟨b,1,none⟩=some (.slice (some ⟨g,0,none⟩) l.length cap):=by have:w.drew.heap[b]? =some (.cells #[p,.slice (some ⟨g,0,none⟩) l.length cap] T (0,0)):=hbk;rw[Lib.cell_of_heap this];rfl
 have hSD:(Builtin.unsafeSliceData_ #[149] 191 #[.slice (some ⟨g,0,none⟩) l.length cap]).run Tryz.prog w.drew=.ok (.pointer (some ⟨g,0,none⟩)) w.drew:=Lib.run_unsafeSliceData_row _ _ _ _ _ _ (by omega);have hUS:(Builtin.unsafeString_ #[191,3] 9 #[.pointer (some ⟨g,0,none⟩),.int .i64 l.length]).run Tryz.prog w.drew=.ok (.string ⟨l.toArray⟩) (w.drew.freeze ⟨g,0,none⟩ l.length):=by refine Lib.run_unsafeString_row w.drew 191 3 9 5 Tryz.underlying191 (by kernel_rfl) g cur.size (by have hg':w.drew.heap[g]? =some (.cells cur 5 (0,0)):=hg;simp[World.shape?,hg']) l h0 (by omega) (by unfold maxLen at hcm;omega) ?_;intro j x hx;have:=hown.cells (g:=g) rfl j (.int .u8 x.toNat) (by simp[Lib.byteCells,hx]);exact this
 have hfin:KStep w (w.drew.freeze ⟨g,0,none⟩ l.length) b:=by
  have hh:∀x,x≠g->(w.drew.freeze ⟨g,0,none⟩ l.length).heap[x]? =w.heap[x]? :=λx hx=>by simp only[World.freeze,t7 hl0];rw[Array.getElem?_modify,t7 (Ne.symm hx)];rfl
  have hgb:b≠g:=λe=>hne (by rw[e];rfl)
  refine⟨λx _ _ h2=>hh x (λe=>h2 (by rw[hrow,e])),λk hk=>.inl ?_,?_,?_⟩
  ·have hb':=(hh b hgb).trans hbk;rw[kb_row hb']at hk;rw[kb_row hbk];exact hk
  ·simp only[World.freeze,t7 hl0,Array.size_modify];exact w6 _
  ·simp only[World.freeze,t7 hl0];exact⟨rfl,rfl⟩
 go_enter Tryz.func77,Tryz.ntmps77
 go_wp2
 go_region
 all_goals (go_wp2;go_ret;exact⟨rfl,hfin⟩)
