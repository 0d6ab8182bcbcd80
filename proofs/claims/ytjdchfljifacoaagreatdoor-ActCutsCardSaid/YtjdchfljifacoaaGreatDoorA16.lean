import Derived.Test.YtjdchfljifacoaaGreatDoorK1
set_option linter.all false
namespace Go.Proofs.YtjdchfljifacoaaGreatDoor.Am
open Go
def bk:Nat:=1500000
@[reducible] def gB(b:Nat)(l:List UInt8):AV:=.gd false (.agg [.v (.int .i64 b),.v (.string (sB l))])
theorem Tq{b b':Nat}{l l':List UInt8}(h:gB b l=gB b' l'):b=b'/\l=l':=by
 injection h with _ h
 injection h with h
 injection h with h1 h2
 injection h1 with h1
 injection h1 with _ h1
 injection h2 with h2 _
 injection h2 with h2
 injection h2 with h2
 refine⟨by omega,?_⟩;have:=congrArg bL h2;simpa using this
structure BI(N:Nat)(X:Nat->Prop)(U:Cf)(b:Nat)(l:List UInt8):Prop where
 kb:∃T,BT T/\KB T U.w b l
 o:U.O b/\¬U.M b/\(N<=b\/X b)
 r:∀g,E7 U.w b=some g->U.O g/\¬U.M g/\(N<=g\/X g)
theorem KB.lt{T:TypeId}{w:World}{b:Nat}{l:List UInt8}(h:KB T w b l):b<w.heap.size:=by rcases h with h|h<;>exact h.lt
theorem KB.cells{T:TypeId}{w:World}{b:Nat}{l:List UInt8}(h:KB T w b l):∃p v,w.heap[b]? =some (.cells #[p,v] T (0,0))/\E7 w b=v.ownBlock/\∀g,v.ownBlock=some g->g<w.heap.size/\∃cs σ f,w.heap[g]? =some (.cells cs σ f):=by
 have key:∀p,Lib.BuilderAt T 5 0 b p (Lib.byteCells l) w->∃p v,w.heap[b]? =some (.cells #[p,v] T (0,0))/\E7 w b=v.ownBlock/\∀g,v.ownBlock=some g->g<w.heap.size/\∃cs σ f,w.heap[g]? =some (.cells cs σ f):=by
  rintro p ⟨_,v,hb,hown,_⟩;refine⟨p,v,hb,kb_row hb,λg hg=>⟨(hown.lt g hg).2,?_⟩⟩;rcases hown.2 with⟨rfl,_⟩|⟨g',cap,cur,rfl,_,hgg,_⟩
  ·simp[Value.ownBlock]at hg
  ·simp[Value.ownBlock]at hg;subst hg;exact⟨_,_,_,hgg⟩
 rcases h with h|h<;>exact key _ h
theorem KB.ne_row{T:TypeId}{w:World}{b:Nat}{l:List UInt8}(h:KB T w b l):¬E7 w b=some b:=by
 have key:∀p,Lib.BuilderAt T 5 0 b p (Lib.byteCells l) w->¬E7 w b=some b:=by rintro p ⟨h0,v,h1,h2,h3⟩ h;rw[kb_row h1]at h;exact h3 h
 rcases h with h|h<;>exact key _ h
theorem KB.keep{T:TypeId}{w w':World}{b:Nat}{l:List UInt8}(h:KB T w b l)(hb:w'.heap[b]? =w.heap[b]?)(hg:∀g,E7 w b=some g->w'.heap[g]? =w.heap[g]?):KB T w' b l/\E7 w' b=E7 w b:=by
 have key:∀p,Lib.BuilderAt T 5 0 b p (Lib.byteCells l) w->Lib.BuilderAt T 5 0 b p (Lib.byteCells l) w'/\E7 w' b=E7 w b:=by
  rintro p ⟨h0,v,h1,h2,h3⟩;have e:=kb_row h1;refine⟨⟨h0,v,hb.trans h1,⟨h2.1,?_⟩,h3⟩,by rw[kb_row h1,kb_row (hb.trans h1)]⟩;rcases h2.2 with h4|⟨g,cap,cur,rfl,q1,q2,q3⟩
  ·exact .inl h4
  ·refine .inr ⟨g,cap,cur,rfl,q1,?_,q3⟩;rw[hg g e];exact q2
 rcases h with h|h
 ·exact⟨.inl (key _ h).1,(key _ h).2⟩
 ·exact⟨.inr (key _ h).1,(key _ h).2⟩
theorem BI.mono{N:Nat}{X:Nat->Prop}{U σ':Cf}{b:Nat}{l:List UInt8}(h:BI N X U b l)(e:Evo U σ'):BI N X σ' b l:=by
 obtain⟨⟨T,hT,hk⟩,o,r⟩:=h;have hb:∀x,x<U.w.heap.size->¬U.M x->σ'.w.heap[x]? =U.w.heap[x]?/\¬σ'.M x:=λx hx hM=>by obtain⟨g1,g2⟩:=e.fro x _ (w7 hx) hM;grind
 obtain⟨p,v,c1,c2,c3⟩:=hk.cells;obtain⟨k1,k2⟩:=hk.keep (hb b hk.lt o.2.1).1 λg hg=>by grind
 refine⟨⟨T,hT,k1⟩,⟨by rw[e.out];exact o.1,by grind,o.2.2⟩,λg hg=>?_⟩;grind[e.out]
structure EvoB(N:Nat)(X:Nat->Prop)(U σ':Cf):Prop where
 ev:Ev U σ'
 old:∀x,x<N->¬X x->∀o,U.w.heap[x]? =some o->¬U.M x->σ'.w.heap[x]? =some o/\¬σ'.M x
 out:∀x,U.O x->σ'.O x
 sz:U.w.heap.size<=σ'.w.heap.size
 io:SameO U.w σ'.w
theorem Evo.evoB{N:Nat}{X:Nat->Prop}{U σ':Cf}(h:Evo U σ'):EvoB N X U σ':=⟨h.ev,λx _ _ o ho hM=>h.fro x o ho hM,λx hx=>by rw[h.out];exact hx,h.sz,h.io⟩
theorem EvoB.trans{N:Nat}{X:Nat->Prop}{a b c:Cf}(h:EvoB N X a b)(k:EvoB N X b c):EvoB N X a c where
 ev:=h.ev.trans k.ev
 old x hx h1 o ho hM:=by obtain⟨g1,g2⟩:=h.old x hx h1 o ho hM;exact k.old x hx h1 o g1 g2
 out x hx:=k.out x (h.out x hx)
 sz:=A09 h.sz k.sz
 io:=h.io.trans k.io
def Ctx.bd(P:Program)(S:Tab)(nt hb N:Nat)(X:Nat->Prop)(hnt:nt<=bk):Ctx:={P:=P,F:=Fence.wide,S:=S,nt:=nt,hb:=(hb,false),R:=EvoB N X,G:=λe U=>(N<=U.w.heap.size)/\∀b l,lk e bk=gB b l->BI N X U b l,ofE:=Evo.evoB,tr:=EvoB.trans,g:=λ{U σ' e e'} h ev hl=>⟨A09 h.1 ev.sz,λb l hb=>by
  rcases hl bk hnt with h1|h1
  ·rw[h1]at hb;cases hb
  ·exact(h.2 b l (h1.symm.trans hb)).mono ev⟩}
theorem Ctx.bd_ok{P:Program}{S:Tab}{nt hb N:Nat}{X:Nat->Prop}{hnt:nt<=bk}(h:TabOK P S):(Ctx.bd P S nt hb N X hnt).OK:=⟨h,.inl (Eq.refl _)⟩
theorem bD{P:Program}{S:Tab}{nt hb N:Nat}{X:Nat->Prop}{hnt:nt<=bk}:(Ctx.bd P S nt hb N X hnt).S=S:=rfl
def zS(P:Program)(o:Oper)(a:Act)(w:World)(R:Value->World->Prop):Prop:=(∃v w',(execOp a.eval o).run P w=.ok (.value v) w'/\R v w')\/(∃f args,(execOp a.eval o).run P w=.ok (.enter f args) w/\Calls P f args w λe w'=>∃v,e=.returned v/\R v w')
def Ctx.from(V:Ctx)(U:Cf):Ctx:={V with R:=λa b=>V.R U a->V.R U b,ofE:=λe h=>V.tr h (V.ofE e),tr:=λh k r=>k (h r)}
theorem VN{V:Ctx}(hΓ:V.OK)(hnb:V.hb.2=false){gk:Nat}(hgk:V.nt<=gk)(hgd:gk≠dk V.nt)(i:Nat){rid:Nat}{ops:List AOp}{yo:AOp}{Q:AE->St->Prop}{e e1:Ar}{h h1:Hp}{c:Nat}{vc:Prop}(hyo:ops[i]? =some yo)(hex:Bh V.S (c+1) (100*rid) (ops.take i) e h=some (vc,e1,h1))(hvc:vc)(hg:D8 e1 yo.g=some true)(hnd:∀x,yo.k≠.dfr x)(hnb2:yo.k≠.bad)(hst:∀(o:Oper) (a1:Act) (σ1:Cf),yo.k=cK V.P o.op->Inv σ1 e1 h1 a1 V.nt V.hb->V.G e1 σ1->zS V.P o a1 σ1.w λv w'=>∃(σ2:Cf) (x r:AV) (vc2:Prop) (e2:Ar) (h2:Hp),σ2.w=w'/\Oth σ1 σ2/\(∀(m:Nat),σ1.w.heap[m]? =some (.deferred (some []))->¬σ1.O m->σ2.w.heap[m]? =some (.deferred (some []))/\¬σ2.O m)/\V.R σ1 σ2/\V.G ((gk,.gd false x)::e1) σ2/\Rep σ2 r v/\Bh V.S (c+1) (100*rid+(i+1)) (ops.drop (i+1)) (BQ yo.d r ((gk,.gd false x)::e1)) h1=some (vc2,e2,h2)/\vc2/\Q .n ⟨e2,h2,c+1⟩):Aq V (.reg rid ops) Q ⟨e,h,c⟩:=by
 intro code hc U a hA;cases code with
 |region id ops' d=>
  simp only[cCode]at hc;obtain⟨l0,hx0,⟨rfl,e0⟩|⟨_,_,_,_,e0⟩⟩:=BM hc
  ·cases e0
   refine wpIn_region ?_;obtain⟨c1,c2⟩:=CM hx0;obtain⟨t1,t2⟩:=Cj i hx0;obtain⟨_,t3⟩:=Cj (i+1) hx0;have hi:i<ops.length:=(y5.1 hyo).1;have hsz:ops.length=ops'.size:=c1.trans (by simp);have hi':i<ops'.size:=by omega
   have ho:ops'[i]? =some ops'[i]:=w7 hi';obtain⟨yo',g1,g2⟩:=c2 i ops'[i] (by simp);rw[hyo]at g1;cases g1
   obtain⟨k1,k3,k4⟩:=M2 g2;have hr:List.range ops'.size=List.range' 0 (ops'.toList.take i).length++(i::List.range' (i+1) (ops'.toList.drop (i+1)).length):=by
    have e1:(ops'.toList.take i).length=i:=by simp;omega
    have e2:(ops'.toList.drop (i+1)).length=ops'.size-(i+1):=by simp
    rw[e1,e2,A36,<-A38];have:=List.range'_append_1 (s:=0) (m:=i) (n:=ops'.size-(i+1)+1);grind
   rw[hr];refine E0 hΓ (cnt:=c) (100*rid) e _ (ops'.toList.take i) 0 (ops.take i) U e e1 h h1 a vc (λ_ _=>rfl) (λj hj=>?_) t1 hex hvc hA.1 (λm hm=>.inl (hA.2.1 m hm)) λa1 σ1 ev1 hI1 hal1 hfar1=>?_
   ·grind
   rw[wpOpsIn_cons];unfold wpOpIn;simp only[ho];have hw:=DA hI1.t k4 hg;simp only[hw,if_true];refine⟨λf _=>hΓ.F.fn f,?_⟩;have hno:∀c,ops'[i].op≠.defer c:=λc hd=>by rw[hd]at k1;simp only[cK]at k1;grind
   rw[Oper.semAt_eq _ a1.eval _ hno];have hG1:V.G e1 σ1:=V.g hA.2.2 ev1 λt ht=>.inr (hfar1 t ht)
   have hd:∀k,ops'[i].dst=some k->k<a1.tmps.size:=by rw[k3];intro d hd;rw[hI1.sz];exact C9 g2 d hd
   have fin:∀v w',(∃(σ2:Cf)(x r:AV)(vc2:Prop)(e2:Ar)(h2:Hp),σ2.w=w'/\Oth σ1 σ2/\(∀(m:Nat),σ1.w.heap[m]? =some (.deferred (some []))->¬σ1.O m->σ2.w.heap[m]? =some (.deferred (some []))/\¬σ2.O m)/\V.R σ1 σ2/\V.G ((gk,.gd false x)::e1) σ2/\Rep σ2 r v/\Bh V.S (c+1) (100*rid+(i+1)) (ops.drop (i+1)) (BQ yo.d r ((gk,.gd false x)::e1)) h1=some (vc2,e2,h2)/\vc2/\Q .n ⟨e2,h2,c+1⟩)->wpOpsIn V.F 0 V.P ops' (lift V U Q) (List.range' (i+1) (ops'.toList.drop (i+1)).length) (a1.put ops'[i].dst v) w':=by
    rintro v w' ⟨σ2,x,r,vc2,e2,h2,rfl,oth,old,hR,hG2,hv,q1,q2,q3⟩;have hI2:Inv σ2 (BQ yo.d r ((gk,.gd false x)::e1)) h1 (a1.put ops'[i].dst v) V.nt V.hb:=by
     refine⟨hI1.h.oth oth,?_,by rw[Act.size_put];exact hI1.sz,?_⟩
     ·rw[<-k3];refine TInv.put (r:=r) (λt=>?_) hd hv;simp only[lk];by_cases ht:gk=t
      ·rw[t8 ht];subst ht;have:¬gk<a1.tmps.size:=by rw[hI1.sz];exact Nat.not_lt.2 hgk
       simp[Rep,Array.getD,this]
      ·rw[t7 ht];exact hI1.t.ev oth.ev t
     ·rw[Act.defers_put];refine DOK.of hnb (λd hd=>?_) (hI1.df.nd hnb) (A09 hI1.df.le oth.sz) (hI1.df.gl.ev oth.ev);obtain⟨m,r1,r2,r3,r4,r5⟩:=hI1.df.all hnb d hd;obtain⟨o1,o2⟩:=old m r3 r5;exact⟨m,r1,r2,o1,by rw[oth.M];exact r4,o2⟩
    have hal2:∀m,σ2.al m->m.2<=c\/(m.2=c+1/\m.1<100*rid+(i+1)):=by intro m hm;rw[oth.al]at hm;grind
    have hR2:V.R U σ2:=V.tr (V.ofE ev1) hR;have hl:lift (V.from U) σ2 Q=lift V U Q:=by
     funext e a w;apply propext;constructor
     ·rintro⟨σ',s',e',h1,h2,h3⟩;exact⟨σ',s',e',h1,h2 hR2,h3⟩
     ·rintro⟨σ',s',e',h1,h2,h3⟩;exact⟨σ',s',e',h1,λ_=>h2,h3⟩
    have hh:=FS (V:=V.from U) ⟨hΓ.S,hΓ.F⟩ (ops:=ops') (Q:=Q) (cnt:=c) (100*rid) _ σ2 hG2 (ops'.toList.drop (i+1)) (i+1) (ops.drop (i+1)) σ2 _ _ _ _ _ vc2 (λt ht=>DL (C9 g2) ht) (λj=>by simp) (by simp;omega) t3 q1 q2 (Evo.refl σ2) hI2 hal2 q3;rw[hl]at hh;exact hh
   rcases hst ops'[i] a1 σ1 k1 hI1 hG1 with⟨v,w',hr,hR⟩|⟨f,args,hr,hcl⟩
   ·rw[hr];exact fin v w' hR
   ·rw[hr];refine⟨λh=>by simp[hΓ.F.depth]at h,hΓ.F.calls (hcl.mono ?_)⟩;grind
  ·cases e0
 |seq x y=>simp only[cCode]at hc;split at hc<;>simp at hc
 |cond c x y=>simp only[cCode]at hc;split at hc<;>simp at hc
 |rangeFunc f ps x y=>simp only[cCode]at hc;split at hc<;>simp at hc
 |_=>simp[cCode]at hc
theorem Ya{P:Program}{op:Op}{T:TypeId}(h:AK.allocB T=cK P op):op=.alloc T/\∃zs,Gk P T=some zs/\Xd zs=true:=by
 cases op with
 |alloc t=>simp only[cK]at h;grind
 |_=>
  simp only[cK,Hk,E3,I9,Ja,Jb,Jc,KI,Jd,H9]at h
  (repeat' (split at h))<;>cases h
theorem VO{P:Program}{op:Op}{f:Nat}{ys:List Opd}(h:AK.call f ys=cK P op):∃c,op=.call c/\c.callee=.value (.func f)/\ys=c.args.toList.map Al:=by
 cases op with
 |call c=>simp only[cK,H9]at h;grind
 |_=>
  simp only[cK,Hk,E3,I9,Ja,Jb,Jc,KI,Jd]at h
  (repeat' (split at h))<;>cases h
theorem Yb{v:Value}{sz:Nat}{f:Bool}{d:List AV}(h:IU v=.sl sz f [] d):v=.slice none 0 0:=by grind[IU]
theorem zT{v x:Value}(h:IU v=.v x):v=x:=by unfold IU at h;grind
theorem Tr{P:Program}{S:Tab}{nt hb N:Nat}{X:Nat->Prop}{hnt:nt<=bk}(hS:TabOK P S)(i:Nat){rid:Nat}{ops:List AOp}{Q:AE->St->Prop}{e e1:Ar}{h h1:Hp}{c:Nat}{vc:Prop}{d:Option Nat}{T:TypeId}(hyo:ops[i]? =some ⟨d,none,.allocB T⟩)(hT:BT T)(hex:Bh S (c+1) (100*rid) (ops.take i) e h=some (vc,e1,h1))(hvc:vc)(hQ:∀b:Nat,∃(vc2:Prop) (e2:Ar) (h2:Hp),Bh S (c+1) (100*rid+(i+1)) (ops.drop (i+1)) (BQ d (.v (.pointer (some ⟨b,0,none⟩))) ((bk,gB b [])::e1)) h1=some (vc2,e2,h2)/\vc2/\Q .n ⟨e2,h2,c+1⟩):Aq (Ctx.bd P S nt hb N X hnt) (.reg rid ops) Q ⟨e,h,c⟩:=by
 refine VN (Ctx.bd_ok hS) (Eq.refl _) hnt (λe=>?_) i hyo hex hvc (Eq.refl _) (by grind) (by grind) λo a1 σ1 hk hI hG=>?_
 ·have e':bk=nt+2000000:=e;unfold bk at e';omega
 obtain⟨ho,zs,hz,hb⟩:=Ya hk;obtain⟨j,z,z1,z2,z3,_,rfl⟩:=Gm hz;have hcells:z.cells=#[.pointer none,.slice none 0 0]:=by
  unfold Xd at hb;split at hb
  ·rename_i sz f d he;have hl:z.cells.toList.length=2:=by have:=congrArg List.length he;simpa using this
   match hzc:z.cells.toList,hl with
   |[x,y],_=>rw[hzc]at he;simp only[w5,A22,List.cons.injEq,and_true]at he;apply Array.ext';rw[hzc,zT he.1,Yb he.2]
  ·cases hb
 refine .inl ⟨.pointer (some ⟨σ1.w.heap.size,0,none⟩),σ1.w.alloc (.cells z.cells T),?_,?_⟩
 ·simp_all[execOp,Instr.alloc,zeroValue,typeInfo,newVar,newRow]
 obtain⟨vc2,e2,h2,q1,q2,q3⟩:=hQ σ1.w.heap.size
 let σ2:={σ1 with O:=λx=>σ1.O x\/x=σ1.w.heap.size,w:=σ1.w.alloc (.cells z.cells T)}
 have hold:∀x,x<σ1.w.heap.size->σ2.w.heap[x]? =σ1.w.heap[x]? :=λx hx=>Cd hx
 have hnew:σ2.w.heap[σ1.w.heap.size]? =some (.cells #[.pointer none,.slice none 0 0] T (0,0)):=by rw[<-hcells];exact GQ
 have hsz:σ2.w.heap.size=σ1.w.heap.size+1:=by simp[σ2]
 have oth:Oth σ1 σ2:={
  rb:=rfl,ra:=rfl,ln:=rfl,al:=rfl,M:=rfl
  ou:=by
   rintro x (hx|rfl)
   ·exact⟨by have:=hI.h.ou x hx;omega,λhM=>hI.h.dis x hM hx,λhf=>hf.2.1 hx⟩
   ·exact⟨by omega,λhM=>absurd (hI.h.lt _ hM) (Nat.lt_irrefl _),λhf=>absurd hf.2.2 (Nat.lt_irrefl _)⟩
  sz:=by omega
  mem:=λx hx=>hold x (hI.h.lt x hx)
  fro:=λx o y hx hc=>by rw[cell_of_heap (hold x hx.2.2)];exact hc
  io:=⟨rfl,rfl⟩}
 refine⟨σ2,.agg [.v (.int .i64 σ1.w.heap.size),.v (.string (sB []))],.v (.pointer (some ⟨σ1.w.heap.size,0,none⟩)),vc2,e2,h2,rfl,oth,?_,?_,?_,by simp[Rep],q1,q2,q3⟩
 ·grind
 ·refine⟨oth.ev,by grind,by grind,by omega,⟨rfl,rfl⟩⟩
 ·refine⟨by have:=hG.1;omega,λb l hl=>?_⟩;have hl':gB σ1.w.heap.size []=gB b l:=by simpa[lk]using hl
  obtain⟨rfl,rfl⟩:=Tq hl';refine⟨⟨T,hT,.inl ⟨A16 _,.slice none 0 0,hnew,World.ownsRow_nil _ _ _ _,by simp[Value.ownBlock]⟩⟩,⟨.inr rfl,λhM=>absurd (hI.h.lt _ hM) (Nat.lt_irrefl _),.inl hG.1⟩,λg hg=>?_⟩;rw[kb_row hnew]at hg;simp[Value.ownBlock]at hg
def Qs(P:Program)(f:Nat)(ax:List AV)(l:List UInt8)(l':Option (List UInt8))(r:AV):Prop:=∀(U:Cf)(vs:List Value)(b:Nat),Gl U->(∀x,U.M x\/U.O x->x<U.w.heap.size)->AA ax=true->RepL U ax vs->(∃T,BT T/\KB T U.w b l)->U.O b/\¬U.M b->(∀g,E7 U.w b=some g->U.O g/\¬U.M g)->Calls P f (Value.pointer (some ⟨b,0,none⟩)::vs).toArray U.w λe w'=>∃v,e=.returned v/\(∀m,l'=some m->∃T,BT T/\KB T w' b m)/\KStep U.w w' b/\Rep (U.at w') r v
@[reducible] def gL(b:Nat):Option (List UInt8)->AV|some l=>.agg [.v (.int .i64 b),.v (.string (sB l))]|none=>.un
theorem IV{P:Program}{S:Tab}{nt hb N:Nat}{X:Nat->Prop}{hnt:nt<=bk}(hS:TabOK P S)(i:Nat){rid:Nat}{ops:List AOp}{Q:AE->St->Prop}{e e1:Ar}{h h1:Hp}{c:Nat}{vc:Prop}{d:Option Nat}{f b:Nat}{x0:Opd}{xs:List Opd}{ax:List AV}{l:List UInt8}{l':Option (List UInt8)}{r:AV}(hyo:ops[i]? =some ⟨d,none,.call f (x0::xs)⟩)(hf:C0 P f)(hex:Bh S (c+1) (100*rid) (ops.take i) e h=some (vc,e1,h1))(hvc:vc)(hbk:lk e1 bk=gB b l)(hx0:Ay true (Ax e1 x0)=.v (.pointer (some ⟨b,0,none⟩)))(hxs:EP h1 (xs.map λx=>Ay true (Ax e1 x))=ax)(hrv:E2 h1 (xs.map λx=>Ay true (Ax e1 x)))(hpu:AA ax=true)(hfl:F1 r=true)(hC:Qs P f ax l l' r){vc2:Prop}{e2:Ar}{h2:Hp}(hpost:Bh S (c+1) (100*rid+(i+1)) (ops.drop (i+1)) (BQ d r ((bk,.gd false (gL b l'))::e1)) h1=some (vc2,e2,h2))(hvc2:vc2)(hQ:Q .n ⟨e2,h2,c+1⟩):Aq (Ctx.bd P S nt hb N X hnt) (.reg rid ops) Q ⟨e,h,c⟩:=by
 refine VN (Ctx.bd_ok hS) (Eq.refl _) (gk:=bk) hnt (λe=>?_) i hyo hex hvc (Eq.refl _) (λx e=>by cases e) (λe=>by cases e) λo a1 σ1 hk hI hG=>?_
 ·have e':bk=nt+2000000:=e;unfold bk at e';omega
 obtain⟨cl,ho,hcl,hargs⟩:=VO hk;have hV:=F2 (g:=true) rfl hI.t cl.args.toList;rw[<-hargs]at hV;simp only[w5,RepL]at hV;obtain⟨y,vs,hvs,hy,hV⟩:=hV;have hy:Rep σ1 (Ay true (Ax e1 x0)) y:=hy;rw[hx0]at hy;have hy:y=.pointer (some ⟨b,0,none⟩):=hy;subst hy;obtain⟨hkb,hbo,hbr⟩:=hG.2 b l hbk
 let Z:Cf:={σ1 with M:=λ_=>False}
 have ev:Evo σ1 Z:=⟨λ_ h=>⟨h,rfl⟩,λ_ _ l h=>⟨l,h,w6 _,λ_=>rfl⟩,λ_ _ h _=>⟨h,λh=>h⟩,rfl,w6 _,SameO.refl _⟩
 have hr:=Hc (Z:=Z) hI.h ev rfl (λ_ h=>h) _ vs hrv hV;rw[hxs]at hr;have hc:=hC Z vs b (hI.df.gl.mono ev) (λx hx=>hx.elim False.elim (hI.h.ou x)) hpu hr hkb ⟨hbo.1,λh=>h⟩ λg hg=>⟨(hbr g hg).1,λh=>h⟩
 obtain⟨T,hT,hK⟩:=hkb;obtain⟨p,v0,b1,b2,b3⟩:=hK.cells;refine .inr ⟨f,_,?_,hc.mono ?_⟩
 ·have hr:=FE hf (cl.args.map a1.eval) σ1.w;have ha:cl.args.map a1.eval=(Value.pointer (some ⟨b,0,none⟩)::vs).toArray:=by rw[<-hvs];apply Array.ext';simp
  rw[ha]at hr;simp only[execOp,ho,resolve,hcl,Act.eval,Sem.run_bind,Deferred.ofValue,Sem.run_pure,Result.andThen,invoke]
  first|exact hr|(simp[ha];exact hr)
 rintro en w' ⟨v,rfl,g1,g2,g3⟩;have g2:KStep σ1.w w' b:=g2;refine⟨v,rfl,?_⟩
 let σ2:Cf:={σ1 with O:=λx=>σ1.O x\/(l'≠none/\E7 w' b=some x),w:=w'}
 have hrow:∀x,l'≠none->E7 w' b=some x->(σ1.O x/\¬σ1.M x/\E7 σ1.w b=some x\/σ1.w.heap.size<=x)/\x<w'.heap.size:=by
  intro x hl hx;refine⟨?_,?_⟩
  ·rcases g2.row x hx with h|h
   ·grind
   ·exact .inr h
  ·cases l' with
   |none=>exact absurd rfl hl
   |some m=>obtain⟨T',_,hK'⟩:=g1 m rfl;obtain⟨p',v',c1,c2,c3⟩:=hK'.cells;exact(c3 x (c2▸hx)).1
 have hold:∀x,x<σ1.w.heap.size->x≠b->E7 σ1.w b≠some x->w'.heap[x]? =σ1.w.heap[x]? :=g2.old;have holdM:∀x,x<σ1.w.heap.size->¬σ1.O x->w'.heap[x]? =σ1.w.heap[x]? :=λx hx hO=>hold x hx (λe=>hO (e▸hbo.1)) λe=>hO (hbr x e).1
 have oth:Oth σ1 σ2:={
  rb:=rfl,ra:=rfl,ln:=rfl,al:=rfl,M:=rfl
  ou:=by
   rintro x (hx|⟨hl,hx⟩)
   ·exact⟨A20 (hI.h.ou x hx) g2.sz,λhM=>hI.h.dis x hM hx,λhf=>hf.2.1 hx⟩
   ·obtain⟨h1,h2⟩:=hrow x hl hx;refine⟨h2,λhM=>?_,λhf=>?_⟩
    ·rcases h1 with h1|h1
     ·exact h1.2.1 hM
     ·exact absurd (hI.h.lt x hM) (by omega)
    ·rcases h1 with h1|h1
     ·exact hf.2.1 h1.1
     ·exact absurd hf.2.2 (by omega)
  sz:=g2.sz
  mem:=λx hx=>holdM x (hI.h.lt x hx) λhO=>hI.h.dis x hx hO
  fro:=λx o y hx hc=>by rw[show σ2.w.cell? ⟨x,o,none⟩=σ1.w.cell? ⟨x,o,none⟩from cell_of_heap (holdM x hx.2.2 hx.2.1) o];exact hc
  io:=g2.io}
 refine⟨σ2,gL b l',r,vc2,e2,h2,rfl,oth,?_,?_,?_,HO _ v hfl g3,hpost,hvc2,hQ⟩
 ·grind
 ·refine⟨oth.ev,λx hx h1 o ho hM=>⟨(hold x (u0.1 ho).1 (λe=>?_) λe=>?_).trans ho,hM⟩,λx hx=>.inl hx,g2.sz,g2.io⟩
  ·grind
  grind
 ·refine⟨A09 hG.1 g2.sz,λb' m hl=>?_⟩;have hl1:AV.gd false (gL b l')=gB b' m:=by simpa[lk]using hl
  cases l' with
  |none=>simp[gL,gB]at hl1
  |some m'=>
   have hl2:gB b m'=gB b' m:=hl1;obtain⟨rfl,rfl⟩:=Tq hl2;refine⟨g1 m' rfl,⟨.inl hbo.1,hbo.2.1,hbo.2.2⟩,λg hg=>?_⟩;obtain⟨h1,_⟩:=hrow g (by simp) hg;refine⟨.inr ⟨by simp,hg⟩,?_,?_⟩
   ·rcases h1 with h1|h1
    ·exact h1.2.1
    ·exact λhM=>absurd (hI.h.lt g hM) (by omega)
   ·rcases h1 with h1|h1
    ·exact(hbr g h1.2.2).2.2
    ·exact .inl (A09 hG.1 h1)
theorem bE{args:List AV}{nt t:Nat}(h:args.length<=nt)(ht:nt<=t):lk (BC 0 args) t=.un:=by rw[F5,t7 (by omega)]
theorem VQ{Z:Cf}{args:List AV}{vs:List Value}{nt:Nat}(hx:RepL Z args vs)(hn:args.length<=nt):TInv Z (BC 0 args) {tmps:=vs.toArray++Array.replicate (nt-vs.toArray.size) undef,defers:=[]}:=λt=>by
 have hlen:=Bx hx;rw[F5];split
 ·rename_i ht;simp only[A08]at ht;have hg:args[t]? =some args[t]:=by grind
  obtain⟨x,g1,g2⟩:=C1 hx t _ hg;have e1:args.getD (t-0) .un=args[t]:=by simp[ht]
  have e2:(vs.toArray++Array.replicate (nt-vs.toArray.size) undef).getD t undef=x:=by simp_all[A30]
  rw[e1,e2];exact g2
 ·simp[Rep]
theorem VR{P:Program}{nt n:Nat}{fn:Func}{rvs:List RV}{r:AV}{s':St}{a':Act}{ρ0 Z:Cf}(hr:cRes P fn.results.toList=some rvs)(hI:Inv ρ0 s'.env s'.hp {a' with defers:=[]} nt (n,false))(h:Gb rvs r s')(hO:∀b,Z.M b\/Z.O b->ρ0.O b):∃v',(results fn a'.tmps).run P ρ0.w=.ok v' ρ0.w/\BN r=true/\Rep (Z.at ρ0.w) r v':=by
 obtain⟨vc,xs,g1,g2,g3,g4,g5⟩:=h;obtain⟨us,k1,k2⟩:=FT hI hr g1 g2;refine⟨_,FU k1,g5,?_⟩;have hone:Rep ρ0 (one xs) (if h:us.toArray.size=1 then us.toArray[0]else .tuple us.toArray):=by
  have hl':=Bx k2;unfold one;split
  ·grind[RepL]
  ·have hne:us.toArray.size≠1:=by
    intro h1;simp at h1;rw[h1]at hl';cases xs with
    |nil=>simp at hl'
    |cons x xs=>cases xs<;>grind
   rw[dif_neg hne];exact⟨us,rfl,k2⟩
 let W:={ρ0 with M:=λ_=>False}
 have e:Evo ρ0 W:=⟨by grind,by grind,by grind,rfl,w6 _,SameO.refl _⟩
 have h6:=L0 hI.h e rfl (λ_ h=>h) _ _ g3 hone;have h7:=g4 _ _ h6;refine Rep.ofPure (U:=W) (σ':=Z.at ρ0.w) (λb hb=>?_) (λ_ _=>rfl) r _ g5 h7;exact⟨λh=>hb.2.1 (hO b (.inl h)),λh=>hb.2.1 (hO b (.inr h)),hb.2.2⟩
theorem Ts{P:Program}{S:Tab}(hS:TabOK P S){f:Nat}{fn:Func}{c:AC}{rvs:List RV}{args:List AV}{r:AV}(nt:Nat)(hf:P.funcs[f]? =some fn)(hc:Dj P fn=some (c,rvs))(hnt:fn.ntmps=nt)(hbk:nt<=bk)(hn:args.length<=nt)(h:∀hb N,Aq (Ctx.bd P S nt hb N (λ_=>False) hbk) c (Bq rvs r) ⟨BC 0 args,[],0⟩):PCall P f args r:=by
 subst hnt;unfold Dj at hc;split at hc
 rotate_left
 ·simp at hc
 rename_i b hbd;split at hc
 rotate_left
 ·simp at hc
 rename_i c' r' hcc hr;simp only[yE,A57]at hc;obtain⟨rfl,rfl⟩:=hc;intro U vs hgl hlt hp hx;have hlen:=Bx hx
 let Z:=U.fresh
 have hgt:Gl Z:=λb j hj=>⟨⟨λh=>h,by rintro(h|h);exact(hgl b j hj).1.1 h;exact(hgl b j hj).1.2.1 h,(hgl b j hj).1.2.2⟩,(hgl b j hj).2⟩
 have hx':RepL Z args vs:=RepL.ofPure (U:=U) (σ':=Z) (λb hb=>⟨λh=>h,by rintro(h|h);exact hb.1 h;exact hb.2.1 h,hb.2.2⟩) (λ_ _=>rfl) args vs hp hx;have hI:Inv Z (BC 0 args) [] {tmps:=vs.toArray++Array.replicate (fn.ntmps-vs.toArray.size) undef,defers:=[]} fn.ntmps (U.w.heap.size,false):=by refine⟨⟨λn=>rfl,λn j c h=>by simp[hl]at h,by grind[hl],?_,λb h=>h.elim,hlt,λb h=>h.elim⟩,VQ hx' hn,by simp;omega,DOK.nil (w6 _) hgt⟩;rintro p q b (⟨_,_,j,c,h⟩|⟨_,⟨_,_,_,h⟩,_⟩) _<;>simp[hl]at h
 have hw:=h U.w.heap.size U.w.heap.size b hcc Z _ ⟨hI,λm hm=>hm.elim,w6 _,by grind[bE]⟩;refine callsIn_wide.1 (callsIn_of_wp_marks (n:=0) hf hbd trivial (wpIn_mono hw ?_));rintro e a' w' ⟨σ',s',e',rfl,h2,h3,h4,h5⟩;have key:∀(s':St),At (Ctx.bd P S fn.ntmps U.w.heap.size U.w.heap.size (λ_=>False) hbk) σ' s' a'->Gb r' r s'->LeavesInM Fence.wide 0 P fn a'.tmps (λe w'=>∃v',e=.returned v'/\(∀(b:Nat)(o:Obj),U.w.heap[b]? =some o->w'.heap[b]? =some o)/\SameO U.w w'/\BN r=true/\Rep (U.at w') r v') a'.defers .returning σ'.w:=by
  rintro s' hA hk;refine F6 a'.defers σ' (λb hb=>⟨hA.1.h.ou b hb,λhM=>hA.1.h.dis b hM hb⟩) (DOK.of' hA.1.df) λρ0 ko kO kb=>?_
  have hI':Inv ρ0 s'.env s'.hp {a' with defers:=[]} fn.ntmps (U.w.heap.size,false):=⟨hA.1.h.oth ko,hA.1.t.ev ko.ev,hA.1.sz,DOK.nil (A09 hA.1.df.le ko.sz) (hA.1.df.gl.ev ko.ev)⟩
  obtain⟨v',k1,k2,k3⟩:=VR (Z:=U) hr hI' hk λb hb=>by rw[kO];exact h2.out b hb
  exact⟨v',k1,_,rfl,λb o hb=>kb b o (by grind) (h2.old b (u0.1 hb).1 (λh=>h) o hb (λh=>h)).1,h2.io.trans ko.io,k2,k3⟩
 cases e with
 |normal=>simp[AE.of]at h4;subst h4;exact key s' h3 h5
 |ret=>simp[AE.of]at h4;subst h4;exact key s' h3 h5
 |exit i=>simp[AE.of]at h4;subst h4;exact h5.elim
 |goto l=>simp[AE.of]at h4
 |panic c=>obtain⟨v,rfl,rfl⟩:=AE.of_panic h4;exact h5.elim
 |outgrown=>simp[AE.of]at h4
def pQ(b:Nat)(l':List UInt8)(rvs:List RV)(r:AV):AE->St->Prop|.n,s=>lk s.env bk=gB b l'/\Gb rvs r s|.r,s=>lk s.env bk=gB b l'/\Gb rvs r s|.x _,_=>False|.p _,_=>False
theorem pU{b:Nat}{l':List UInt8}{rvs:List RV}{r:AV}{e:Ar}{h:Hp}{c:Nat}{vc:Prop}{xs:List AV}(h0:lk e bk=gB b l')(h1:DK e h rvs=some (vc,xs))(h2:vc)(h3:FI h (one xs))(h4:wk (res h (one xs)) r)(h5:BN r=true):pQ b l' rvs r .n ⟨e,h,c⟩:=⟨h0,vc,xs,h1,h2,h3,.of h4,h5⟩
theorem bF{P:Program}{S:Tab}(hS:TabOK P S){f:Nat}{fn:Func}{c:AC}{rvs:List RV}{args:List AV}{r:AV}{l l':List UInt8}(nt:Nat)(hf:P.funcs[f]? =some fn)(hc:Dj P fn=some (c,rvs))(hnt:fn.ntmps=nt)(hbk:nt<=bk)(hn:args.length+1<=nt)(h:∀hb N X b,Aq (Ctx.bd P S nt hb N X hbk) c (pQ b l' rvs r) ⟨(bk,gB b l)::BC 0 (.v (.pointer (some ⟨b,0,none⟩))::args),[],0⟩):Qs P f args l (some l') r:=by
 subst hnt;unfold Dj at hc;split at hc
 rotate_left
 ·simp at hc
 rename_i code hbd;split at hc
 rotate_left
 ·simp at hc
 rename_i c' r' hcc hr;simp only[yE,A57]at hc;obtain⟨rfl,rfl⟩:=hc;intro U vs b hgl hlt hp hx hK hbo hbr
 let Z:=U.fresh
 have hgt:Gl Z:=λb j hj=>⟨⟨λh=>h,by rintro(h|h);exact(hgl b j hj).1.1 h;exact(hgl b j hj).1.2.1 h,(hgl b j hj).1.2.2⟩,(hgl b j hj).2⟩
 have hx':RepL Z args vs:=RepL.ofPure (U:=U) (σ':=Z) (λb hb=>⟨λh=>h,by rintro(h|h);exact hb.1 h;exact hb.2.1 h,hb.2.2⟩) (λ_ _=>rfl) args vs hp hx;have hx2:RepL Z (.v (.pointer (some ⟨b,0,none⟩))::args) (.pointer (some ⟨b,0,none⟩)::vs):=⟨_,_,rfl,by simp[Rep],hx'⟩
 have hlen:=Bx hx2;have hn2:(AV.v (.pointer (some ⟨b,0,none⟩))::args).length<=fn.ntmps:=by simpa using hn
 have hst:=VQ hx2 hn2;have hsz:((Value.pointer (some ⟨b,0,none⟩)::vs).toArray++Array.replicate (fn.ntmps-(Value.pointer (some ⟨b,0,none⟩)::vs).toArray.size) undef).size=fn.ntmps:=by grind
 have hI:Inv Z ((bk,gB b l)::BC 0 (.v (.pointer (some ⟨b,0,none⟩))::args)) [] {tmps:=(Value.pointer (some ⟨b,0,none⟩)::vs).toArray++Array.replicate (fn.ntmps-(Value.pointer (some ⟨b,0,none⟩)::vs).toArray.size) undef,defers:=[]} fn.ntmps (U.w.heap.size,false):=by
  refine⟨⟨λn=>rfl,λn j c h=>by simp[hl]at h,λn sz live rows d h=>by simp[hl]at h,?_,λb h=>h.elim,hlt,λb h=>h.elim⟩,λt=>?_,hsz,DOK.nil (w6 _) hgt⟩
  ·rintro p q b (⟨_,_,j,c,h⟩|⟨_,⟨_,_,_,h⟩,_⟩) _<;>simp[hl]at h
  ·simp only[lk];by_cases ht:bk=t
   ·rw[t8 ht];subst ht;have:¬bk<((Value.pointer (some ⟨b,0,none⟩)::vs).toArray++Array.replicate (fn.ntmps-(Value.pointer (some ⟨b,0,none⟩)::vs).toArray.size) undef).size:=by rw[hsz];exact Nat.not_lt.2 hbk
    have h2:((Value.pointer (some ⟨b,0,none⟩)::vs).toArray++Array.replicate (fn.ntmps-(Value.pointer (some ⟨b,0,none⟩)::vs).toArray.size) undef).getD bk undef=undef:=by grind
    rw[h2];simp[Rep]
   ·rw[t7 ht];exact hst t
 let X:Nat->Prop:=λx=>x=b\/E7 U.w b=some x
 have hbi:BI U.w.heap.size X Z b l:=⟨hK,⟨.inr hbo.1,λh=>h,.inr (.inl rfl)⟩,λg hg=>⟨.inr (hbr g hg).1,λh=>h,.inr (.inr hg)⟩⟩
 have hw:=h U.w.heap.size U.w.heap.size X b code hcc Z _ ⟨hI,λm hm=>hm.elim,w6 _,λb' m hl=>by
  have hl1:gB b l=gB b' m:=by simpa[lk]using hl
  obtain⟨rfl,rfl⟩:=Tq hl1;exact hbi⟩
 refine callsIn_wide.1 (callsIn_of_wp_marks (n:=0) hf hbd trivial (wpIn_mono hw ?_));rintro e a' w' ⟨σ',s',e',rfl,h2,h3,h4,h5⟩;have h2:EvoB U.w.heap.size X Z σ':=h2;have key:∀(s':St),At (Ctx.bd P S fn.ntmps U.w.heap.size U.w.heap.size X hbk) σ' s' a'->lk s'.env bk=gB b l'/\Gb r' r s'->LeavesInM Fence.wide 0 P fn a'.tmps (λe w'=>∃v,e=.returned v/\(∀m,some l'=some m->∃T,BT T/\KB T w' b m)/\KStep U.w w' b/\Rep (U.at w') r v) a'.defers .returning σ'.w:=by
  rintro s' hA ⟨hgb,hk⟩;obtain⟨⟨T,hT,hk2⟩,o1,o2⟩:=hA.2.2.2 b l' hgb;obtain⟨p,v0,c1,c2,c3⟩:=hk2.cells;refine F6 a'.defers σ' (λb hb=>⟨hA.1.h.ou b hb,λhM=>hA.1.h.dis b hM hb⟩) (DOK.of' hA.1.df) λρ0 ko kO kb=>?_
  have hI':Inv ρ0 s'.env s'.hp {a' with defers:=[]} fn.ntmps (U.w.heap.size,false):=⟨hA.1.h.oth ko,hA.1.t.ev ko.ev,hA.1.sz,DOK.nil (A09 hA.1.df.le ko.sz) (hA.1.df.gl.ev ko.ev)⟩
  obtain⟨v',k1,k2,k3⟩:=VR (Z:=U) hr hI' hk λb hb=>by rw[kO];exact h2.out b hb
  have hob:∀x,x<σ'.w.heap.size->σ'.O x->ρ0.w.heap[x]? =σ'.w.heap[x]? :=λx hx hO=>(kb x _ (.inr hO) (w7 hx)).trans (w7 hx).symm
  obtain⟨q1,q2⟩:=hk2.keep (w':=ρ0.w) (hob b hk2.lt o1.1) λg hg=>hob g (c3 g (c2▸hg)).1 (o2 g hg).1
  refine⟨v',k1,v',rfl,λm hm=>?_,⟨λx hx h1 h3=>?_,λg hg=>?_,A09 h2.sz ko.sz,h2.io.trans ko.io⟩,k3⟩
  ·cases hm
   exact⟨T,hT,q1⟩
  ·have:=h2.old x hx (λh=>h.elim h1 h3) _ (w7 hx) (λh=>h);grind
  grind[hk2.ne_row]
 cases e with
 |normal=>simp[AE.of]at h4;subst h4;exact key s' h3 h5
 |ret=>simp[AE.of]at h4;subst h4;exact key s' h3 h5
 |exit i=>simp[AE.of]at h4;subst h4;exact h5.elim
 |goto l=>simp[AE.of]at h4
 |panic c=>obtain⟨v,rfl,rfl⟩:=AE.of_panic h4;exact h5.elim
 |outgrown=>simp[AE.of]at h4
theorem Pr{l m:List UInt8}(hl:l.length+m.length<=140737488355328):Qs Tryz.prog 76 [.v (.string (sB m))] l (some (l++m)) (.tup [.i m.length,.v .nilIface]):=by intro U vs b hgl hlt hp hx hK hbo hbr;simp only[RepL,Rep]at hx;obtain⟨y,ys,rfl,rfl,rfl⟩:=hx;obtain⟨T,hT,hk⟩:=hK;refine(eD hT b l m U.w hk hl).mono ?_;rintro e w' ⟨rfl,h1,h2⟩;exact⟨_,rfl,λn hn=>by cases hn;exact⟨T,hT,h1⟩,h2,⟨[_,_],rfl,_,_,rfl,by simp[Rep],_,_,rfl,by simp[Rep],rfl⟩⟩
theorem NZ{l:List UInt8}(hl:l≠[]):Qs Tryz.prog 77 [] l none (.v (.string (sB l))):=by intro U vs b hgl hlt hp hx hK hbo hbr;simp only[RepL]at hx;subst hx;obtain⟨T,hT,hk⟩:=hK;refine(Zw b l U.w hk hl).mono ?_;rintro e w' ⟨rfl,h2⟩;exact⟨_,rfl,λn hn=>(by cases hn),h2,(by simp only[Rep,sB])⟩
attribute [go_sem] bk bD AbY dk
