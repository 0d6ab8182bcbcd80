import Derived.Test.YtjdchfljifacoaaGreatDoorA2
import Derived.RangeFuncRecord
set_option linter.all false
namespace Go.Proofs.YtjdchfljifacoaaGreatDoor.Am
open Go
def Wide(F:Fence):Prop:=F=Fence.wide\/∃l,F=Fence.wide.inRound l
theorem Wide.fn{F:Fence}(h:Wide F)(f:FuncId):F.fn f:=by rcases h with rfl|⟨l,rfl⟩<;>trivial
theorem Wide.depth{F:Fence}(h:Wide F):F.depth=none:=by rcases h with rfl|⟨l,rfl⟩<;>rfl
theorem Wide.calls{F:Fence}(h:Wide F){n:Nat}{P:Program}{f:FuncId}{args:Array Value}{w:World}{R:Ending->World->Prop}(hc:Calls P f args w R):CallsIn F n P f args w R:=by
 rcases h with rfl|⟨l,rfl⟩
 ·exact callsIn_wide.2 hc
 ·exact(callsIn_wide.2 hc)
section
variable{P:Program}{F:Fence}{S:Tab}
theorem HP(hF:Wide F){n:Nat}{ops:Array Oper}{Q:Exit->Act->World->Prop}{i:Nat}{K:Act->World->Prop}{o:Oper}{a:Act}{U:Cf}{nm:Nm}{hp':Hp}{r:AV}(hi:ops[i]? =some o)(hno:∀c,o.op≠.defer c)(hw:Region.wanted o (yielded ops a.tmps)=true)(hst:Step P o a U nm hp' r)(hK:∀v σ',Next U nm hp' σ'.w σ'->Rep σ' r v->K (a.put o.dst v) σ'.w):wpOpIn F n P ops Q i K a U.w:=by
 unfold wpOpIn;simp only[hi,hw];refine⟨λf _=>hF.fn f,?_⟩;rw[Oper.semAt_eq F.round a.eval o hno];rcases hst with⟨v,w',σ',hr,hn,hv⟩|⟨f,args,hr,hc⟩
 ·have:=hn.w;subst this;rcases hr with hr|⟨hr,rfl⟩
  ·rw[hr];exact hK v σ' hn hv
  ·rw[hr];exact hK undef σ' hn hv
 ·rw[hr];refine⟨λh=>by simp[hF.depth]at h,hF.calls (hc.mono ?_)⟩;rintro e w' ⟨v,σ',rfl,hn,hv⟩;have:=hn.w;grind
abbrev HB:=Nat×Bool
def Mark(n:Nat)(U:Cf)(d:Deferred):Prop:=∃r,d={target:=.collected r,args:=#[]}/\n<=r/\U.w.heap[r]? =some (.deferred (some []))/\¬U.M r/\¬U.O r
def DfK(U:Cf)(b:Bool)(x:AV)(ms dd:List Deferred):Prop:=(b=false->dd=[])/\(b=true->x=.gd false (.tup [])->dd=[])/\(b=true->∀f ys,x=.gd false (.clo (.func f) [] ys)->∃vs,RepL U ys vs/\dd=[{target:=.fn (.func f) vs.toArray,args:=#[]}])/\(b=true->ms=[])
def dk(nt:Nat):Nat:=nt+2000000
theorem O9{t nt:Nat}{x:AV}{e:Ar}(h:t<nt):lk ((t,x)::e) (dk nt)=lk e (dk nt):=by
 have hne:¬t=dk nt:=λe=>absurd (e▸h) (Nat.not_lt.2 (A55 _ _))
 simp only[lk,t7 hne]
structure DOK(hb:HB)(U:Cf)(x:AV)(ds:List Deferred):Prop where
 sp:∃ms dd,ds=ms++dd/\(∀d∈ms,Mark hb.1 U d)/\ms.Pairwise (λa b=>a.target≠b.target)/\DfK U hb.2 x ms dd
 le:hb.1<=U.w.heap.size
 gl:Gl U
theorem DOK.all{hb:HB}{U:Cf}{x:AV}{ds:List Deferred}(h:DOK hb U x ds)(hn:hb.2=false):∀d∈ds,∃r,d={target:=.collected r,args:=#[]}/\hb.1<=r/\U.w.heap[r]? =some (.deferred (some []))/\¬U.M r/\¬U.O r:=by obtain⟨ms,dd,rfl,h2,_,h3,_⟩:=h.sp;rw[h3 hn,A05];exact h2
theorem DOK.nd{hb:HB}{U:Cf}{x:AV}{ds:List Deferred}(h:DOK hb U x ds)(hn:hb.2=false):ds.Pairwise λa b=>a.target≠b.target:=by obtain⟨ms,dd,rfl,_,h3,h4,_⟩:=h.sp;rw[h4 hn,A05];exact h3
theorem DOK.of{hb:HB}{U:Cf}{x:AV}{ds:List Deferred}(hn:hb.2=false)(h1:∀d∈ds,∃r,d={target:=.collected r,args:=#[]}/\hb.1<=r/\U.w.heap[r]? =some (.deferred (some []))/\¬U.M r/\¬U.O r)(h2:ds.Pairwise λa b=>a.target≠b.target)(h3:hb.1<=U.w.heap.size)(h4:Gl U):DOK hb U x ds:=⟨⟨ds,[],by rw[A05],h1,h2,λ_=>rfl,λ_ _=>rfl,by grind,by grind⟩,h3,h4⟩
theorem DOK.of'{n:Nat}{U:Cf}{x y:AV}{ds:List Deferred}(h:DOK (n,false) U y ds):DOK (n,false) U x ds:=DOK.of rfl (h.all rfl) (h.nd rfl) h.le h.gl
theorem DOK.un{hb:HB}{U:Cf}{x y:AV}{ds:List Deferred}(h:DOK hb U y ds)(hx:x=.un\/x=y):DOK hb U x ds:=by
 rcases hx with rfl|rfl
 ·obtain⟨ms,dd,h1,h2,h3,h4,_,_,h5⟩:=h.sp;exact⟨⟨ms,dd,h1,h2,h3,h4,by grind,by grind,h5⟩,h.le,h.gl⟩
 ·exact h
theorem Mark.mono{n:Nat}{U σ':Cf}{d:Deferred}(h:Mark n U d)(e:Evo U σ'):Mark n σ' d:=by obtain⟨r,h1,h2,h3,h4,h5⟩:=h;obtain⟨g1,g2⟩:=e.fro r _ h3 h4;exact⟨r,h1,h2,g1,g2,by rw[e.out];exact h5⟩
theorem DfK.map{U σ':Cf}{b:Bool}{x:AV}{ms dd:List Deferred}(h:DfK U b x ms dd)(hr:∀ys vs,RepL U ys vs->RepL σ' ys vs):DfK σ' b x ms dd:=⟨h.1,h.2.1,λhb f ys e=>let⟨vs,h1,h2⟩:=h.2.2.1 hb f ys e;⟨vs,hr _ _ h1,h2⟩,h.2.2.2⟩
theorem DOK.mono{hb:HB}{U σ':Cf}{x:AV}{ds:List Deferred}(h:DOK hb U x ds)(e:Evo U σ'):DOK hb σ' x ds where
 sp:=by obtain⟨ms,dd,h1,h2,h3,h4⟩:=h.sp;exact⟨ms,dd,h1,λd hd=>(h2 d hd).mono e,h3,h4.map λys vs=>RepL.mono e ys vs⟩
 le:=A09 h.le e.sz
 gl:=h.gl.mono e
theorem DOK.nil{n:Nat}{U:Cf}{x:AV}(h:n<=U.w.heap.size)(g:Gl U):DOK (n,false) U x []:=DOK.of rfl (by simp) .nil h g
structure Inv(U:Cf)(env:Ar)(hp:Hp)(a:Act)(nt:Nat)(hb:HB):Prop where
 h:HInv U hp
 t:TInv U env a
 sz:a.tmps.size=nt
 df:DOK hb U (lk env (dk nt)) a.defers
theorem Act.size_put(a:Act)(d:Option Tmp)(v:Value):(a.put d v).tmps.size=a.tmps.size:=by cases d<;>simp[Act.put]
theorem Act.defers_put(a:Act)(d:Option Tmp)(v:Value):(a.put d v).defers=a.defers:=by cases d<;>rfl
theorem Jh(hS:TabOK P S)(hF:Wide F){n nt:Nat}{hb:HB}{ops:Array Oper}{Q:Exit->Act->World->Prop}{i:Nat}{K:Act->World->Prop}{o:Oper}{ao:AOp}{a:Act}{U:Cf}{nm:Nm}{env:Ar}{hp ws:Hp}{r:AV}{vc:Prop}(hi:ops[i]? =some o)(hc:JI P nt ops o=some ao)(hI:Inv U env hp a nt hb)(hnm:¬U.al nm/\∃c,∀m,U.al m->m.2<=c)(hex:HL S nm env hp ao=some (vc,r,ws))(hvc:vc)(hK:∀a' σ',Evo U σ'->Inv σ' (BQ ao.d r env) (ws++hp) a' nt hb->(∀m,σ'.al m->U.al m\/m=nm)->K a' σ'.w):wpOpIn F n P ops Q i K a U.w:=by
 unfold JI at hc;split at hc
 ·simp at hc
 rename_i g hg;have hd:Yz nt o.dst=true/\ao=⟨o.dst,g,cK P o.op⟩:=by grind
 obtain⟨hd,rfl⟩:=hd;have hno:∀{env':Ar}{hp':Hp}{nm':Nm}{g':Bool}{x:Prop×AV×Hp},AF S env' hp' nm' g' (cK P o.op)=some x->∀c,o.op≠.defer c:=by intro env' hp' nm' g' x he c e;rw[e]at he;simp only[cK]at he;split at he<;>simp[AF]at he
 have hdk:∀r',lk (BQ o.dst r' env) (dk nt)=lk env (dk nt):=λr'=>by
  cases ho:o.dst with
  |none=>rfl
  |some k=>
   rw[ho]at hd;have:=by simpa[Yz]using hd
   have hne:¬k=dk nt:=λe=>absurd (e▸this) (Nat.not_lt.2 (A55 _ _))
   simp only[BQ,lk,t7 hne]
 have hput:∀k,o.dst=some k->k<a.tmps.size:=by grind[hI.sz,Yz]
 have fin:∀(v:Value)(σ':Cf)(r':AV)(hp':Hp),Evo U σ'->HInv σ' hp'->Rep σ' r' v->Inv σ' (BQ o.dst r' env) hp' (a.put o.dst v) nt hb:=λv σ' r' hp' e h hr=>⟨h,(hI.t.mono e).put hput hr,by rw[Act.size_put];exact hI.sz,by rw[Act.defers_put,hdk];exact hI.df.mono e⟩
 unfold HL at hex;cases g with
 |none=>
  have hw:=DA hI.t hg rfl;refine HP hF hi (hno hex) hw (N7 hS hI.df.gl hI.h hI.t hnm rfl hex hvc) λv σ' hn hv=>?_
  grind[hn.evo,hn.inv,hn.al]
 |some tw=>
  simp at hex;split at hex
  ·simp at hex
  rename_i g hgv;have hw:=DA hI.t hg hgv;have skip:g=false->∀r',Rep U r' undef->r'=r->ws=[]->wpOpIn F n P ops Q i K a U.w:=by intro hg0 r' hr e1 e2;subst hg0 e1 e2;unfold wpOpIn;simp only[hi,hw,if_false];exact⟨λf _=>hF.fn f,by grind[Evo.refl,hI.h]⟩
  split at hex
  ·obtain⟨rfl,rfl,rfl⟩:=hex;exact skip hvc _ (by simp[Rep]) rfl rfl
  ·rename_i vc' r' hk;obtain⟨rfl,rfl,rfl⟩:=hex;cases hgb:g with
   |false=>subst hgb;exact skip rfl _ (by simp[Rep]) rfl rfl
   |true=>
    subst hgb;refine HP hF hi (hno hk) hw (N7 hS hI.df.gl hI.h hI.t hnm rfl hk (hvc rfl)) λv σ' hn hv=>?_
    grind[hn.evo,hn.inv,Rep,hn.al]
  ·rename_i vc' r' w0 ws' hk;obtain⟨rfl,rfl,rfl⟩:=hex;obtain⟨rfl,hvc'⟩:=hvc;refine HP hF hi (hno hk) hw (N7 hS hI.df.gl hI.h hI.t hnm rfl hk hvc') λv σ' hn hv=>?_
   grind[hn.evo,hn.inv,hn.al]
inductive AC where
 |nop
 |reg (rid:Nat) (ops:List AOp)
 |drw (rid:Nat) (ops:List AOp) (un:List (Nat×Nat))
 |seq (a b:AC)
 |cond (c:Opd) (a b:AC)
 |block (id:Nat) (a:AC)
 |loop (a:AC)
 |scp (a:AC)
 |rfun (f:Opd) (ps:List Nat) (asg body:AC)
 |exit (id:Nat)
 |ret
 deriving Inhabited
def FM(P:Program)(nt:Nat)(ops:Array Oper):List Oper->Option (List AOp)|[]=>some []|o::r=>match JI P nt ops o,FM P nt ops r with|some x,some xs=>some (x::xs)|_,_=>none
def Xh(P:Program)(nt:Nat)(id:Nat)(ops:Array Oper)(d:Bool):Option AC:=match FM P nt ops ops.toList with|none=>none|some l=>match d with|false=>some (.reg id l)|true=>if P.follows .mixedOrders=true then(QD ops l).map λun=>.drw id l un else none
theorem BM{P:Program}{nt id:Nat}{ops:Array Oper}{d:Bool}{c:AC}(h:Xh P nt id ops d=some c):∃l,FM P nt ops ops.toList=some l/\((d=false/\c=.reg id l)\/(d=true/\P.follows .mixedOrders=true/\∃un,QD ops l=some un/\c=.drw id l un)):=by
 unfold Xh at h;split at h
 ·simp at h
 ·rename_i l hl;cases d with
  |false=>grind
  |true=>
   simp only at h;split at h
   ·cases hc:QD ops l<;>grind
   ·simp at h
def cCode(P:Program)(nt:Nat):Code->Option AC
 |.skip=>some .nop
 |.label _=>some .nop
 |.region id ops d=>Xh P nt id ops d
 |.seq a b=>match cCode P nt a,cCode P nt b with|some x,some y=>some (.seq x y)|_,_=>none
 |.cond c a b=>match cCode P nt a,cCode P nt b with|some x,some y=>some (.cond (Al c) x y)|_,_=>none
 |.block id a=>(cCode P nt a).map (.block id)
 |.loop a=>(cCode P nt a).map .loop
 |.scope a=>(cCode P nt a).map .scp
 |.rangeFunc f ps a b=>match cCode P nt a,cCode P nt b with|some x,some y=>some (.rfun (Al f) ps.toList x y)|_,_=>none
 |.exit id=>some (.exit id)
 |.ret=>some .ret
 |_=>none
structure St where
 env:Ar
 hp:Hp
 cnt:Nat
inductive AE where
 |n
 |x (id:Nat)
 |r
 |p (v:Value)
def AE.of:Exit->Option AE|.normal=>some .n|.exit id=>some (.x id)|.ret=>some .r|.panic [⟨v,false,false⟩]=>some (.p v)|_=>none
theorem AE.of_panic{c:List PanicEntry}{e:AE}(h:AE.of (.panic c)=some e):∃v,c=[⟨v,false,false⟩]/\e=.p v:=by unfold AE.of at h;grind
structure Ctx where
 P:Program
 F:Fence
 S:Tab
 nt:Nat
 hb:HB
 R:Cf->Cf->Prop
 G:Ar->Cf->Prop
 ofE:∀{U σ':Cf},Evo U σ'->R U σ'
 tr:∀{a b c:Cf},R a b->R b c->R a c
 g:∀{U σ':Cf}{e e':Ar},G e U->Evo U σ'->(∀t,nt<=t->lk e' t=.un\/lk e' t=lk e t)->G e' σ'
structure Ctx.OK(V:Ctx):Prop where
 S:TabOK V.P V.S
 F:Wide V.F
def Ctx.fn(P:Program)(S:Tab)(nt hb:Nat):Ctx:={P:=P,F:=Fence.wide,S:=S,nt:=nt,hb:=(hb,false),R:=Evo,G:=λ_ _=>True,ofE:=id,tr:=Evo.trans,g:=λ_ _ _=>trivial}
theorem Ctx.fn_ok{P:Program}{S:Tab}{nt hb:Nat}(h:TabOK P S):(Ctx.fn P S nt hb).OK:=⟨h,.inl rfl⟩
def At(V:Ctx)(U:Cf)(s:St)(a:Act):Prop:=Inv U s.env s.hp a V.nt V.hb/\(∀m,U.al m->m.2<=s.cnt)/\V.G s.env U
def lift(V:Ctx)(U:Cf)(Q:AE->St->Prop):Exit->Act->World->Prop:=λe a w=>∃σ' s' e',σ'.w=w/\V.R U σ'/\At V σ' s' a/\AE.of e=some e'/\Q e' s'
def Aq(V:Ctx)(c:AC)(Q:AE->St->Prop)(s:St):Prop:=∀code,cCode V.P V.nt code=some c->∀U a,At V U s a->code.wpIn V.F 0 V.P (lift V U Q) a U.w
variable{V:Ctx}
theorem Ctx.rfl(V:Ctx)(U:Cf):V.R U U:=V.ofE (Evo.refl U)
theorem lift.mono{U σ':Cf}{Q:AE->St->Prop}(h:V.R U σ'){e:Exit}{a:Act}{w:World}(k:lift V σ' Q e a w):lift V U Q e a w:=by obtain⟨Z,s',e',h1,h2,h3⟩:=k;exact⟨Z,s',e',h1,V.tr h h2,h3⟩
def BD(V:Ctx)(b:AC)(Q:AE->St->Prop):AE->St->Prop|.n,s=>Aq V b Q s|e,s=>Q e s
def Bv(id:Nat)(Q:AE->St->Prop):AE->St->Prop|.x i,s=>if i=id then Q .n s else Q (.x i) s|e,s=>Q e s
theorem CT{Q:AE->St->Prop}{s:St}(h:Q .n s):Aq V .nop Q s:=by
 intro code hc U a hA;have fin:lift V U Q .normal a U.w:=⟨U,s,.n,rfl,V.rfl U,hA,rfl,h⟩
 cases code with
 |skip=>exact wpIn_skip fin
 |label l=>exact wpIn_label fin
 |region id ops d=>obtain⟨_,_,⟨_,e⟩|⟨_,_,_,_,e⟩⟩:=BM hc<;>cases e
 |seq x y=>simp only[cCode]at hc;split at hc<;>simp at hc
 |cond c x y=>simp only[cCode]at hc;split at hc<;>simp at hc
 |rangeFunc f ps x y=>simp only[cCode]at hc;split at hc<;>simp at hc
 |_=>simp[cCode]at hc
theorem CC{id:Nat}{Q:AE->St->Prop}{s:St}(h:Q (.x id) s):Aq V (.exit id) Q s:=by
 intro code hc U a hA;cases code with
 |exit i=>simp[cCode]at hc;subst hc;exact wpIn_exit ⟨U,s,.x i,rfl,V.rfl U,hA,rfl,h⟩
 |region id ops d=>obtain⟨_,_,⟨_,e⟩|⟨_,_,_,_,e⟩⟩:=BM hc<;>cases e
 |seq x y=>simp only[cCode]at hc;split at hc<;>simp at hc
 |cond c x y=>simp only[cCode]at hc;split at hc<;>simp at hc
 |rangeFunc f ps x y=>simp only[cCode]at hc;split at hc<;>simp at hc
 |_=>simp[cCode]at hc
theorem CU{Q:AE->St->Prop}{s:St}(h:Q .r s):Aq V .ret Q s:=by
 intro code hc U a hA;cases code with
 |ret=>exact wpIn_ret ⟨U,s,.r,rfl,V.rfl U,hA,rfl,h⟩
 |region id ops d=>obtain⟨_,_,⟨_,e⟩|⟨_,_,_,_,e⟩⟩:=BM hc<;>cases e
 |seq x y=>simp only[cCode]at hc;split at hc<;>simp at hc
 |cond c x y=>simp only[cCode]at hc;split at hc<;>simp at hc
 |rangeFunc f ps x y=>simp only[cCode]at hc;split at hc<;>simp at hc
 |_=>simp[cCode]at hc
theorem Co{x y:AC}{Q:AE->St->Prop}{s:St}(h:Aq V x (BD V y Q) s):Aq V (.seq x y) Q s:=by
 intro code hc U a hA;cases code with
 |seq c d=>
  simp only[cCode]at hc;split at hc
  ·rename_i x' y' hx hy;obtain⟨rfl,rfl⟩:=hc;refine wpIn_seq (wpIn_mono (h c hx U a hA) ?_);rintro e a' w' ⟨σ',s',e',rfl,h2,h3,h4,h5⟩;cases e with
   |normal=>simp[AE.of]at h4;subst h4;exact wpIn_mono (h5 d hy σ' a' h3) λe a w k=>k.mono h2
   |exit id=>simp[AE.of]at h4;subst h4;exact⟨σ',s',_,rfl,h2,h3,rfl,h5⟩
   |ret=>simp[AE.of]at h4;subst h4;exact⟨σ',s',_,rfl,h2,h3,rfl,h5⟩
   |goto l=>simp[AE.of]at h4
   |panic c=>obtain⟨v,rfl,rfl⟩:=AE.of_panic h4;exact⟨σ',s',_,rfl,h2,h3,rfl,h5⟩
   |outgrown=>simp[AE.of]at h4
  ·simp at hc
 |region id ops d=>obtain⟨_,_,⟨_,e⟩|⟨_,_,_,_,e⟩⟩:=BM hc<;>cases e
 |cond c x y=>simp only[cCode]at hc;split at hc<;>simp at hc
 |rangeFunc f ps x y=>simp only[cCode]at hc;split at hc<;>simp at hc
 |_=>simp[cCode]at hc
theorem Cb{id:Nat}{x:AC}{Q:AE->St->Prop}{s:St}(h:Aq V x (Bv id Q) s):Aq V (.block id x) Q s:=by
 intro code hc U a hA;cases code with
 |block i c=>
  simp only[cCode]at hc;cases hx:cCode V.P V.nt c with
  |none=>simp[hx]at hc
  |some x'=>
   simp[hx]at hc;obtain⟨rfl,rfl⟩:=hc;refine wpIn_block (wpIn_mono (h c hx U a hA) ?_);rintro e a' w' ⟨σ',s',e',rfl,h2,h3,h4,h5⟩;cases e with
   |normal=>simp[AE.of]at h4;subst h4;exact⟨σ',s',_,rfl,h2,h3,rfl,h5⟩
   |exit j=>
    simp[AE.of]at h4;subst h4;simp only[Bv]at h5;simp only[Exit.inBlock];split
    ·rename_i e;rw[t8 e]at h5;exact⟨σ',s',_,rfl,h2,h3,rfl,h5⟩
    ·rename_i e;rw[t7 e]at h5;exact⟨σ',s',_,rfl,h2,h3,rfl,h5⟩
   |ret=>simp[AE.of]at h4;subst h4;exact⟨σ',s',_,rfl,h2,h3,rfl,h5⟩
   |goto l=>simp[AE.of]at h4
   |panic c=>obtain⟨v,rfl,rfl⟩:=AE.of_panic h4;exact⟨σ',s',_,rfl,h2,h3,rfl,h5⟩
   |outgrown=>simp[AE.of]at h4
 |region id ops d=>obtain⟨_,_,⟨_,e⟩|⟨_,_,_,_,e⟩⟩:=BM hc<;>cases e
 |seq x y=>simp only[cCode]at hc;split at hc<;>simp at hc
 |cond c x y=>simp only[cCode]at hc;split at hc<;>simp at hc
 |rangeFunc f ps x y=>simp only[cCode]at hc;split at hc<;>simp at hc
 |_=>simp[cCode]at hc
theorem Lw{c:Opd}{x y:AC}{Q:AE->St->Prop}{s:St}{b:Bool}(hb:Ay true (Ax s.env c)=.v (.bool b))(ht:b=true->Aq V x Q s)(hf:b=false->Aq V y Q s):Aq V (.cond c x y) Q s:=by
 intro code hc U a hA;cases code with
 |cond cc c1 c2=>
  simp only[cCode]at hc;split at hc
  ·rename_i x' y' hx hy;obtain⟨rfl,rfl,rfl⟩:=hc;have hr:=EZ rfl hA.1.t cc;rw[hb]at hr;have hev:=by simpa[Rep]using hr
   exact wpIn_cond_split hev (λe=>ht e c1 hx U a hA) (λe=>hf e c2 hy U a hA)
  ·simp at hc
 |region id ops d=>obtain⟨_,_,⟨_,e⟩|⟨_,_,_,_,e⟩⟩:=BM hc<;>cases e
 |seq x y=>simp only[cCode]at hc;split at hc<;>simp at hc
 |rangeFunc f ps x y=>simp only[cCode]at hc;split at hc<;>simp at hc
 |_=>simp[cCode]at hc
theorem HF{P:Program}{b:Frame}{a:Act}{k:List Item}{cs:List Frame}{w:World}{c:Code}:step P (lone (b.atR a (.code (.scope c)::k)) cs w)=.next (lone (b.atR a (.code c:: .inScope c::k)) cs w):=step_lone_go (by simp[stepG,stepG.exec,Frame.atR])
theorem SP{P:Program}{b:Frame}{a:Act}{k:List Item}{cs:List Frame}{w:World}{c:Code}:step P (lone (b.atR a (.inScope c::k)) cs w)=.next (lone (b.atR a k) cs w):=step_lone_go (by simp[stepG,stepG.exec,Frame.atR])
theorem Xi{F:Fence}{n:Nat}{P:Program}{c:Code}{Q:Exit->Act->World->Prop}{a:Act}{w:World}(h:c.wpIn F n P Q a w)(hg:∀l a w,¬Q (.goto l) a w):(Code.scope c).wpIn F n P Q a w:=by
 intro b k cs hro hb hr;have h0:(lone (b.atR a (.code (.scope c)::k)) cs w).fenced P F:=fenced_calm hb hr rfl;obtain⟨e,a₁,w₁,hq,harr⟩:=h b (.inScope c::k) cs hro hb hr;cases e with
 |normal=>exact⟨.normal,a₁,w₁,hq,.head h0 HF (StepsIn.trans harr (.one (fenced_calm hb hr rfl) SP))⟩
 |exit id=>exact⟨.exit id,a₁,w₁,hq,λk' hk=>.head h0 HF (harr.1 k' (by exact hk)),λhr' hk=>let⟨k₁,h1,h2⟩:=harr.2 hr' (by exact hk);⟨k₁,h1,.head h0 HF h2⟩⟩
 |goto l=>grind
 |ret=>exact⟨_,a₁,w₁,hq,.of_steps (.one h0 HF) harr⟩
 |panic ch=>exact⟨_,a₁,w₁,hq,.of_steps (.one h0 HF) harr⟩
 |outgrown=>exact⟨_,a₁,w₁,hq,.of_steps (.one h0 HF) harr⟩
theorem C8{x:AC}{Q:AE->St->Prop}{s:St}(h:Aq V x Q s):Aq V (.scp x) Q s:=by
 intro code hc U a hA;cases code with
 |scope c=>
  simp only[cCode]at hc;cases hx:cCode V.P V.nt c with
  |none=>simp[hx]at hc
  |some x'=>simp[hx]at hc;subst hc;refine Xi (h c hx U a hA) ?_;rintro l a w ⟨_,_,_,_,_,_,h4,_⟩;simp[AE.of]at h4
 |region id ops d=>obtain⟨_,_,⟨_,e⟩|⟨_,_,_,_,e⟩⟩:=BM hc<;>cases e
 |seq x y=>simp only[cCode]at hc;split at hc<;>simp at hc
 |cond c x y=>simp only[cCode]at hc;split at hc<;>simp at hc
 |rangeFunc f ps x y=>simp only[cCode]at hc;split at hc<;>simp at hc
 |_=>simp[cCode]at hc
def V7:Ar->Ar->Prop|[],_=>True|(t,x)::r,e=>lk e t=x/\V7 r e
def V8:Hp->Hp->Prop|[],_=>True|(l,x)::r,h=>hl h l=some x/\V8 r h
structure Le(s' s:St):Prop where
 e:V7 s'.env s.env
 h:V8 s'.hp s.hp
 c:s.cnt<=s'.cnt
theorem QJ:∀{e' e:Ar}(_:V7 e' e)(t:Nat),lk e' t=.un\/lk e' t=lk e t
 |[],_,_,t=>.inl rfl
 |(k,x)::r,e,h,t=>by
  simp only[V7]at h;simp only[lk];by_cases hk:k=t
  ·grind
  ·rw[t7 hk];exact QJ h.2 t
theorem TQ:∀{e' e:Hp}(_:V8 e' e)(l:Loc)(x:AV),hl e' l=some x->hl e l=some x
 |[],_,_,l,x,hx=>by simp[hl]at hx
 |(k,y)::r,e,h,l,x,hx=>by
  simp only[V8]at h;simp only[hl]at hx;by_cases hk:k=l
  ·grind
  ·rw[t7 hk]at hx;exact TQ h.2 l x hx
theorem HInv.sub{U:Cf}{hp hp':Hp}(h1:HInv U hp)(hsub:∀l x,hl hp' l=some x->hl hp l=some x):Evo U {U with ln:=lenOf hp'}/\HInv {U with ln:=lenOf hp'} hp':=by
 let Z:={U with ln:=lenOf hp'}
 have e:Evo U Z:=by refine⟨by grind,λn _ l' hl'=>?_,by grind,rfl,w6 _,SameO.refl _⟩;have hl2:lenOf hp' n=some l':=hl';rw[h1.ln n];unfold lenOf at hl2⊢;grind
 have hown:∀p b,Owns Z hp' p b->Owns U hp p b:=by
  rintro p b (⟨g1,g2,j,c,g3⟩|⟨g1,⟨sz,rows,d,g2⟩,o,cap,g3,g4⟩)
  ·exact .inl ⟨g1,g2,j,c,hsub _ _ g3⟩
  ·exact .inr ⟨g1,⟨sz,rows,d,hsub _ _ g2⟩,o,cap,g3,g4⟩
 refine⟨e,λ_=>rfl,λn j c hc=>?_,λn sz live rows d hc=>?_,λp q b hp hq=>h1.inj p q b (hown p b hp) (hown q b hq),h1.lt,h1.ou,h1.dis⟩
 ·have kk:=h1.cel n j c (hsub _ _ hc);exact kk.keep e kk.2.1 rfl
 ·exact(h1.arr n sz live rows d (hsub _ _ hc)).keep e rfl λ_ _ _ _ _ _ hM=>⟨hM,rfl⟩
theorem At.leM{U:Cf}{s s':St}{a:Act}(h:At V U s a)(k:Le s' s):Evo U {U with ln:=lenOf s'.hp}/\At V {U with ln:=lenOf s'.hp} s' a:=by
 obtain⟨⟨h1,h2,h3,h4⟩,h5,h6⟩:=h;obtain⟨e,hi⟩:=h1.sub (TQ k.h);refine⟨e,⟨hi,?_,h3,(h4.mono e).un (QJ k.e _)⟩,λm hm=>A09 (h5 m hm) k.c,V.g h6 e λt _=>QJ k.e t⟩;intro t;rcases QJ k.e t with h|h
 ·rw[h];simp[Rep]
 ·rw[h];exact(h2 t).mono e
theorem At.le{U:Cf}{s s':St}{a:Act}(h:At V U s a)(k:Le s' s):∃σ',σ'.w=U.w/\Evo U σ'/\At V σ' s' a:=⟨{U with ln:=lenOf s'.hp},rfl,h.leM k⟩
theorem qY{c:AC}{Q:AE->St->Prop}{s s':St}(k:Le s' s)(h:Aq V c Q s'):Aq V c Q s:=by intro code hc U a hA;obtain⟨σ',h1,h2,h3⟩:=hA.le k;rw[<-h1];exact wpIn_mono (h code hc σ' a h3) λe a w k=>k.mono (V.ofE h2)
def A8{X:Type}(I:X->St)(Pre:X->Prop)(μ:X->Nat)(n:Nat)(Q:AE->St->Prop):AE->St->Prop
 |.n,s=>∃x,Pre x/\μ x<n/\Le (I x) s
 |e,s=>Q e s
theorem Xj{F:Fence}{n:Nat}{P:Program}{X:Type}{c:Code}{Q:Exit->Act->World->Prop}(I:X->Act->World->Prop)(μ:X->Nat){x:X}{a:Act}{w:World}(h₀:I x a w)(round:∀x a w,I x a w->c.wpIn F n P (Exit.then (λa' w'=>∃x',I x' a' w'/\μ x'<μ x) Q) a w):(Code.loop c).wpIn F n P Q a w:=by
 intro b k cs hro hb hr;have key:∀j x a w,μ x=j->I x a w->∃e a' w',Q e a' w'/\ArrivesIn (Machine.fenced P F) P (lone (b.atR a (.code c:: .inLoop c::k)) cs w) b k cs e a' w':=by
  intro j;induction j using Nat.strongRecOn with
  |_ j ih=>
   intro x a w hn hI;obtain⟨e,a₁,w₁,hq,harr⟩:=round x a w hI b (.inLoop c::k) cs hro hb hr;cases e with
   |normal=>obtain⟨x',hI₁,hlt⟩:=hq;obtain⟨e₂,a₂,w₂,hq₂,harr₂⟩:=ih (μ x') (hn▸hlt) x' a₁ w₁ rfl hI₁;exact⟨e₂,a₂,w₂,hq₂,.of_steps (StepsIn.trans harr (.one (fenced_calm hb hr rfl) stepR_inLoop)) harr₂⟩
   |exit id=>exact⟨_,a₁,w₁,hq,.pass rfl (by grind) harr⟩
   |goto l=>exact⟨_,a₁,w₁,hq,.pass rfl (by grind) harr⟩
   |ret=>exact⟨_,a₁,w₁,hq,.pass rfl (by grind) harr⟩
   |panic ch=>exact⟨_,a₁,w₁,hq,.pass rfl (by grind) harr⟩
   |outgrown=>exact⟨_,a₁,w₁,hq,.pass rfl (by grind) harr⟩
 obtain⟨e,a',w',hq,harr⟩:=key _ x a w rfl h₀;exact⟨e,a',w',hq,.of_steps (.one (fenced_calm hb hr rfl) stepR_loop) harr⟩
theorem Hf{X:Type}(I:X->St)(Pre:X->Prop)(μ:X->Nat)(x0:X){b:AC}{Q:AE->St->Prop}{s:St}(h0:Pre x0)(hs:Le (I x0) s)(body:∀x,Pre x->Aq V b (A8 I Pre μ (μ x) Q) (I x)):Aq V (.loop b) Q s:=by
 intro code hc U a hA;cases code with
 |loop c=>
  simp only[cCode]at hc;cases hx:cCode V.P V.nt c with
  |none=>simp[hx]at hc
  |some x'=>
   simp[hx]at hc;subst hc;obtain⟨σ0,g1,g2,g3⟩:=hA.le hs;refine Xj (λx a w=>∃σ',σ'.w=w/\V.R U σ'/\Pre x/\At V σ' (I x) a) μ ⟨σ0,g1,V.ofE g2,h0,g3⟩ ?_;rintro x a w ⟨σ',rfl,k2,k3,k4⟩;refine wpIn_mono (body x k3 c hx σ' a k4) ?_;rintro e a' w' ⟨Z,s',e',rfl,h2,h3,h4,h5⟩;cases e with
   |normal=>simp[AE.of]at h4;subst h4;obtain⟨x',p1,p2,p3⟩:=h5;obtain⟨τ',q1,q2,q3⟩:=h3.le p3;exact⟨x',⟨τ',q1,V.tr (V.tr k2 h2) (V.ofE q2),p1,q3⟩,p2⟩
   |exit j=>simp[AE.of]at h4;subst h4;exact⟨Z,s',_,rfl,V.tr k2 h2,h3,rfl,h5⟩
   |ret=>simp[AE.of]at h4;subst h4;exact⟨Z,s',_,rfl,V.tr k2 h2,h3,rfl,h5⟩
   |goto l=>simp[AE.of]at h4
   |panic c=>obtain⟨v,rfl,rfl⟩:=AE.of_panic h4;exact⟨Z,s',_,rfl,V.tr k2 h2,h3,rfl,h5⟩
   |outgrown=>simp[AE.of]at h4
 |region id ops d=>obtain⟨_,_,⟨_,e⟩|⟨_,_,_,_,e⟩⟩:=BM hc<;>cases e
 |seq x y=>simp only[cCode]at hc;split at hc<;>simp at hc
 |cond c x y=>simp only[cCode]at hc;split at hc<;>simp at hc
 |rangeFunc f ps x y=>simp only[cCode]at hc;split at hc<;>simp at hc
 |_=>simp[cCode]at hc
theorem C9{P:Program}{nt:Nat}{ops:Array Oper}{o:Oper}{x:AOp}(h:JI P nt ops o=some x):∀d,x.d=some d->d<nt:=by grind[JI,Yz]
theorem DL{nt:Nat}{d:Option Nat}{x:AV}{env:Ar}{t:Nat}(hd:∀k,d=some k->k<nt)(ht:nt<=t):lk (BQ d x env) t=lk env t:=by
 cases d with
 |none=>rfl
 |some k=>have:=hd k rfl;simp only[BQ,lk];rw[t7 (by omega)]
theorem FS(hΓ:V.OK){ops:Array Oper}{Q:AE->St->Prop}{cnt:Nat}(bs:Nat)(e0:Ar)(σ0:Cf)(hG:V.G e0 σ0):∀(l:List Oper)(k:Nat)(aops:List AOp)(U:Cf)(env env':Ar)(hp hp':Hp)(a:Act)(vc:Prop),(∀t,V.nt<=t->lk env t=lk e0 t)->(∀j,l[j]? =ops[k+j]?)->l.length+k=ops.size->FM V.P V.nt ops l=some aops->Bh V.S (cnt+1) (bs+k) aops env hp=some (vc,env',hp')->vc->Evo σ0 U->Inv U env hp a V.nt V.hb->(∀m,U.al m->m.2<=cnt\/(m.2=cnt+1/\m.1<bs+k))->Q .n ⟨env',hp',cnt+1⟩->wpOpsIn V.F 0 V.P ops (lift V σ0 Q) (List.range' k l.length) a U.w
 |[],k,aops,U,env,env',hp,hp',a,vc,hgl,hl,hs,hc,hex,hvc,he,hI,hal,hQ=>by simp[FM]at hc;subst hc;obtain⟨_,rfl,rfl⟩:=hex;exact⟨U,_,_,rfl,V.ofE he,⟨hI,by grind,V.g hG he λt ht=>.inr (hgl t ht)⟩,rfl,hQ⟩
 |o::l,k,aops,U,env,env',hp,hp',a,vc,hgl,hl,hs,hc,hex,hvc,he,hI,hal,hQ=>by
  simp only[FM]at hc;split at hc
  ·rename_i x xs hx hxs;simp at hc;subst hc;simp only[Bh]at hex;split at hex
   ·simp at hex
   rename_i v1 r1 ws1 hex1;split at hex
   ·simp at hex
   rename_i v2 e2 h2 hex2;obtain⟨rfl,rfl,rfl⟩:=hex;have ho:=by have:=hl 0;simpa using this.symm
   have hnm:¬U.al (bs+k,cnt+1):=by grind
   have:=Jh hΓ.S hΓ.F (n:=0) (Q:=lift V σ0 Q) ho hx hI ⟨hnm,cnt+1,by grind⟩ hex1 hvc.1 (λa' σ' e' hI' hal'=>by
    refine FS hΓ bs e0 σ0 hG l (k+1) xs σ' _ _ _ _ a' v2 (by grind[DL,C9]) (λj=>?_) (by simp at hs⊢;omega) hxs hex2 hvc.2 (he.trans e') hI' (λm hm=>?_) hQ
    ·have:=hl (j+1);grind
    grind)
   assumption
  ·simp at hc
theorem V9(hΓ:V.OK){rid:Nat}{ops:List AOp}{Q:AE->St->Prop}{s:St}{vc:Prop}{env:Ar}{hp:Hp}(hex:Bh V.S (s.cnt+1) (100*rid) ops s.env s.hp=some (vc,env,hp))(hvc:vc)(hQ:Q .n ⟨env,hp,s.cnt+1⟩):Aq V (.reg rid ops) Q s:=by
 intro code hc U a hA;cases code with
 |region id ops' d=>
  obtain⟨l,hx,⟨rfl,e⟩|⟨_,_,_,_,e⟩⟩:=BM hc
  ·cases e
   refine wpIn_region ?_;have:=FS hΓ (100*rid) s.env U hA.2.2 ops'.toList 0 ops U _ _ _ _ a vc (λ_ _=>rfl) (λj=>by simp) (by simp) hx hex hvc (Evo.refl U) hA.1 (λm hm=>.inl (hA.2.1 m hm)) hQ;simpa[A36]using this
  ·cases e
 |seq x y=>simp only[cCode]at hc;split at hc<;>simp at hc
 |cond c x y=>simp only[cCode]at hc;split at hc<;>simp at hc
 |rangeFunc f ps x y=>simp only[cCode]at hc;split at hc<;>simp at hc
 |_=>simp[cCode]at hc
theorem iR(hΓ:V.OK){rid:Nat}{ops:List AOp}{Q:AE->St->Prop}{e e':Ar}{h h':Hp}{c:Nat}{vc:Prop}(hex:Bh V.S (c+1) (100*rid) ops e h=some (vc,e',h'))(hvc:vc)(hQ:Q .n ⟨e',h',c+1⟩):Aq V (.reg rid ops) Q ⟨e,h,c⟩:=V9 hΓ hex hvc hQ
theorem qZ(hΓ:V.OK){rid:Nat}{ops:List AOp}{b:AC}{Q:AE->St->Prop}{e e':Ar}{h h':Hp}{c:Nat}{vc:Prop}(hex:Bh V.S (c+1) (100*rid) ops e h=some (vc,e',h'))(hvc:vc)(hQ:Aq V b Q ⟨e',h',c+1⟩):Aq V (.seq (.reg rid ops) b) Q ⟨e,h,c⟩:=Co (V9 hΓ hex hvc hQ)
theorem DR{b:AC}{Q:AE->St->Prop}{s:St}(hQ:Aq V b Q s):Aq V (.seq .nop b) Q s:=Co (CT hQ)
theorem Dr{b:AC}{Q:AE->St->Prop}{s:St}(h:Aq V b Q s):BD V b Q .n s:=h
theorem DF{b:AC}{Q:AE->St->Prop}{s:St}(h:Q .r s):BD V b Q .r s:=h
theorem DS{b:AC}{Q:AE->St->Prop}{s:St}{i:Nat}(h:Q (.x i) s):BD V b Q (.x i) s:=h
theorem DT{id:Nat}{Q:AE->St->Prop}{s:St}(h:Q .n s):Bv id Q .n s:=h
theorem DU{id:Nat}{Q:AE->St->Prop}{s:St}(h:Q .r s):Bv id Q .r s:=h
theorem DV{id:Nat}{Q:AE->St->Prop}{s:St}(h:Q .n s):Bv id Q (.x id) s:=by simpa[Bv]using h
theorem DW{id i:Nat}{Q:AE->St->Prop}{s:St}(hi:(i==id)=false)(h:Q (.x i) s):Bv id Q (.x i) s:=by
 have:=by simpa using hi
 simpa[Bv,this]using h
theorem Da{X:Type}{I:X->St}{Pre:X->Prop}{μ:X->Nat}{n i:Nat}{Q:AE->St->Prop}{s:St}(h:Q (.x i) s):A8 I Pre μ n Q (.x i) s:=h
theorem Db{X:Type}{I:X->St}{Pre:X->Prop}{μ:X->Nat}{n:Nat}{Q:AE->St->Prop}{s:St}(h:Q .r s):A8 I Pre μ n Q .r s:=h
theorem Id{X:Type}{I:X->St}{Pre:X->Prop}{μ:X->Nat}{n:Nat}{Q:AE->St->Prop}{s:St}(x:X)(h:Pre x)(hm:μ x<n)(hl:Le (I x) s):A8 I Pre μ n Q .n s:=⟨x,h,hm,hl⟩
theorem Aae{b:Bool}{cc:Opd}{x y:AC}{Q:AE->St->Prop}{e:Ar}{h:Hp}{c:Nat}(hb:Ay true (Ax e cc)=.v (.bool b))(ht:b=true->Aq V x Q ⟨e,h,c⟩)(hf:b=false->Aq V y Q ⟨e,h,c⟩):Aq V (.cond cc x y) Q ⟨e,h,c⟩:=Lw hb ht hf
theorem rA{p:Prop}[Decidable p]{cc:Opd}{x y:AC}{Q:AE->St->Prop}{e:Ar}{h:Hp}{c:Nat}(hb:Ay true (Ax e cc)=.v (.bool (decide p)))(ht:p->Aq V x Q ⟨e,h,c⟩)(hf:¬p->Aq V y Q ⟨e,h,c⟩):Aq V (.cond cc x y) Q ⟨e,h,c⟩:=by simp_all[Lw]
theorem Kr{cc:Opd}{x y:AC}{Q:AE->St->Prop}{e:Ar}{h:Hp}{c:Nat}(hb:Ay true (Ax e cc)=.v (.bool true))(ht:Aq V x Q ⟨e,h,c⟩):Aq V (.cond cc x y) Q ⟨e,h,c⟩:=by grind[Lw]
theorem ME{cc:Opd}{x y:AC}{Q:AE->St->Prop}{e:Ar}{h:Hp}{c:Nat}(hb:Ay true (Ax e cc)=.v (.bool false))(hf:Aq V y Q ⟨e,h,c⟩):Aq V (.cond cc x y) Q ⟨e,h,c⟩:=by grind[Lw]
end
structure Ev(U σ':Cf):Prop where
 box:∀n,U.al n->σ'.al n/\σ'.rb n=U.rb n
 arr:∀n,U.al n->∀l',σ'.ln n=some l'->∃l,U.ln n=some l/\l<=l'/\(l=l'->σ'.ra n=U.ra n)
 fz:∀b,Fz U b->Fz σ' b
 cell:∀b o x,Fz U b->U.w.cell? ⟨b,o,none⟩=some x->σ'.w.cell? ⟨b,o,none⟩=some x
theorem Evo.ev{U σ':Cf}(h:Evo U σ'):Ev U σ':=⟨h.box,h.arr,λ_ hb=>h.fz hb,λ_ _ _ hb hc=>h.cell hb.1 hc⟩
theorem Gl.ev{U σ':Cf}(h:Gl U)(e:Ev U σ'):Gl σ':=λb j hj=>⟨e.fz b (h b j hj).1,e.cell b _ _ (h b j hj).1 (h b j hj).2⟩
theorem Ev.refl(U:Cf):Ev U U:=(Evo.refl U).ev
theorem Ev.trans{a b c:Cf}(h:Ev a b)(k:Ev b c):Ev a c where
 box n hn:=⟨(k.box n (h.box n hn).1).1,((k.box n (h.box n hn).1).2).trans (h.box n hn).2⟩
 arr n hn l' hl':=by obtain⟨l,h1,h2,h3⟩:=k.arr n (h.box n hn).1 l' hl';obtain⟨m,g1,g2,g3⟩:=h.arr n hn l h1;grind
 fz b hb:=k.fz b (h.fz b hb)
 cell b o x hb hc:=k.cell b o x (h.fz b hb) (h.cell b o x hb hc)
mutual
theorem Rep.monoE{U σ':Cf}(h:Ev U σ'):∀(a:AV)(v:Value),Rep U a v->Rep σ' a v
 |.v x,v,hr=>by simpa[Rep]using hr
 |.sl sz full rows _,v,hr=>by
  obtain⟨base,cap,h1,h2,h3,hp,h4⟩:=hr;refine⟨base,cap,h1,h2,h3,hp,?_⟩;rcases h4 with h4|⟨b,o,h5,h6,h7⟩
  ·exact .inl h4
  ·exact .inr ⟨b,o,h5,h.fz b h6,RepRows.monoE h sz b h6 rows o h7⟩
 |.ro cells off,v,hr=>by obtain⟨b,o,h1,h2,hp,h3⟩:=hr;exact⟨b,o,h1,h.fz b h2,hp,RepCells.monoE h b h2 cells o h3⟩
 |.agg cs,v,hr=>by obtain⟨xs,h1,h2,h3⟩:=hr;exact⟨xs,h1,h2,RepL.monoE h cs xs h3⟩
 |.tup cs,v,hr=>by obtain⟨xs,h1,h3⟩:=hr;exact⟨xs,h1,RepL.monoE h cs xs h3⟩
 |.clo fn first caps,v,hr=>by obtain⟨xs,ys,h1,h2,h3⟩:=hr;exact⟨xs,ys,h1,RepL.monoE h first xs h2,RepL.monoE h caps ys h3⟩
 |.box n off,v,hr=>by simp only[Rep]at hr⊢;obtain⟨h1,h2⟩:=h.box n hr.1;grind
 |.own n len,v,hr=>by simp only[Rep]at hr⊢;refine⟨(h.box n hr.1).1,hr.2.1,λl' hl'=>?_⟩;obtain⟨l,g1,g2,g3⟩:=h.arr n hr.1 l' hl';grind
 |.elem n len sz i off,v,hr=>by simp only[Rep]at hr⊢;refine⟨(h.box n hr.1).1,hr.2.1,λl' hl'=>?_⟩;obtain⟨l,g1,g2,g3⟩:=h.arr n hr.1 l' hl';grind
 |.gd b x,v,hr=>by exact⟨λhb=>Rep.monoE h x v (hr.1 hb),hr.2⟩
 |.mp n,v,hr=>by simp only[Rep]at hr⊢;obtain⟨h1,h2⟩:=h.box n hr.1;grind
 |.un,_,_=>by simp[Rep]
theorem RepCells.monoE{U σ':Cf}(h:Ev U σ')(b:Nat)(hM:Fz U b):∀(cs:List AV)(o:Nat),RepCells U b o cs->RepCells σ' b o cs
 |[],_,_=>by simp[RepCells]
 |c::cs,o,hr=>by obtain⟨⟨x,h1,h2,h3⟩,h4⟩:=hr;exact⟨⟨x,h.cell b _ _ hM h1,h2,Rep.monoE h c x h3⟩,RepCells.monoE h b hM cs (o+1) h4⟩
theorem RepRows.monoE{U σ':Cf}(h:Ev U σ')(sz b:Nat)(hM:Fz U b):∀(rs:List (List AV))(o:Nat),RepRows U sz b o rs->RepRows σ' sz b o rs
 |[],_,_=>by simp[RepRows]
 |r::rs,o,hr=>by exact⟨hr.1,RepCells.monoE h b hM r o hr.2.1,RepRows.monoE h sz b hM rs (o+sz) hr.2.2⟩
theorem RepL.monoE{U σ':Cf}(h:Ev U σ'):∀(cs:List AV)(xs:List Value),RepL U cs xs->RepL σ' cs xs
 |[],xs,hr=>by simpa[RepL]using hr
 |c::cs,xs,hr=>by obtain⟨y,ys,h1,h2,h3⟩:=hr;exact⟨y,ys,h1,Rep.monoE h c y h2,RepL.monoE h cs ys h3⟩
end
theorem RepCells.keepE{U σ':Cf}(h:Ev U σ'){b o:Nat}{cs:List AV}(hc:RepCells U b o cs)(hm:∀j x,j<cs.length->U.w.cell? ⟨b,o+j,none⟩=some x->σ'.w.cell? ⟨b,o+j,none⟩=some x):RepCells σ' b o cs:=Fi λj c hj=>by obtain⟨x,h1,h2,h3⟩:=HM hc j c hj;exact⟨x,by grind,h2,h3.monoE h⟩
theorem RepRows.keepE{U σ':Cf}(h:Ev U σ'){sz b o:Nat}{rs:List (List AV)}(hc:RepRows U sz b o rs)(hm:∀j x,j<rs.length*sz->U.w.cell? ⟨b,o+j,none⟩=some x->σ'.w.cell? ⟨b,o+j,none⟩=some x):RepRows σ' sz b o rs:=
 H6 λi r hi=>by
  obtain⟨h1,h2⟩:=FR hc i r hi;refine⟨h1,h2.keepE h λj x hj hx=>?_⟩;have hi':=(y5.1 hi).1;have hlt:i*sz+j<rs.length*sz:=by have:(i+1)*sz<=rs.length*sz:=A46 _ (by omega);rw[A42]at this;omega
  grind
theorem CelF.keepE{U σ':Cf}(h:Ev U σ'){n:Nm}{j:Nat}{c:AV}(k:CelF U n j c)(hM:σ'.M (U.rb n))(hw:σ'.w.heap[U.rb n]? =U.w.heap[U.rb n]?):CelF σ' n j c:=by
 obtain⟨h1,h2,h3⟩:=k;obtain⟨g1,g2⟩:=h.box n h1;refine⟨g1,by rw[g2];exact hM,?_⟩;rcases h3 with⟨cs,T,x,h3,h4,h5,h6⟩|⟨rows,es,h3,h4,h5,h6,h7⟩
 ·exact .inl ⟨cs,T,x,by rw[g2,hw];exact h3,h4,h5,h6.monoE h⟩
 ·exact .inr ⟨rows,es,h3,by rw[g2,hw];exact h4,h5,h6.map λr vs=>RepL.monoE h r vs,h7⟩
theorem ArrF.keepE{U σ':Cf}(h:Ev U σ'){n:Nm}{sz:Nat}{live:Bool}{rows:List (List AV)}(k:ArrF U n sz live rows)(hra:σ'.ra n=U.ra n)(hM:live=true->∀b o cap,U.ra n=(some ⟨b,o,none⟩,cap)->0<cap->U.M b->σ'.M b/\σ'.w.heap[b]? =U.w.heap[b]?):ArrF σ' n sz live rows:=by
 obtain⟨h1,h2,hp,h3⟩:=k;refine⟨(h.box n h1).1,h2,hp,?_⟩;rcases h3 with⟨a,h3,h4⟩|⟨b,o,cap,h3,h4,h5,h6,h7,h8⟩
 ·grind
 ·refine .inr ⟨b,o,cap,by rw[hra];exact h3,h4,h5,?_,?_,λe=>h.fz _ (h8 e)⟩
  ·cases live with
   |true=>obtain⟨g1,_⟩:=h7 rfl;exact h6.keepE h λj x _ hx=>by rw[cell_of_heap (hM rfl b o cap h3 h4 g1).2];exact hx
   |false=>exact h6.monoE h _ _ (h8 rfl)
  grind
structure Oth(U σ':Cf):Prop where
 rb:σ'.rb=U.rb
 ra:σ'.ra=U.ra
 ln:σ'.ln=U.ln
 al:σ'.al=U.al
 M:σ'.M=U.M
 ou:∀b,σ'.O b->b<σ'.w.heap.size/\¬U.M b/\¬Fz U b
 sz:U.w.heap.size<=σ'.w.heap.size
 mem:∀b,U.M b->σ'.w.heap[b]? =U.w.heap[b]?
 fro:∀b o x,Fz U b->U.w.cell? ⟨b,o,none⟩=some x->σ'.w.cell? ⟨b,o,none⟩=some x
 io:SameO U.w σ'.w
theorem Oth.ev{U σ':Cf}(h:Oth U σ'):Ev U σ' where
 box n hn:=by rw[h.al,h.rb];exact⟨hn,rfl⟩
 arr n hn l hl':=by rw[h.ln]at hl';rw[h.ra];grind
 fz b hb:=⟨by rw[h.M];exact hb.1,λhO=>(h.ou b hO).2.2 hb,A20 hb.2.2 h.sz⟩
 cell:=h.fro
theorem HInv.oth{U σ':Cf}{hp:Hp}(h:HInv U hp)(k:Oth U σ'):HInv σ' hp where
 ln n:=by rw[k.ln];exact h.ln n
 cel n j c hc:=by have kk:=h.cel n j c hc;exact kk.keepE k.ev (by rw[k.M];exact kk.2.1) (k.mem _ kk.2.1)
 arr n sz live rows d hc:=(h.arr n sz live rows d hc).keepE k.ev (by rw[k.ra]) λ_ b _ _ _ _ hM=>⟨by rw[k.M];exact hM,k.mem b hM⟩
 inj p q b hp hq:=h.inj p q b (by simpa only[Owns,k.rb,k.ra]using hp) (by simpa only[Owns,k.rb,k.ra]using hq)
 lt b hb:=by rw[k.M]at hb;exact A20 (h.lt b hb) k.sz
 ou b hb:=(k.ou b hb).1
 dis b hb hO:=(k.ou b hO).2.1 (by rw[k.M]at hb;exact hb)
theorem TInv.ev{U σ':Cf}{env:Ar}{a:Act}(h:TInv U env a)(k:Ev U σ'):TInv σ' env a:=λt=>(h t).monoE k
inductive RV where
 |t (n:Nat)
 |c (n sz:Nat) (ag:Bool)
 deriving Inhabited
def rB(P:Program):ResultVar->Option RV|.tmp t=>some (.t t)|.cell a t=>match P.underlying t,P.info? t with|some d,some i=>some (.c a i.size (B8 d))|_,_=>none
def cRes(P:Program):List ResultVar->Option (List RV)|[]=>some []|r::rs=>match rB P r,cRes P rs with|some x,some xs=>some (x::xs)|_,_=>none
def dB(env:Ar)(hp:Hp):RV->Option (Prop×AV)|.t n=>some (True,Ay true (lk env n))|.c n sz ag=>match Iq hp sz ag (Ay true (lk env n))with|some (vc,r,_)=>some (vc,r)|none=>none
def DK(env:Ar)(hp:Hp):List RV->Option (Prop×List AV)|[]=>some (True,[])|r::rs=>match dB env hp r,DK env hp rs with|some (v,x),some (vs,xs)=>some (v/\vs,x::xs)|_,_=>none
def one:List AV->AV|[x]=>x|xs=>.tup xs
mutual
def wk:AV->AV->Prop|.sl z f rows _,.sl z' f' rows' _=>rows=rows'/\(z=z'\/rows=[])/\(f'=true->f=true)|.agg a,.agg b=>GW a b|.tup a,.tup b=>GW a b|x,y=>x=y
def GW:List AV->List AV->Prop|[],[]=>True|x::xs,y::ys=>wk x y/\GW xs ys|_,_=>False
end
mutual
theorem JP{U:Cf}:∀(x y:AV)(v:Value),wk x y->Rep U x v->Rep U y v
 |.sl z f rows d,y,v,h,hr=>by cases y<;>grind[wk,Rep]
 |.agg a,y,v,h,hr=>by
  cases y with
  |agg b=>obtain⟨xs,e1,e2,e3⟩:=hr;exact⟨xs,e1,e2,L9 a b xs h e3⟩
  |_=>cases h
 |.tup a,y,v,h,hr=>by
  cases y with
  |tup b=>obtain⟨xs,e1,e3⟩:=hr;exact⟨xs,e1,L9 a b xs h e3⟩
  |_=>cases h
 |.v x,y,v,h,hr=>by grind[wk]
 |.ro _ _,y,v,h,hr=>by grind[wk]
 |.clo _ _ _,y,v,h,hr=>by grind[wk]
 |.box _ _,y,v,h,hr=>by grind[wk]
 |.own _ _,y,v,h,hr=>by grind[wk]
 |.elem _ _ _ _ _,y,v,h,hr=>by grind[wk]
 |.gd _ _,y,v,h,hr=>by grind[wk]
 |.mp _,y,v,h,hr=>by grind[wk]
 |.un,y,v,h,hr=>by grind[wk]
theorem L9{U:Cf}:∀(xs ys:List AV)(vs:List Value),GW xs ys->RepL U xs vs->RepL U ys vs
 |[],[],vs,_,h=>h
 |x::xs,y::ys,vs,h,hr=>by obtain⟨u,us,e1,e2,e3⟩:=hr;exact⟨u,us,e1,JP x y u h.1 e2,L9 xs ys us h.2 e3⟩
 |[],_::_,vs,h,_=>by simp[GW]at h
 |_::_,[],vs,h,_=>by simp[GW]at h
end
def Wk(x y:AV):Prop:=∀(U:Cf)(v:Value),Rep U x v->Rep U y v
theorem Wk.of{x y:AV}(h:wk x y):Wk x y:=λ_ _ k=>JP x y _ h k
def Gb(rvs:List RV)(r:AV)(s:St):Prop:=∃vc xs,DK s.env s.hp rvs=some (vc,xs)/\vc/\FI s.hp (one xs)/\Wk (res s.hp (one xs)) r/\BN r=true
def Bq(rvs:List RV)(r:AV):AE->St->Prop|.n,s=>Gb rvs r s|.r,s=>Gb rvs r s|.x _,_=>False|.p _,_=>False
theorem Ks{rvs:List RV}{r:AV}{e:Ar}{h:Hp}{c:Nat}{vc:Prop}{xs:List AV}(h1:DK e h rvs=some (vc,xs))(h2:vc)(h3:FI h (one xs))(h4:wk (res h (one xs)) r)(h5:BN r=true):Bq rvs r .r ⟨e,h,c⟩:=⟨vc,xs,h1,h2,h3,.of h4,h5⟩
theorem Kt{rvs:List RV}{r:AV}{e:Ar}{h:Hp}{c:Nat}{vc:Prop}{xs:List AV}(h1:DK e h rvs=some (vc,xs))(h2:vc)(h3:FI h (one xs))(h4:wk (res h (one xs)) r)(h5:BN r=true):Bq rvs r .n ⟨e,h,c⟩:=⟨vc,xs,h1,h2,h3,.of h4,h5⟩
section
variable{P:Program}
def Se(tmps:Array Value):ResultVar->Sem Value
 |.tmp t=>pure (tmps.getD t undef)
 |.cell k t=>do loadVar t (<-asAddr (tmps.getD k undef))
theorem dC{tmps:Array Value}{k:Nat}{t:TypeId}{ad:Addr}{u:Value}{w:World}(h1:tmps.getD k undef=.pointer (some ad))(h2:(loadVar t ad).run P w=.ok u w):(Se tmps (.cell k t)).run P w=.ok u w:=by grind[Se,asAddr]
theorem FT{U:Cf}{s:St}{a:Act}{nt:Nat}{hb:HB}(hI:Inv U s.env s.hp a nt hb):∀{rs:List ResultVar}{rvs:List RV}{vc:Prop}{xs:List AV},cRes P rs=some rvs->DK s.env s.hp rvs=some (vc,xs)->vc->∃vs,(rs.mapM (Se a.tmps)).run P U.w=.ok vs U.w/\RepL U xs vs
 |[],rvs,vc,xs,hc,hex,hvc=>by simp_all[cRes,DK,RepL]
 |r::rs,rvs,vc,xs,hc,hex,hvc=>by
  simp only[cRes]at hc;split at hc
  ·rename_i rv rvs' h1 h2;simp at hc;subst hc;simp only[DK]at hex;split at hex
   ·rename_i v1 x1 v2 xs2 g1 g2;obtain⟨rfl,rfl⟩:=hex;obtain⟨vs,k1,k2⟩:=FT hI h2 g2 hvc.2;cases r with
    |tmp t=>simp[rB]at h1;subst h1;obtain⟨_,rfl⟩:=g1;refine⟨a.tmps.getD t undef::vs,?_,_,_,rfl,IT rfl (hI.t t),k2⟩;grind[Sem.run_bind,Sem.run_pure,Result.andThen,Se]
    |cell k t=>
     simp only[rB]at h1;split at h1
     ·rename_i d i hd hi;simp at h1;subst h1;simp only[dB]at g1;split at g1
      ·rename_i vc' r' ws' hex';obtain⟨rfl,rfl⟩:=g1;obtain⟨_,b,kk,u,e1,e2,e3⟩:=Yg hI.df.gl hI.h hd hi (IT rfl (hI.t k)) hex' hvc.1;refine⟨u::vs,?_,_,_,rfl,e3,k2⟩;grind[Sem.run_bind,Sem.run_pure,Result.andThen,dC]
      ·simp at g1
     ·simp at h1
   ·simp at hex
  ·simp at hc
theorem FU{fn:Func}{tmps:Array Value}{w:World}{vs:List Value}(h:(fn.results.toList.mapM (Se tmps)).run P w=.ok vs w):(results fn tmps).run P w=.ok (if h:vs.toArray.size=1 then vs.toArray[0]else .tuple vs.toArray) w:=by
 have hm:fn.results.mapM (Se tmps)=List.toArray<$>fn.results.toList.mapM (Se tmps):=by rw[Array.mapM_eq_mapM_toList]
 show(do let vs<-fn.results.mapM (Se tmps);pure (if h:vs.size=1 then vs[0]else .tuple vs)).run P w=_
 simp_all
def BC:Nat->List AV->Ar|_,[]=>[]|k,x::xs=>(k,x)::BC (k+1) xs
theorem F5:∀(xs:List AV)(k t:Nat),lk (BC k xs) t=if k<=t/\t<k+xs.length then xs.getD (t-k) .un else .un
 |[],k,t=>by simp[BC,lk]
 |x::xs,k,t=>by
  simp only[BC,lk];by_cases h:k=t
  ·subst h;simp
  ·rw[t7 h,F5 xs (k+1) t];grind
theorem Oth.refl{U:Cf}(h:∀b,U.O b->b<U.w.heap.size/\¬U.M b):Oth U U:=⟨rfl,rfl,rfl,rfl,rfl,λb hb=>⟨(h b hb).1,(h b hb).2,λhf=>hf.2.1 hb⟩,w6 _,λ_ _=>rfl,by grind,SameO.refl _⟩
theorem Oth.trans{a b c:Cf}(h:Oth a b)(k:Oth b c):Oth a c where
 rb:=k.rb.trans h.rb
 ra:=k.ra.trans h.ra
 ln:=k.ln.trans h.ln
 al:=k.al.trans h.al
 M:=k.M.trans h.M
 ou x hx:=⟨(k.ou x hx).1,by have:=(k.ou x hx).2.1;rw[h.M]at this;exact this,λhf=>(k.ou x hx).2.2 (h.ev.fz x hf)⟩
 sz:=A09 h.sz k.sz
 mem x hx:=(k.mem x (by rw[h.M];exact hx)).trans (h.mem x hx)
 fro x o y hf hc:=k.fro x o y (h.ev.fz x hf) (h.fro x o y hf hc)
 io:=h.io.trans k.io
theorem K7{F:Fence}{n hb:Nat}{dd:List Deferred}{u:FrameMode}(hu:u≠.run){fn:Func}{tmps:Array Value}{R:Ending->World->Prop}:∀(ds:List Deferred)(U:Cf),(∀b,U.O b->b<U.w.heap.size/\¬U.M b)->DOK (hb,false) U .un ds->(∀Z,Oth U Z->Z.O=U.O->(∀(b:Nat)(o:Obj),b<hb\/U.O b->U.w.heap[b]? =some o->Z.w.heap[b]? =some o)->LeavesInM F n P fn tmps R dd u Z.w)->LeavesInM F n P fn tmps R (ds++dd) u U.w
 |[],U,hO,_,h=>h U (Oth.refl hO) rfl λ_ _ _ h=>h
 |d::ds,U,hO,hd,h=>by
  obtain⟨r,h1,h2,h3,h4,h5⟩:=hd.all rfl d (by simp);have hnd:=hd.nd rfl;rw[A25]at hnd
  let Z:={U with w:=U.w.putObj r (.deferred none)}
  have hsz:Z.w.heap.size=U.w.heap.size:=World.putObj_size;have k:Oth U Z:=
   {rb:=rfl,ra:=rfl,ln:=rfl,al:=rfl,M:=rfl
    ou:=λb hb=>⟨by rw[hsz];exact(hO b hb).1,(hO b hb).2,λhf=>hf.2.1 hb⟩
    sz:=by rw[hsz];exact w6 _
    mem:=by grind[World.putObj_heap_other]
    fro:=λb o x _ hc=>by
     by_cases e:b=r
     ·subst e;simp[World.cell?,h3]at hc
     ·simp only[World.cell?,show Z.w.heap[b]? =U.w.heap[b]? from World.putObj_heap_other e];exact hc
    io:=⟨rfl,rfl⟩}
  refine⟨hu,.inl ⟨r,Z.w,by rw[h1],run_takeDeferred h3,?_⟩⟩;refine K7 hu ds Z (by grind) (DOK.of rfl (λd' hd'=>?_) hnd.2 (by rw[hsz];exact hd.le) (hd.gl.ev k.ev)) λW k2 hO2 k3=>h W (k.trans k2) hO2 λb o hb hc=>k3 b o hb ?_
  ·obtain⟨r',g1,g2,g3,g4,g5⟩:=hd.all rfl d' (by simp[hd']);grind[World.putObj_heap_other]
  grind[World.putObj_heap_other]
theorem F6{F:Fence}{n hb:Nat}{fn:Func}{tmps:Array Value}{R:Ending->World->Prop}(ds:List Deferred)(U:Cf)(hO:∀b,U.O b->b<U.w.heap.size/\¬U.M b)(hd:DOK (hb,false) U .un ds)(h:∀Z,Oth U Z->Z.O=U.O->(∀(b:Nat) (o:Obj),b<hb\/U.O b->U.w.heap[b]? =some o->Z.w.heap[b]? =some o)->∃v,(results fn tmps).run P Z.w=.ok v Z.w/\R (.returned v) Z.w):LeavesInM F n P fn tmps R ds .returning U.w:=by
 have:=K7 (dd:=[]) (u:=.returning) (F:=F) (n:=n) (by simp) ds U hO hd λZ a b c=>h Z a b c
 rwa [A05]at this
def Cf.fresh(U:Cf):Cf:={rb:=λ_=>0,ra:=λ_=>(none,0),M:=λ_=>False,O:=λb=>U.M b\/U.O b,ln:=λ_=>none,al:=λ_=>False,w:=U.w}
theorem dD{S:Tab}(hS:TabOK P S){f:Nat}{fn:Func}{code:Code}{c:AC}{rvs:List RV}{args:List AV}{r:AV}(hf:P.funcs[f]? =some fn)(hb:fn.body=some code)(hc:cCode P fn.ntmps code=some c)(hr:cRes P fn.results.toList=some rvs)(hn:args.length<=fn.ntmps)(h:∀hb,Aq (Ctx.fn P S fn.ntmps hb) c (Bq rvs r) ⟨BC 0 args,[],0⟩):PCall P f args r:=by
 intro U vs hgl hlt hp hx;have hlen:=Bx hx
 let Z:=U.fresh
 have hgt:Gl Z:=λb j hj=>⟨⟨λh=>h,by rintro(h|h);exact(hgl b j hj).1.1 h;exact(hgl b j hj).1.2.1 h,(hgl b j hj).1.2.2⟩,(hgl b j hj).2⟩
 have hx':=RepL.ofPure (U:=U) (σ':=Z) (λb hb=>⟨λh=>h,by rintro(h|h);exact hb.1 h;exact hb.2.1 h,hb.2.2⟩) (λ_ _=>rfl) args vs hp hx;have hI:Inv Z (BC 0 args) [] {tmps:=vs.toArray++Array.replicate (fn.ntmps-vs.toArray.size) undef,defers:=[]} fn.ntmps (U.w.heap.size,false):=by
  refine⟨⟨λn=>rfl,λn j c h=>by simp[hl]at h,by grind[hl],?_,λb h=>h.elim,hlt,λb h=>h.elim⟩,λt=>?_,by simp;omega,DOK.nil (w6 _) hgt⟩
  ·rintro p q b (⟨_,_,j,c,h⟩|⟨_,⟨_,_,_,h⟩,_⟩) _<;>simp[hl]at h
  ·rw[F5];split
   ·rename_i ht;simp only[A08]at ht;have hg:args[t]? =some args[t]:=by grind
    obtain⟨x,g1,g2⟩:=C1 hx' t _ hg;have e1:args.getD (t-0) .un=args[t]:=by simp[ht]
    have e2:(vs.toArray++Array.replicate (fn.ntmps-vs.toArray.size) undef).getD t undef=x:=by simp_all[A30]
    rw[e1,e2];exact g2
   ·simp[Rep]
 have hw:=h U.w.heap.size code hc Z _ ⟨hI,λm hm=>hm.elim,trivial⟩;refine callsIn_wide.1 (callsIn_of_wp_marks hf hb trivial (wpIn_mono hw ?_));rintro e a' w' ⟨σ',s',e',rfl,h2,h3,h4,h5⟩;have key:∀(s':St),At (Ctx.fn P S fn.ntmps U.w.heap.size) σ' s' a'->Gb rvs r s'->LeavesInM Fence.wide 0 P fn a'.tmps (λe w'=>∃v',e=.returned v'/\(∀(b:Nat)(o:Obj),U.w.heap[b]? =some o->w'.heap[b]? =some o)/\SameO U.w w'/\BN r=true/\Rep (U.at w') r v') a'.defers .returning σ'.w:=by
  rintro s' hA ⟨vc,xs,g1,g2,g3,g4,g5⟩;refine F6 a'.defers σ' (λb hb=>⟨hA.1.h.ou b hb,λhM=>hA.1.h.dis b hM hb⟩) (DOK.of' hA.1.df) λρ0 ko kO kb=>?_
  have hI':Inv ρ0 s'.env s'.hp {a' with defers:=[]} fn.ntmps (U.w.heap.size,false):=⟨hA.1.h.oth ko,hA.1.t.ev ko.ev,hA.1.sz,DOK.nil (A09 hA.1.df.le ko.sz) (hA.1.df.gl.ev ko.ev)⟩
  obtain⟨us,k1,k2⟩:=FT hI' hr g1 g2;refine⟨_,FU k1,_,rfl,λb o hb=>kb b o (by grind) (h2.fro b o hb (λh=>h)).1,h2.io.trans ko.io,g5,?_⟩;have hone:Rep ρ0 (one xs) (if h:us.toArray.size=1 then us.toArray[0]else .tuple us.toArray):=by
   have hl':=Bx k2;unfold one;split
   ·grind[RepL]
   ·have hne:us.toArray.size≠1:=by
     intro h1;simp at h1;rw[h1]at hl';cases xs with
     |nil=>simp at hl'
     |cons x xs=>cases xs<;>grind
    rw[dif_neg hne];exact⟨us,rfl,k2⟩
  let W:={ρ0 with M:=λ_=>False}
  have e:Evo ρ0 W:=⟨by grind,by grind,by grind,rfl,w6 _,SameO.refl _⟩
  have h6:=L0 hI'.h e rfl (λ_ h=>h) _ _ g3 hone;have h7:=g4 _ _ h6;refine Rep.ofPure (U:=W) (σ':=U.at ρ0.w) (λb hb=>?_) (λ_ _=>rfl) r _ g5 h7;have hO:=kO.trans h2.out;have hb1:=hb.2.1;rw[hO]at hb1;exact⟨λh=>hb1 (.inl h),λh=>hb1 (.inr h),hb.2.2⟩
 cases e with
 |normal=>simp[AE.of]at h4;subst h4;exact key s' h3 h5
 |ret=>simp[AE.of]at h4;subst h4;exact key s' h3 h5
 |exit i=>simp[AE.of]at h4;subst h4;exact h5.elim
 |goto l=>simp[AE.of]at h4
 |panic c=>obtain⟨v,rfl,rfl⟩:=AE.of_panic h4;exact h5.elim
 |outgrown=>simp[AE.of]at h4
def Dj(P:Program)(fn:Func):Option (AC×List RV):=match fn.body with
 |some b=>match cCode P fn.ntmps b,cRes P fn.results.toList with|some c,some r=>some (c,r)|_,_=>none
 |none=>none
theorem Nf{S:Tab}(hS:TabOK P S){f:Nat}{fn:Func}{c:AC}{rvs:List RV}{args:List AV}{r:AV}(nt:Nat)(hf:P.funcs[f]? =some fn)(hc:Dj P fn=some (c,rvs))(hnt:fn.ntmps=nt)(hn:args.length<=nt)(h:∀hb,Aq (Ctx.fn P S nt hb) c (Bq rvs r) ⟨BC 0 args,[],0⟩):PCall P f args r:=by grind[Dj,dD]
end
