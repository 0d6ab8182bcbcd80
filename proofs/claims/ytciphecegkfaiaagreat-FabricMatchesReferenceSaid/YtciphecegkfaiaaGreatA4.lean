import Derived.Test.YtciphecegkfaiaaGreatA2
import Derived.RangeFuncRecord
set_option linter.unusedSimpArgs false
set_option linter.unusedVariables false
namespace Go.Proofs.YtciphecegkfaiaaGreat.Am
open Go
def Wide(F:Fence):Prop:=F=Fence.wide\/∃l,F=Fence.wide.inRound l
theorem Wide.fn{F:Fence}(h:Wide F)(f:FuncId):F.fn f:=by rcases h with rfl|⟨l,rfl⟩<;>trivial
theorem Wide.depth{F:Fence}(h:Wide F):F.depth=none:=by rcases h with rfl|⟨l,rfl⟩<;>rfl
theorem Wide.calls{F:Fence}(h:Wide F){n:Nat}{P:Program}{f:FuncId}{args:Array Value}{w:World}{R:Ending->World->Prop}(hc:Calls P f args w R):CallsIn F n P f args w R:=by
 rcases h with rfl|⟨l,rfl⟩
 ·exact callsIn_wide.2 hc
 ·exact(callsIn_wide.2 hc:CallsIn Fence.wide n P f args w R)
section
variable{P:Program}{F:Fence}{S:Tab}
theorem Kh(hF:Wide F){n:Nat}{ops:Array Oper}{Q:Exit->Act->World->Prop}{i:Nat}{K:Act->World->Prop}{o:Oper}{a:Act}{U:Cf}{nm:Nm}{hp':Hp}{r:AV}(hi:ops[i]? =some o)(hno:∀c,o.op≠.defer c)(hw:Region.wanted o (yielded ops a.tmps)=true)(hst:Step P o a U nm hp' r)(hK:∀v σ',Next U nm hp' σ'.w σ'->Rep σ' r v->K (a.put o.dst v) σ'.w):wpOpIn F n P ops Q i K a U.w:=by
 unfold wpOpIn;simp only[hi,hw,if_true];refine⟨λf _=>hF.fn f,?_⟩;rw[Oper.semAt_eq F.round a.eval o hno];rcases hst with⟨v,w',σ',hr,hn,hv⟩|⟨f,args,hr,hc⟩
 ·have:=hn.w;subst this;rcases hr with hr|⟨hr,rfl⟩
  ·rw[hr];exact hK v σ' hn hv
  ·rw[hr];exact hK undef σ' hn hv
 ·rw[hr];refine⟨λh=>by simp[hF.depth]at h,hF.calls (hc.mono ?_)⟩;rintro e w' ⟨v,σ',rfl,hn,hv⟩;have:=hn.w;subst this;exact hK v σ' hn hv
abbrev HB:=Nat×Bool
def Mark(n:Nat)(U:Cf)(d:Deferred):Prop:=∃r,d={target:=.collected r,args:=#[]}/\n<=r/\U.w.heap[r]? =some (.deferred (some []))/\¬U.M r/\¬U.O r
def DfK(U:Cf)(b:Bool)(x:AV)(ms dd:List Deferred):Prop:=(b=false->dd=[])/\(b=true->x=.gd false (.tup [])->dd=[])/\(b=true->∀f ys,x=.gd false (.clo (.func f) [] ys)->∃vs,RepL U ys vs/\dd=[{target:=.fn (.func f) vs.toArray,args:=#[]}])/\(b=true->ms=[])
def dk(nt:Nat):Nat:=nt+2000000
theorem N3{t nt:Nat}{x:AV}{e:Au}(h:t<nt):lk ((t,x)::e) (dk nt)=lk e (dk nt):=by
 have hne:¬t=dk nt:=λe=>absurd (e▸h:dk nt<nt) (Nat.not_lt.2 (Wp _ _))
 simp only[lk,eW hne]
structure DOK(hb:HB)(U:Cf)(x:AV)(ds:List Deferred):Prop where
 sp:∃ms dd,ds=ms++dd/\(∀d∈ms,Mark hb.1 U d)/\ms.Pairwise (λa b=>a.target≠b.target)/\DfK U hb.2 x ms dd
 le:hb.1<=U.w.heap.size
 gl:Gl U
theorem DOK.all{hb:HB}{U:Cf}{x:AV}{ds:List Deferred}(h:DOK hb U x ds)(hn:hb.2=false):∀d∈ds,∃r,d={target:=.collected r,args:=#[]}/\hb.1<=r/\U.w.heap[r]? =some (.deferred (some []))/\¬U.M r/\¬U.O r:=by obtain⟨ms,dd,rfl,h2,_,h3,_⟩:=h.sp;rw[h3 hn,qF];exact h2
theorem DOK.nd{hb:HB}{U:Cf}{x:AV}{ds:List Deferred}(h:DOK hb U x ds)(hn:hb.2=false):ds.Pairwise λa b=>a.target≠b.target:=by obtain⟨ms,dd,rfl,_,h3,h4,_⟩:=h.sp;rw[h4 hn,qF];exact h3
theorem DOK.of{hb:HB}{U:Cf}{x:AV}{ds:List Deferred}(hn:hb.2=false)(h1:∀d∈ds,∃r,d={target:=.collected r,args:=#[]}/\hb.1<=r/\U.w.heap[r]? =some (.deferred (some []))/\¬U.M r/\¬U.O r)(h2:ds.Pairwise λa b=>a.target≠b.target)(h3:hb.1<=U.w.heap.size)(h4:Gl U):DOK hb U x ds:=⟨⟨ds,[],by rw[qF],h1,h2,λ_=>rfl,λ_ _=>rfl,λe=>(by rw[hn]at e;cases e),λe=>(by rw[hn]at e;cases e)⟩,h3,h4⟩
theorem DOK.of'{n:Nat}{U:Cf}{x y:AV}{ds:List Deferred}(h:DOK (n,false) U y ds):DOK (n,false) U x ds:=DOK.of rfl (h.all rfl) (h.nd rfl) h.le h.gl
theorem DOK.un{hb:HB}{U:Cf}{x y:AV}{ds:List Deferred}(h:DOK hb U y ds)(hx:x=.un\/x=y):DOK hb U x ds:=by
 rcases hx with rfl|rfl
 ·obtain⟨ms,dd,h1,h2,h3,h4,_,_,h5⟩:=h.sp;exact⟨⟨ms,dd,h1,h2,h3,h4,λ_ e=>(by cases e),λ_ _ _ e=>(by cases e),h5⟩,h.le,h.gl⟩
 ·exact h
theorem Mark.mono{n:Nat}{U σ':Cf}{d:Deferred}(h:Mark n U d)(e:Evo U σ'):Mark n σ' d:=by obtain⟨r,h1,h2,h3,h4,h5⟩:=h;obtain⟨g1,g2⟩:=e.fro r _ h3 h4;exact⟨r,h1,h2,g1,g2,by rw[e.out];exact h5⟩
theorem DfK.map{U σ':Cf}{b:Bool}{x:AV}{ms dd:List Deferred}(h:DfK U b x ms dd)(hr:∀ys vs,RepL U ys vs->RepL σ' ys vs):DfK σ' b x ms dd:=⟨h.1,h.2.1,λhb f ys e=>let⟨vs,h1,h2⟩:=h.2.2.1 hb f ys e;⟨vs,hr _ _ h1,h2⟩,h.2.2.2⟩
theorem DOK.mono{hb:HB}{U σ':Cf}{x:AV}{ds:List Deferred}(h:DOK hb U x ds)(e:Evo U σ'):DOK hb σ' x ds where
 sp:=by obtain⟨ms,dd,h1,h2,h3,h4⟩:=h.sp;exact⟨ms,dd,h1,λd hd=>(h2 d hd).mono e,h3,h4.map λys vs=>RepL.mono e ys vs⟩
 le:=s7 h.le e.sz
 gl:=h.gl.mono e
theorem DOK.nil{n:Nat}{U:Cf}{x:AV}(h:n<=U.w.heap.size)(g:Gl U):DOK (n,false) U x []:=DOK.of rfl (by simp) .nil h g
structure Inv(U:Cf)(env:Au)(hp:Hp)(a:Act)(nt:Nat)(hb:HB):Prop where
 h:HInv U hp
 t:TInv U env a
 sz:a.tmps.size=nt
 df:DOK hb U (lk env (dk nt)) a.defers
theorem Act.size_put(a:Act)(d:Option Tmp)(v:Value):(a.put d v).tmps.size=a.tmps.size:=by cases d<;>simp[Act.put]
theorem Act.defers_put(a:Act)(d:Option Tmp)(v:Value):(a.put d v).defers=a.defers:=by cases d<;>rfl
theorem Ki(hS:TabOK P S)(hF:Wide F){n nt:Nat}{hb:HB}{ops:Array Oper}{Q:Exit->Act->World->Prop}{i:Nat}{K:Act->World->Prop}{o:Oper}{ao:AOp}{a:Act}{U:Cf}{nm:Nm}{env:Au}{hp ws:Hp}{r:AV}{vc:Prop}(hi:ops[i]? =some o)(hc:KA P nt ops o=some ao)(hI:Inv U env hp a nt hb)(hnm:¬U.al nm/\∃c,∀m,U.al m->m.2<=c)(hex:JM S nm env hp ao=some (vc,r,ws))(hvc:vc)(hK:∀a' σ',Evo U σ'->Inv σ' (Ca ao.d r env) (ws++hp) a' nt hb->(∀m,σ'.al m->U.al m\/m=nm)->K a' σ'.w):wpOpIn F n P ops Q i K a U.w:=by
 unfold KA at hc;split at hc
 ·simp at hc
 rename_i g hg;have hd:bD nt o.dst=true/\ao=⟨o.dst,g,cK P o.op⟩:=by
  split at hc
  ·rename_i hd;simp at hc;exact⟨hd,hc.symm⟩
  ·simp at hc
 obtain⟨hd,rfl⟩:=hd;have hno:∀{env':Au}{hp':Hp}{nm':Nm}{g':Bool}{x:Prop×AV×Hp},AB S env' hp' nm' g' (cK P o.op)=some x->∀c,o.op≠.defer c:=by intro env' hp' nm' g' x he c e;rw[e]at he;simp only[cK]at he;split at he<;>simp[AB]at he
 have hdk:∀r',lk (Ca o.dst r' env) (dk nt)=lk env (dk nt):=λr'=>by
  cases ho:o.dst with
  |none=>rfl
  |some k=>
   rw[ho]at hd;have:k<nt:=by simpa[bD]using hd
   have hne:¬k=dk nt:=λe=>absurd (e▸this:dk nt<nt) (Nat.not_lt.2 (Wp _ _))
   simp only[Ca,lk,eW hne]
 simp only at hK;have hput:∀k,o.dst=some k->k<a.tmps.size:=by intro k hk;rw[hk]at hd;rw[hI.sz];simpa[bD]using hd
 have fin:∀(v:Value)(σ':Cf)(r':AV)(hp':Hp),Evo U σ'->HInv σ' hp'->Rep σ' r' v->Inv σ' (Ca o.dst r' env) hp' (a.put o.dst v) nt hb:=λv σ' r' hp' e h hr=>⟨h,(hI.t.mono e).put hput hr,by rw[Act.size_put];exact hI.sz,by rw[Act.defers_put,hdk];exact hI.df.mono e⟩
 unfold JM at hex;cases g with
 |none=>
  simp only at hex;have hw:Region.wanted o (yielded ops a.tmps)=true:=Gb (ao:=none) hI.t hg rfl;refine Kh hF hi (hno hex) hw (O8 hS hI.df.gl hI.h hI.t hnm rfl hex hvc) λv σ' hn hv=>?_
  exact hK _ σ' hn.evo (fin v σ' r _ hn.evo hn.inv hv) hn.al
 |some tw=>
  simp only at hex;split at hex
  ·simp at hex
  rename_i g hgv;have hw:=Gb hI.t hg hgv;have skip:g=false->∀r',Rep U r' undef->r'=r->ws=[]->wpOpIn F n P ops Q i K a U.w:=by intro hg0 r' hr e1 e2;subst hg0 e1 e2;unfold wpOpIn;simp only[hi,hw,if_false,yF];exact⟨λf _=>hF.fn f,hK _ U (Evo.refl U) (fin undef U r' _ (Evo.refl U) hI.h hr) λm hm=>.inl hm⟩
  split at hex
  ·simp only[yE,Wt]at hex;obtain⟨rfl,rfl,rfl⟩:=hex;exact skip hvc _ (by simp[Rep]) rfl rfl
  ·rename_i vc' r' hk;simp only[yE,Wt]at hex;obtain⟨rfl,rfl,rfl⟩:=hex;cases hgb:g with
   |false=>subst hgb;exact skip rfl _ (by simp[Rep]) rfl rfl
   |true=>
    subst hgb;refine Kh hF hi (hno hk) hw (O8 hS hI.df.gl hI.h hI.t hnm rfl hk (hvc rfl)) λv σ' hn hv=>?_
    exact hK _ σ' hn.evo (fin v σ' _ _ hn.evo hn.inv (by simp only[Rep];exact⟨λ_=>hv,by simp⟩)) hn.al
  ·rename_i vc' r' w0 ws' hk;simp only[yE,Wt]at hex;obtain⟨rfl,rfl,rfl⟩:=hex;obtain⟨rfl,hvc'⟩:=hvc;refine Kh hF hi (hno hk) hw (O8 hS hI.df.gl hI.h hI.t hnm rfl hk hvc') λv σ' hn hv=>?_
   exact hK _ σ' hn.evo (fin v σ' _ _ hn.evo hn.inv hv) hn.al
inductive AC where
 |nop
 |reg (rid:Nat) (ops:List AOp)
 |drw (rid:Nat) (ops:List AOp) (un:List (Nat×Nat))
 |seq (a b:AC)
 |cond (c:Opd) (a b:AC)
 |block (id:Nat) (a:AC)
 |loop (a:AC)
 |scp (a:AC)
 |rfun (f:Opd) (ps:List Nat) (asg body:AC)
 |exit (id:Nat)
 |ret
 deriving Inhabited
def G8(P:Program)(nt:Nat)(ops:Array Oper):List Oper->Option (List AOp)|[]=>some []|o::r=>match KA P nt ops o,G8 P nt ops r with|some x,some xs=>some (x::xs)|_,_=>none
def Y4(P:Program)(nt:Nat)(id:Nat)(ops:Array Oper)(d:Bool):Option AC:=match G8 P nt ops ops.toList with|none=>none|some l=>match d with|false=>some (.reg id l)|true=>if P.follows .mixedOrders=true then(RM ops l).map λun=>.drw id l un else none
theorem Cz{P:Program}{nt id:Nat}{ops:Array Oper}{d:Bool}{c:AC}(h:Y4 P nt id ops d=some c):∃l,G8 P nt ops ops.toList=some l/\((d=false/\c=.reg id l)\/(d=true/\P.follows .mixedOrders=true/\∃un,RM ops l=some un/\c=.drw id l un)):=by
 unfold Y4 at h;split at h
 ·simp at h
 ·rename_i l hl;refine⟨l,hl,?_⟩;cases d with
  |false=>simp at h;exact .inl ⟨rfl,h.symm⟩
  |true=>
   simp only at h;split at h
   ·rename_i hf;cases hc:RM ops l with
    |none=>simp[hc]at h
    |some un=>simp[hc]at h;exact .inr ⟨rfl,hf,un,rfl,h.symm⟩
   ·simp at h
def cCode(P:Program)(nt:Nat):Code->Option AC
 |.skip=>some .nop
 |.label _=>some .nop
 |.region id ops d=>Y4 P nt id ops d
 |.seq a b=>match cCode P nt a,cCode P nt b with|some x,some y=>some (.seq x y)|_,_=>none
 |.cond c a b=>match cCode P nt a,cCode P nt b with|some x,some y=>some (.cond (Aq c) x y)|_,_=>none
 |.block id a=>(cCode P nt a).map (.block id)
 |.loop a=>(cCode P nt a).map .loop
 |.scope a=>(cCode P nt a).map .scp
 |.rangeFunc f ps a b=>match cCode P nt a,cCode P nt b with|some x,some y=>some (.rfun (Aq f) ps.toList x y)|_,_=>none
 |.exit id=>some (.exit id)
 |.ret=>some .ret
 |_=>none
structure St where
 env:Au
 hp:Hp
 cnt:Nat
inductive AE where
 |n
 |x (id:Nat)
 |r
 |p (v:Value)
def AE.of:Exit->Option AE|.normal=>some .n|.exit id=>some (.x id)|.ret=>some .r|.panic [⟨v,false,false⟩]=>some (.p v)|_=>none
theorem AE.of_panic{c:List PanicEntry}{e:AE}(h:AE.of (.panic c)=some e):∃v,c=[⟨v,false,false⟩]/\e=.p v:=by
 unfold AE.of at h;split at h
 ·rename_i h';cases h'
 ·rename_i h';cases h'
 ·rename_i h';cases h'
 ·rename_i v h';cases h'
  simp at h;exact⟨v,rfl,h.symm⟩
 ·simp at h
structure Ctx where
 P:Program
 F:Fence
 S:Tab
 nt:Nat
 hb:HB
 R:Cf->Cf->Prop
 G:Au->Cf->Prop
 ofE:∀{U σ':Cf},Evo U σ'->R U σ'
 tr:∀{a b c:Cf},R a b->R b c->R a c
 g:∀{U σ':Cf}{e e':Au},G e U->Evo U σ'->(∀t,nt<=t->lk e' t=.un\/lk e' t=lk e t)->G e' σ'
structure Ctx.OK(V:Ctx):Prop where
 S:TabOK V.P V.S
 F:Wide V.F
def Ctx.fn(P:Program)(S:Tab)(nt hb:Nat):Ctx:={P:=P,F:=Fence.wide,S:=S,nt:=nt,hb:=(hb,false),R:=Evo,G:=λ_ _=>True,ofE:=id,tr:=Evo.trans,g:=λ_ _ _=>trivial}
theorem Ctx.fn_ok{P:Program}{S:Tab}{nt hb:Nat}(h:TabOK P S):(Ctx.fn P S nt hb).OK:=⟨h,.inl rfl⟩
def At(V:Ctx)(U:Cf)(s:St)(a:Act):Prop:=Inv U s.env s.hp a V.nt V.hb/\(∀m,U.al m->m.2<=s.cnt)/\V.G s.env U
def lift(V:Ctx)(U:Cf)(Q:AE->St->Prop):Exit->Act->World->Prop:=λe a w=>∃σ' s' e',σ'.w=w/\V.R U σ'/\At V σ' s' a/\AE.of e=some e'/\Q e' s'
def As(V:Ctx)(c:AC)(Q:AE->St->Prop)(s:St):Prop:=∀code,cCode V.P V.nt code=some c->∀U a,At V U s a->code.wpIn V.F 0 V.P (lift V U Q) a U.w
variable{V:Ctx}
theorem Ctx.rfl(V:Ctx)(U:Cf):V.R U U:=V.ofE (Evo.refl U)
theorem lift.mono{U σ':Cf}{Q:AE->St->Prop}(h:V.R U σ'){e:Exit}{a:Act}{w:World}(k:lift V σ' Q e a w):lift V U Q e a w:=by obtain⟨Z,s',e',h1,h2,h3⟩:=k;exact⟨Z,s',e',h1,V.tr h h2,h3⟩
def Cn(V:Ctx)(b:AC)(Q:AE->St->Prop):AE->St->Prop|.n,s=>As V b Q s|e,s=>Q e s
def B6(id:Nat)(Q:AE->St->Prop):AE->St->Prop|.x i,s=>if i=id then Q .n s else Q (.x i) s|e,s=>Q e s
theorem Fm{Q:AE->St->Prop}{s:St}(h:Q .n s):As V .nop Q s:=by
 intro code hc U a hA;have fin:lift V U Q .normal a U.w:=⟨U,s,.n,rfl,V.rfl U,hA,rfl,h⟩
 cases code with
 |skip=>exact wpIn_skip fin
 |label l=>exact wpIn_label fin
 |region id ops d=>simp only[cCode]at hc;obtain⟨_,_,⟨_,e⟩|⟨_,_,_,_,e⟩⟩:=Cz hc<;>cases e
 |seq x y=>simp only[cCode]at hc;split at hc<;>simp at hc
 |cond c x y=>simp only[cCode]at hc;split at hc<;>simp at hc
 |rangeFunc f ps x y=>simp only[cCode]at hc;split at hc<;>simp at hc
 |_=>simp[cCode]at hc
theorem EZ{id:Nat}{Q:AE->St->Prop}{s:St}(h:Q (.x id) s):As V (.exit id) Q s:=by
 intro code hc U a hA;cases code with
 |exit i=>simp[cCode]at hc;subst hc;exact wpIn_exit ⟨U,s,.x i,rfl,V.rfl U,hA,rfl,h⟩
 |region id ops d=>simp only[cCode]at hc;obtain⟨_,_,⟨_,e⟩|⟨_,_,_,_,e⟩⟩:=Cz hc<;>cases e
 |seq x y=>simp only[cCode]at hc;split at hc<;>simp at hc
 |cond c x y=>simp only[cCode]at hc;split at hc<;>simp at hc
 |rangeFunc f ps x y=>simp only[cCode]at hc;split at hc<;>simp at hc
 |_=>simp[cCode]at hc
theorem FL{Q:AE->St->Prop}{s:St}(h:Q .r s):As V .ret Q s:=by
 intro code hc U a hA;cases code with
 |ret=>exact wpIn_ret ⟨U,s,.r,rfl,V.rfl U,hA,rfl,h⟩
 |region id ops d=>simp only[cCode]at hc;obtain⟨_,_,⟨_,e⟩|⟨_,_,_,_,e⟩⟩:=Cz hc<;>cases e
 |seq x y=>simp only[cCode]at hc;split at hc<;>simp at hc
 |cond c x y=>simp only[cCode]at hc;split at hc<;>simp at hc
 |rangeFunc f ps x y=>simp only[cCode]at hc;split at hc<;>simp at hc
 |_=>simp[cCode]at hc
theorem Ez{x y:AC}{Q:AE->St->Prop}{s:St}(h:As V x (Cn V y Q) s):As V (.seq x y) Q s:=by
 intro code hc U a hA;cases code with
 |seq c d=>
  simp only[cCode]at hc;split at hc
  ·rename_i x' y' hx hy;simp at hc;obtain⟨rfl,rfl⟩:=hc;refine wpIn_seq (wpIn_mono (h c hx U a hA) ?_);rintro e a' w' ⟨σ',s',e',rfl,h2,h3,h4,h5⟩;cases e with
   |normal=>simp[AE.of]at h4;subst h4;exact wpIn_mono (h5 d hy σ' a' h3) λe a w k=>k.mono h2
   |exit id=>simp[AE.of]at h4;subst h4;exact⟨σ',s',_,rfl,h2,h3,rfl,h5⟩
   |ret=>simp[AE.of]at h4;subst h4;exact⟨σ',s',_,rfl,h2,h3,rfl,h5⟩
   |goto l=>simp[AE.of]at h4
   |panic c=>obtain⟨v,rfl,rfl⟩:=AE.of_panic h4;exact⟨σ',s',_,rfl,h2,h3,rfl,h5⟩
   |outgrown=>simp[AE.of]at h4
  ·simp at hc
 |region id ops d=>simp only[cCode]at hc;obtain⟨_,_,⟨_,e⟩|⟨_,_,_,_,e⟩⟩:=Cz hc<;>cases e
 |cond c x y=>simp only[cCode]at hc;split at hc<;>simp at hc
 |rangeFunc f ps x y=>simp only[cCode]at hc;split at hc<;>simp at hc
 |_=>simp[cCode]at hc
theorem El{id:Nat}{x:AC}{Q:AE->St->Prop}{s:St}(h:As V x (B6 id Q) s):As V (.block id x) Q s:=by
 intro code hc U a hA;cases code with
 |block i c=>
  simp only[cCode]at hc;cases hx:cCode V.P V.nt c with
  |none=>simp[hx]at hc
  |some x'=>
   simp[hx]at hc;obtain⟨rfl,rfl⟩:=hc;refine wpIn_block (wpIn_mono (h c hx U a hA) ?_);rintro e a' w' ⟨σ',s',e',rfl,h2,h3,h4,h5⟩;cases e with
   |normal=>simp[AE.of]at h4;subst h4;exact⟨σ',s',_,rfl,h2,h3,rfl,h5⟩
   |exit j=>
    simp[AE.of]at h4;subst h4;simp only[B6]at h5;simp only[Exit.inBlock];split
    ·rename_i e;rw[eX e]at h5;exact⟨σ',s',_,rfl,h2,h3,rfl,h5⟩
    ·rename_i e;rw[eW e]at h5;exact⟨σ',s',_,rfl,h2,h3,rfl,h5⟩
   |ret=>simp[AE.of]at h4;subst h4;exact⟨σ',s',_,rfl,h2,h3,rfl,h5⟩
   |goto l=>simp[AE.of]at h4
   |panic c=>obtain⟨v,rfl,rfl⟩:=AE.of_panic h4;exact⟨σ',s',_,rfl,h2,h3,rfl,h5⟩
   |outgrown=>simp[AE.of]at h4
 |region id ops d=>simp only[cCode]at hc;obtain⟨_,_,⟨_,e⟩|⟨_,_,_,_,e⟩⟩:=Cz hc<;>cases e
 |seq x y=>simp only[cCode]at hc;split at hc<;>simp at hc
 |cond c x y=>simp only[cCode]at hc;split at hc<;>simp at hc
 |rangeFunc f ps x y=>simp only[cCode]at hc;split at hc<;>simp at hc
 |_=>simp[cCode]at hc
theorem Mb{c:Opd}{x y:AC}{Q:AE->St->Prop}{s:St}{b:Bool}(hb:Aw true (Av s.env c)=.v (.bool b))(ht:b=true->As V x Q s)(hf:b=false->As V y Q s):As V (.cond c x y) Q s:=by
 intro code hc U a hA;cases code with
 |cond cc c1 c2=>
  simp only[cCode]at hc;split at hc
  ·rename_i x' y' hx hy;simp at hc;obtain⟨rfl,rfl,rfl⟩:=hc;have hr:=Fl (g:=true) rfl hA.1.t cc;rw[hb]at hr;have hev:a.eval cc=.bool b:=by simpa[Rep]using hr
   exact wpIn_cond_split hev (λe=>ht e c1 hx U a hA) (λe=>hf e c2 hy U a hA)
  ·simp at hc
 |region id ops d=>simp only[cCode]at hc;obtain⟨_,_,⟨_,e⟩|⟨_,_,_,_,e⟩⟩:=Cz hc<;>cases e
 |seq x y=>simp only[cCode]at hc;split at hc<;>simp at hc
 |rangeFunc f ps x y=>simp only[cCode]at hc;split at hc<;>simp at hc
 |_=>simp[cCode]at hc
theorem IM{P:Program}{b:Frame}{a:Act}{k:List Item}{cs:List Frame}{w:World}{c:Code}:step P (lone (b.atR a (.code (.scope c)::k)) cs w)=.next (lone (b.atR a (.code c:: .inScope c::k)) cs w):=step_lone_go (by simp[stepG,stepG.exec,Frame.atR])
theorem Uo{P:Program}{b:Frame}{a:Act}{k:List Item}{cs:List Frame}{w:World}{c:Code}:step P (lone (b.atR a (.inScope c::k)) cs w)=.next (lone (b.atR a k) cs w):=step_lone_go (by simp[stepG,stepG.exec,Frame.atR])
theorem Y5{F:Fence}{n:Nat}{P:Program}{c:Code}{Q:Exit->Act->World->Prop}{a:Act}{w:World}(h:c.wpIn F n P Q a w)(hg:∀l a w,¬Q (.goto l) a w):(Code.scope c).wpIn F n P Q a w:=by
 intro b k cs hro hb hr;have h0:(lone (b.atR a (.code (.scope c)::k)) cs w).fenced P F:=fenced_calm hb hr rfl;obtain⟨e,a₁,w₁,hq,harr⟩:=h b (.inScope c::k) cs hro hb hr;cases e with
 |normal=>exact⟨.normal,a₁,w₁,hq,.head h0 IM (StepsIn.trans harr (.one (fenced_calm hb hr rfl) Uo))⟩
 |exit id=>
  have hx:exitTo id (.inScope c::k)=exitTo id k:=by simp[exitTo]
  exact⟨.exit id,a₁,w₁,hq,λk' hk=>.head h0 IM (harr.1 k' (by rw[hx];exact hk)),λhr' hk=>let⟨k₁,h1,h2⟩:=harr.2 hr' (by rw[hx];exact hk);⟨k₁,h1,.head h0 IM h2⟩⟩
 |goto l=>exact(hg l a₁ w₁ hq).elim
 |ret=>exact⟨_,a₁,w₁,hq,.of_steps (.one h0 IM) harr⟩
 |panic ch=>exact⟨_,a₁,w₁,hq,.of_steps (.one h0 IM) harr⟩
 |outgrown=>exact⟨_,a₁,w₁,hq,.of_steps (.one h0 IM) harr⟩
theorem FM{x:AC}{Q:AE->St->Prop}{s:St}(h:As V x Q s):As V (.scp x) Q s:=by
 intro code hc U a hA;cases code with
 |scope c=>
  simp only[cCode]at hc;cases hx:cCode V.P V.nt c with
  |none=>simp[hx]at hc
  |some x'=>simp[hx]at hc;subst hc;refine Y5 (h c hx U a hA) ?_;rintro l a w ⟨_,_,_,_,_,_,h4,_⟩;simp[AE.of]at h4
 |region id ops d=>simp only[cCode]at hc;obtain⟨_,_,⟨_,e⟩|⟨_,_,_,_,e⟩⟩:=Cz hc<;>cases e
 |seq x y=>simp only[cCode]at hc;split at hc<;>simp at hc
 |cond c x y=>simp only[cCode]at hc;split at hc<;>simp at hc
 |rangeFunc f ps x y=>simp only[cCode]at hc;split at hc<;>simp at hc
 |_=>simp[cCode]at hc
def TD:Au->Au->Prop|[],_=>True|(t,x)::r,e=>lk e t=x/\TD r e
def TE:Hp->Hp->Prop|[],_=>True|(l,x)::r,h=>hl h l=some x/\TE r h
structure Le(s' s:St):Prop where
 e:TD s'.env s.env
 h:TE s'.hp s.hp
 c:s.cnt<=s'.cnt
theorem RT:∀{e' e:Au}(_:TD e' e)(t:Nat),lk e' t=.un\/lk e' t=lk e t
 |[],_,_,t=>.inl rfl
 |(k,x)::r,e,h,t=>by
  simp only[TD]at h;simp only[lk];by_cases hk:k=t
  ·rw[eX hk];subst hk;exact .inr h.1.symm
  ·rw[eW hk];exact RT h.2 t
theorem Vr:∀{e' e:Hp}(_:TE e' e)(l:Loc)(x:AV),hl e' l=some x->hl e l=some x
 |[],_,_,l,x,hx=>by simp[hl]at hx
 |(k,y)::r,e,h,l,x,hx=>by
  simp only[TE]at h;simp only[hl]at hx;by_cases hk:k=l
  ·rw[eX hk]at hx;simp at hx;subst hx hk;exact h.1
  ·rw[eW hk]at hx;exact Vr h.2 l x hx
theorem At.leM{U:Cf}{s s':St}{a:Act}(h:At V U s a)(k:Le s' s):Evo U {U with ln:=lenOf s'.hp}/\At V {U with ln:=lenOf s'.hp} s' a:=by
 obtain⟨⟨h1,h2,h3,h4⟩,h5,h6⟩:=h
 let Z:Cf:={U with ln:=lenOf s'.hp}
 have hsub:=Vr k.h;have e:Evo U Z:=by
  refine⟨λ_ h=>⟨h,rfl⟩,λn _ l' hl'=>?_,λ_ _ h h'=>⟨h,h'⟩,rfl,fA _,SameO.refl _⟩;have hl2:lenOf s'.hp n=some l':=hl';refine⟨l',?_,fA _,λ_=>rfl⟩;rw[h1.ln n];unfold lenOf at hl2⊢;split at hl2
  ·rename_i sz live rows d hn;rw[hsub _ _ hn];exact hl2
  ·simp at hl2
 have hown:∀p b,Owns Z s'.hp p b->Owns U s.hp p b:=by
  rintro p b (⟨g1,g2,j,c,g3⟩|⟨g1,⟨sz,rows,d,g2⟩,o,cap,g3,g4⟩)
  ·exact .inl ⟨g1,g2,j,c,hsub _ _ g3⟩
  ·exact .inr ⟨g1,⟨sz,rows,d,hsub _ _ g2⟩,o,cap,g3,g4⟩
 refine⟨e,⟨⟨λ_=>rfl,λn j c hc=>?_,λn sz live rows d hc=>?_,λp q b hp hq=>h1.inj p q b (hown p b hp) (hown q b hq),h1.lt,h1.ou,h1.dis⟩,?_,h3,(h4.mono e).un (RT k.e _)⟩,λm hm=>s7 (h5 m hm) k.c,V.g h6 e λt _=>RT k.e t⟩
 ·have kk:=h1.cel n j c (hsub _ _ hc);exact kk.keep e kk.2.1 rfl
 ·exact(h1.arr n sz live rows d (hsub _ _ hc)).keep e rfl λ_ _ _ _ _ _ hM=>⟨hM,rfl⟩
 ·intro t;rcases RT k.e t with h|h
  ·rw[h];simp[Rep]
  ·rw[h];exact(h2 t).mono e
theorem At.le{U:Cf}{s s':St}{a:Act}(h:At V U s a)(k:Le s' s):∃σ',σ'.w=U.w/\Evo U σ'/\At V σ' s' a:=⟨{U with ln:=lenOf s'.hp},rfl,h.leM k⟩
theorem RU{c:AC}{Q:AE->St->Prop}{s s':St}(k:Le s' s)(h:As V c Q s'):As V c Q s:=by intro code hc U a hA;obtain⟨σ',h1,h2,h3⟩:=hA.le k;rw[<-h1];exact wpIn_mono (h code hc σ' a h3) λe a w k=>k.mono (V.ofE h2)
def BK{X:Type}(I:X->St)(Pre:X->Prop)(μ:X->Nat)(n:Nat)(Q:AE->St->Prop):AE->St->Prop
 |.n,s=>∃x,Pre x/\μ x<n/\Le (I x) s
 |e,s=>Q e s
theorem Y6{F:Fence}{n:Nat}{P:Program}{X:Type}{c:Code}{Q:Exit->Act->World->Prop}(I:X->Act->World->Prop)(μ:X->Nat){x:X}{a:Act}{w:World}(h₀:I x a w)(round:∀x a w,I x a w->c.wpIn F n P (Exit.then (λa' w'=>∃x',I x' a' w'/\μ x'<μ x) Q) a w):(Code.loop c).wpIn F n P Q a w:=by
 intro b k cs hro hb hr;have key:∀j x a w,μ x=j->I x a w->∃e a' w',Q e a' w'/\ArrivesIn (Machine.fenced P F) P (lone (b.atR a (.code c:: .inLoop c::k)) cs w) b k cs e a' w':=by
  intro j;induction j using Nat.strongRecOn with
  |_ j ih=>
   intro x a w hn hI;obtain⟨e,a₁,w₁,hq,harr⟩:=round x a w hI b (.inLoop c::k) cs hro hb hr;cases e with
   |normal=>obtain⟨x',hI₁,hlt⟩:=hq;obtain⟨e₂,a₂,w₂,hq₂,harr₂⟩:=ih (μ x') (hn▸hlt) x' a₁ w₁ rfl hI₁;exact⟨e₂,a₂,w₂,hq₂,.of_steps (StepsIn.trans harr (.one (fenced_calm hb hr rfl) stepR_inLoop)) harr₂⟩
   |exit id=>exact⟨_,a₁,w₁,hq,.pass (x:=.inLoop c) rfl (λ_ _=>.inl (by simp)) harr⟩
   |goto l=>exact⟨_,a₁,w₁,hq,.pass (x:=.inLoop c) rfl (λ_ _=>.inl (by simp)) harr⟩
   |ret=>exact⟨_,a₁,w₁,hq,.pass (x:=.inLoop c) rfl (λ_ _=>.inl (by simp)) harr⟩
   |panic ch=>exact⟨_,a₁,w₁,hq,.pass (x:=.inLoop c) rfl (λ_ _=>.inl (by simp)) harr⟩
   |outgrown=>exact⟨_,a₁,w₁,hq,.pass (x:=.inLoop c) rfl (λ_ _=>.inl (by simp)) harr⟩
 obtain⟨e,a',w',hq,harr⟩:=key _ x a w rfl h₀;exact⟨e,a',w',hq,.of_steps (.one (fenced_calm hb hr rfl) stepR_loop) harr⟩
theorem Is{X:Type}(I:X->St)(Pre:X->Prop)(μ:X->Nat)(x0:X){b:AC}{Q:AE->St->Prop}{s:St}(h0:Pre x0)(hs:Le (I x0) s)(body:∀x,Pre x->As V b (BK I Pre μ (μ x) Q) (I x)):As V (.loop b) Q s:=by
 intro code hc U a hA;cases code with
 |loop c=>
  simp only[cCode]at hc;cases hx:cCode V.P V.nt c with
  |none=>simp[hx]at hc
  |some x'=>
   simp[hx]at hc;subst hc;obtain⟨σ0,g1,g2,g3⟩:=hA.le hs;refine Y6 (λx a w=>∃σ',σ'.w=w/\V.R U σ'/\Pre x/\At V σ' (I x) a) μ (x:=x0) ⟨σ0,g1,V.ofE g2,h0,g3⟩ ?_;rintro x a w ⟨σ',rfl,k2,k3,k4⟩;refine wpIn_mono (body x k3 c hx σ' a k4) ?_;rintro e a' w' ⟨Z,s',e',rfl,h2,h3,h4,h5⟩;cases e with
   |normal=>simp[AE.of]at h4;subst h4;obtain⟨x',p1,p2,p3⟩:=h5;obtain⟨τ',q1,q2,q3⟩:=h3.le p3;exact⟨x',⟨τ',q1,V.tr (V.tr k2 h2) (V.ofE q2),p1,q3⟩,p2⟩
   |exit j=>simp[AE.of]at h4;subst h4;exact⟨Z,s',_,rfl,V.tr k2 h2,h3,rfl,h5⟩
   |ret=>simp[AE.of]at h4;subst h4;exact⟨Z,s',_,rfl,V.tr k2 h2,h3,rfl,h5⟩
   |goto l=>simp[AE.of]at h4
   |panic c=>obtain⟨v,rfl,rfl⟩:=AE.of_panic h4;exact⟨Z,s',_,rfl,V.tr k2 h2,h3,rfl,h5⟩
   |outgrown=>simp[AE.of]at h4
 |region id ops d=>simp only[cCode]at hc;obtain⟨_,_,⟨_,e⟩|⟨_,_,_,_,e⟩⟩:=Cz hc<;>cases e
 |seq x y=>simp only[cCode]at hc;split at hc<;>simp at hc
 |cond c x y=>simp only[cCode]at hc;split at hc<;>simp at hc
 |rangeFunc f ps x y=>simp only[cCode]at hc;split at hc<;>simp at hc
 |_=>simp[cCode]at hc
theorem Gp{P:Program}{nt:Nat}{ops:Array Oper}{o:Oper}{x:AOp}(h:KA P nt ops o=some x):∀d,x.d=some d->d<nt:=by
 unfold KA at h;split at h
 ·simp at h
 split at h
 ·rename_i hd;simp at h;subst h;intro d he;simp only at he;rw[he]at hd;simpa[bD]using hd
 ·simp at h
theorem G2{nt:Nat}{d:Option Nat}{x:AV}{env:Au}{t:Nat}(hd:∀k,d=some k->k<nt)(ht:nt<=t):lk (Ca d x env) t=lk env t:=by
 cases d with
 |none=>rfl
 |some k=>have:=hd k rfl;simp only[Ca,lk];rw[eW (by omega)]
theorem Ig(hΓ:V.OK){ops:Array Oper}{Q:AE->St->Prop}{cnt:Nat}(bs:Nat)(e0:Au)(σ0:Cf)(hG:V.G e0 σ0):∀(l:List Oper)(k:Nat)(aops:List AOp)(U:Cf)(env env':Au)(hp hp':Hp)(a:Act)(vc:Prop),(∀t,V.nt<=t->lk env t=lk e0 t)->(∀j,l[j]? =ops[k+j]?)->l.length+k=ops.size->G8 V.P V.nt ops l=some aops->Bm V.S (cnt+1) (bs+k) aops env hp=some (vc,env',hp')->vc->Evo σ0 U->Inv U env hp a V.nt V.hb->(∀m,U.al m->m.2<=cnt\/(m.2=cnt+1/\m.1<bs+k))->Q .n ⟨env',hp',cnt+1⟩->wpOpsIn V.F 0 V.P ops (lift V σ0 Q) (List.range' k l.length) a U.w
 |[],k,aops,U,env,env',hp,hp',a,vc,hgl,hl,hs,hc,hex,hvc,he,hI,hal,hQ=>by simp[G8]at hc;subst hc;simp only[Bm,yE,Wt]at hex;obtain⟨_,rfl,rfl⟩:=hex;simp only[CP,List.range'_zero,wpOpsIn];exact⟨U,_,_,rfl,V.ofE he,⟨hI,λm hm=>by rcases hal m hm with h|h<;>simp<;>omega,V.g hG he λt ht=>.inr (hgl t ht)⟩,rfl,hQ⟩
 |o::l,k,aops,U,env,env',hp,hp',a,vc,hgl,hl,hs,hc,hex,hvc,he,hI,hal,hQ=>by
  simp only[G8]at hc;split at hc
  ·rename_i x xs hx hxs;simp at hc;subst hc;simp only[Bm]at hex;split at hex
   ·simp at hex
   rename_i v1 r1 ws1 hex1;split at hex
   ·simp at hex
   rename_i v2 e2 h2 hex2;simp only[yE,Wt]at hex;obtain⟨rfl,rfl,rfl⟩:=hex;have ho:ops[k]? =some o:=by have:=hl 0;simpa using this.symm
   have hnm:¬U.al (bs+k,cnt+1):=by
    intro h;rcases hal _ h with h|h
    ·simp at h;omega
    ·simp at h
   have:=Ki hΓ.S hΓ.F (n:=0) (Q:=lift V σ0 Q) (K:=wpOpsIn V.F 0 V.P ops (lift V σ0 Q) (List.range' (k+1) l.length)) ho hx hI ⟨hnm,cnt+1,λm hm=>by rcases hal m hm with h|h<;>omega⟩ hex1 hvc.1 (λa' σ' e' hI' hal'=>by
    refine Ig hΓ bs e0 σ0 hG l (k+1) xs σ' _ _ _ _ a' v2 (λt ht=>(G2 (Gp hx) ht).trans (hgl t ht)) (λj=>?_) (by simp at hs⊢;omega) hxs hex2 hvc.2 (he.trans e') hI' (λm hm=>?_) hQ
    ·have:=hl (j+1);simpa[t6,P9 1 j]using this
    ·rcases hal' m hm with h|rfl
     ·rcases hal m h with h|h<;>omega
     ·right;simp)
   simp only[pC,L8];simp only[wpOpIn,ho]at this;simp only[wpOpsIn,ho];exact this
  ·simp at hc
theorem XH(hΓ:V.OK){rid:Nat}{ops:List AOp}{Q:AE->St->Prop}{s:St}{vc:Prop}{env:Au}{hp:Hp}(hex:Bm V.S (s.cnt+1) (100*rid) ops s.env s.hp=some (vc,env,hp))(hvc:vc)(hQ:Q .n ⟨env,hp,s.cnt+1⟩):As V (.reg rid ops) Q s:=by
 intro code hc U a hA;cases code with
 |region id ops' d=>
  simp only[cCode]at hc;obtain⟨l,hx,⟨rfl,e⟩|⟨_,_,_,_,e⟩⟩:=Cz hc
  ·cases e
   refine wpIn_region ?_;have:=Ig hΓ (ops:=ops') (Q:=Q) (cnt:=s.cnt) (100*rid) s.env U hA.2.2 ops'.toList 0 ops U _ _ _ _ a vc (λ_ _=>rfl) (λj=>by simp) (by simp) hx hex hvc (Evo.refl U) hA.1 (λm hm=>.inl (hA.2.1 m hm)) hQ;simpa[CY]using this
  ·cases e
 |seq x y=>simp only[cCode]at hc;split at hc<;>simp at hc
 |cond c x y=>simp only[cCode]at hc;split at hc<;>simp at hc
 |rangeFunc f ps x y=>simp only[cCode]at hc;split at hc<;>simp at hc
 |_=>simp[cCode]at hc
theorem Aa9(hΓ:V.OK){rid:Nat}{ops:List AOp}{Q:AE->St->Prop}{e e':Au}{h h':Hp}{c:Nat}{vc:Prop}(hex:Bm V.S (c+1) (100*rid) ops e h=some (vc,e',h'))(hvc:vc)(hQ:Q .n ⟨e',h',c+1⟩):As V (.reg rid ops) Q ⟨e,h,c⟩:=XH hΓ hex hvc hQ
theorem wQ(hΓ:V.OK){rid:Nat}{ops:List AOp}{b:AC}{Q:AE->St->Prop}{e e':Au}{h h':Hp}{c:Nat}{vc:Prop}(hex:Bm V.S (c+1) (100*rid) ops e h=some (vc,e',h'))(hvc:vc)(hQ:As V b Q ⟨e',h',c+1⟩):As V (.seq (.reg rid ops) b) Q ⟨e,h,c⟩:=Ez (XH hΓ hex hvc hQ)
theorem GD{b:AC}{Q:AE->St->Prop}{s:St}(hQ:As V b Q s):As V (.seq .nop b) Q s:=Ez (Fm hQ)
theorem Fe{b:AC}{Q:AE->St->Prop}{s:St}(h:As V b Q s):Cn V b Q .n s:=h
theorem GE{b:AC}{Q:AE->St->Prop}{s:St}(h:Q .r s):Cn V b Q .r s:=h
theorem GF{b:AC}{Q:AE->St->Prop}{s:St}{i:Nat}(h:Q (.x i) s):Cn V b Q (.x i) s:=h
theorem Gd{id:Nat}{Q:AE->St->Prop}{s:St}(h:Q .n s):B6 id Q .n s:=h
theorem GG{id:Nat}{Q:AE->St->Prop}{s:St}(h:Q .r s):B6 id Q .r s:=h
theorem F1{id:Nat}{Q:AE->St->Prop}{s:St}(h:Q .n s):B6 id Q (.x id) s:=by simpa[B6]using h
theorem GH{id i:Nat}{Q:AE->St->Prop}{s:St}(hi:(i==id)=false)(h:Q (.x i) s):B6 id Q (.x i) s:=by
 have:¬i=id:=by simpa using hi
 simpa[B6,this]using h
theorem FN{X:Type}{I:X->St}{Pre:X->Prop}{μ:X->Nat}{n i:Nat}{Q:AE->St->Prop}{s:St}(h:Q (.x i) s):BK I Pre μ n Q (.x i) s:=h
theorem FO{X:Type}{I:X->St}{Pre:X->Prop}{μ:X->Nat}{n:Nat}{Q:AE->St->Prop}{s:St}(h:Q .r s):BK I Pre μ n Q .r s:=h
theorem H4{X:Type}{I:X->St}{Pre:X->Prop}{μ:X->Nat}{n:Nat}{Q:AE->St->Prop}{s:St}(x:X)(h:Pre x)(hm:μ x<n)(hl:Le (I x) s):BK I Pre μ n Q .n s:=⟨x,h,hm,hl⟩
theorem Aba{b:Bool}{cc:Opd}{x y:AC}{Q:AE->St->Prop}{e:Au}{h:Hp}{c:Nat}(hb:Aw true (Av e cc)=.v (.bool b))(ht:b=true->As V x Q ⟨e,h,c⟩)(hf:b=false->As V y Q ⟨e,h,c⟩):As V (.cond cc x y) Q ⟨e,h,c⟩:=Mb hb ht hf
theorem wR{p:Prop}[Decidable p]{cc:Opd}{x y:AC}{Q:AE->St->Prop}{e:Au}{h:Hp}{c:Nat}(hb:Aw true (Av e cc)=.v (.bool (decide p)))(ht:p->As V x Q ⟨e,h,c⟩)(hf:¬p->As V y Q ⟨e,h,c⟩):As V (.cond cc x y) Q ⟨e,h,c⟩:=Mb hb (λh=>ht (of_decide_eq_true h)) (λh=>hf (of_decide_eq_false h))
theorem Lg{cc:Opd}{x y:AC}{Q:AE->St->Prop}{e:Au}{h:Hp}{c:Nat}(hb:Aw true (Av e cc)=.v (.bool true))(ht:As V x Q ⟨e,h,c⟩):As V (.cond cc x y) Q ⟨e,h,c⟩:=Mb hb (λ_=>ht) (λh=>by cases h)
theorem Nr{cc:Opd}{x y:AC}{Q:AE->St->Prop}{e:Au}{h:Hp}{c:Nat}(hb:Aw true (Av e cc)=.v (.bool false))(hf:As V y Q ⟨e,h,c⟩):As V (.cond cc x y) Q ⟨e,h,c⟩:=Mb hb (λh=>by cases h) (λ_=>hf)
end
structure Ev(U σ':Cf):Prop where
 box:∀n,U.al n->σ'.al n/\σ'.rb n=U.rb n
 arr:∀n,U.al n->∀l',σ'.ln n=some l'->∃l,U.ln n=some l/\l<=l'/\(l=l'->σ'.ra n=U.ra n)
 fz:∀b,Fz U b->Fz σ' b
 cell:∀b o x,Fz U b->U.w.cell? ⟨b,o,none⟩=some x->σ'.w.cell? ⟨b,o,none⟩=some x
theorem Evo.ev{U σ':Cf}(h:Evo U σ'):Ev U σ':=⟨h.box,h.arr,λ_ hb=>h.fz hb,λ_ _ _ hb hc=>h.cell hb.1 hc⟩
theorem Gl.ev{U σ':Cf}(h:Gl U)(e:Ev U σ'):Gl σ':=λb j hj=>⟨e.fz b (h b j hj).1,e.cell b _ _ (h b j hj).1 (h b j hj).2⟩
theorem Ev.refl(U:Cf):Ev U U:=(Evo.refl U).ev
theorem Ev.trans{a b c:Cf}(h:Ev a b)(k:Ev b c):Ev a c where
 box n hn:=⟨(k.box n (h.box n hn).1).1,((k.box n (h.box n hn).1).2).trans (h.box n hn).2⟩
 arr n hn l' hl':=by
  obtain⟨l,h1,h2,h3⟩:=k.arr n (h.box n hn).1 l' hl';obtain⟨m,g1,g2,g3⟩:=h.arr n hn l h1;refine⟨m,g1,s7 g2 h2,λe=>?_⟩;have e1:m=l:=by omega
  have e2:l=l':=by omega
  rw[h3 e2,g3 e1]
 fz b hb:=k.fz b (h.fz b hb)
 cell b o x hb hc:=k.cell b o x (h.fz b hb) (h.cell b o x hb hc)
mutual
theorem Rep.monoE{U σ':Cf}(h:Ev U σ'):∀(a:AV)(v:Value),Rep U a v->Rep σ' a v
 |.v x,v,hr=>by simpa[Rep]using hr
 |.sl sz full rows _,v,hr=>by
  simp only[Rep]at hr⊢;obtain⟨base,cap,h1,h2,h3,hp,h4⟩:=hr;refine⟨base,cap,h1,h2,h3,hp,?_⟩;rcases h4 with h4|⟨b,o,h5,h6,h7⟩
  ·exact .inl h4
  ·exact .inr ⟨b,o,h5,h.fz b h6,RepRows.monoE h sz b h6 rows o h7⟩
 |.ro cells off,v,hr=>by simp only[Rep]at hr⊢;obtain⟨b,o,h1,h2,hp,h3⟩:=hr;exact⟨b,o,h1,h.fz b h2,hp,RepCells.monoE h b h2 cells o h3⟩
 |.agg cs,v,hr=>by simp only[Rep]at hr⊢;obtain⟨xs,h1,h2,h3⟩:=hr;exact⟨xs,h1,h2,RepL.monoE h cs xs h3⟩
 |.tup cs,v,hr=>by simp only[Rep]at hr⊢;obtain⟨xs,h1,h3⟩:=hr;exact⟨xs,h1,RepL.monoE h cs xs h3⟩
 |.clo fn first caps,v,hr=>by simp only[Rep]at hr⊢;obtain⟨xs,ys,h1,h2,h3⟩:=hr;exact⟨xs,ys,h1,RepL.monoE h first xs h2,RepL.monoE h caps ys h3⟩
 |.box n off,v,hr=>by simp only[Rep]at hr⊢;obtain⟨h1,h2⟩:=h.box n hr.1;exact⟨h1,by rw[h2];exact hr.2⟩
 |.own n len,v,hr=>by
  simp only[Rep]at hr⊢;refine⟨(h.box n hr.1).1,hr.2.1,λl' hl'=>?_⟩;obtain⟨l,g1,g2,g3⟩:=h.arr n hr.1 l' hl';obtain⟨k1,k2⟩:=hr.2.2 l g1;refine⟨by omega,λe=>?_⟩;have e1:l=l':=by omega
  rw[g3 e1];exact k2 (by omega)
 |.elem n len sz i off,v,hr=>by
  simp only[Rep]at hr⊢;refine⟨(h.box n hr.1).1,hr.2.1,λl' hl'=>?_⟩;obtain⟨l,g1,g2,g3⟩:=h.arr n hr.1 l' hl';obtain⟨k1,k2⟩:=hr.2.2 l g1;refine⟨by omega,λe=>?_⟩;have e1:l=l':=by omega
  rw[g3 e1];exact k2 (by omega)
 |.gd b x,v,hr=>by simp only[Rep]at hr⊢;exact⟨λhb=>Rep.monoE h x v (hr.1 hb),hr.2⟩
 |.mp n,v,hr=>by simp only[Rep]at hr⊢;obtain⟨h1,h2⟩:=h.box n hr.1;exact⟨h1,by rw[h2];exact hr.2⟩
 |.un,_,_=>by simp[Rep]
theorem RepCells.monoE{U σ':Cf}(h:Ev U σ')(b:Nat)(hM:Fz U b):∀(cs:List AV)(o:Nat),RepCells U b o cs->RepCells σ' b o cs
 |[],_,_=>by simp[RepCells]
 |c::cs,o,hr=>by simp only[RepCells]at hr⊢;obtain⟨⟨x,h1,h2,h3⟩,h4⟩:=hr;exact⟨⟨x,h.cell b _ _ hM h1,h2,Rep.monoE h c x h3⟩,RepCells.monoE h b hM cs (o+1) h4⟩
theorem RepRows.monoE{U σ':Cf}(h:Ev U σ')(sz b:Nat)(hM:Fz U b):∀(rs:List (List AV))(o:Nat),RepRows U sz b o rs->RepRows σ' sz b o rs
 |[],_,_=>by simp[RepRows]
 |r::rs,o,hr=>by simp only[RepRows]at hr⊢;exact⟨hr.1,RepCells.monoE h b hM r o hr.2.1,RepRows.monoE h sz b hM rs (o+sz) hr.2.2⟩
theorem RepL.monoE{U σ':Cf}(h:Ev U σ'):∀(cs:List AV)(xs:List Value),RepL U cs xs->RepL σ' cs xs
 |[],xs,hr=>by simpa[RepL]using hr
 |c::cs,xs,hr=>by simp only[RepL]at hr⊢;obtain⟨y,ys,h1,h2,h3⟩:=hr;exact⟨y,ys,h1,Rep.monoE h c y h2,RepL.monoE h cs ys h3⟩
end
theorem RepCells.keepE{U σ':Cf}(h:Ev U σ'){b o:Nat}{cs:List AV}(hc:RepCells U b o cs)(hm:∀j x,j<cs.length->U.w.cell? ⟨b,o+j,none⟩=some x->σ'.w.cell? ⟨b,o+j,none⟩=some x):RepCells σ' b o cs:=Fw λj c hj=>by obtain⟨x,h1,h2,h3⟩:=G6 hc j c hj;exact⟨x,hm j x (i5.1 hj).1 h1,h2,h3.monoE h⟩
theorem RepRows.keepE{U σ':Cf}(h:Ev U σ'){sz b o:Nat}{rs:List (List AV)}(hc:RepRows U sz b o rs)(hm:∀j x,j<rs.length*sz->U.w.cell? ⟨b,o+j,none⟩=some x->σ'.w.cell? ⟨b,o+j,none⟩=some x):RepRows σ' sz b o rs:=
 Im λi r hi=>by
  obtain⟨h1,h2⟩:=Ga hc i r hi;refine⟨h1,h2.keepE h λj x hj hx=>?_⟩;have hi':=(i5.1 hi).1;have hlt:i*sz+j<rs.length*sz:=by have:(i+1)*sz<=rs.length*sz:=Q0 _ (by omega);rw[OB]at this;omega
  have:=hm (i*sz+j) x hlt (by rwa [<-t6])
  rwa [<-t6]at this
theorem CelF.keepE{U σ':Cf}(h:Ev U σ'){n:Nm}{j:Nat}{c:AV}(k:CelF U n j c)(hM:σ'.M (U.rb n))(hw:σ'.w.heap[U.rb n]? =U.w.heap[U.rb n]?):CelF σ' n j c:=by
 obtain⟨h1,h2,h3⟩:=k;obtain⟨g1,g2⟩:=h.box n h1;refine⟨g1,by rw[g2];exact hM,?_⟩;rcases h3 with⟨cs,T,x,h3,h4,h5,h6⟩|⟨rows,es,h3,h4,h5,h6,h7⟩
 ·exact .inl ⟨cs,T,x,by rw[g2,hw];exact h3,h4,h5,h6.monoE h⟩
 ·exact .inr ⟨rows,es,h3,by rw[g2,hw];exact h4,h5,h6.map λr vs=>RepL.monoE h r vs,h7⟩
theorem ArrF.keepE{U σ':Cf}(h:Ev U σ'){n:Nm}{sz:Nat}{live:Bool}{rows:List (List AV)}(k:ArrF U n sz live rows)(hra:σ'.ra n=U.ra n)(hM:live=true->∀b o cap,U.ra n=(some ⟨b,o,none⟩,cap)->0<cap->U.M b->σ'.M b/\σ'.w.heap[b]? =U.w.heap[b]?):ArrF σ' n sz live rows:=by
 obtain⟨h1,h2,hp,h3⟩:=k;refine⟨(h.box n h1).1,h2,hp,?_⟩;rcases h3 with⟨a,h3,h4⟩|⟨b,o,cap,h3,h4,h5,h6,h7,h8⟩
 ·exact .inl ⟨a,by rw[hra];exact h3,h4⟩
 ·refine .inr ⟨b,o,cap,by rw[hra];exact h3,h4,h5,?_,?_,λe=>h.fz _ (h8 e)⟩
  ·cases live with
   |true=>obtain⟨g1,_⟩:=h7 rfl;exact h6.keepE h λj x _ hx=>by rw[cell_of_heap (hM rfl b o cap h3 h4 g1).2];exact hx
   |false=>exact h6.monoE h _ _ (h8 rfl)
  ·intro e;obtain⟨g1,cs,T,g2,g3⟩:=h7 e;obtain⟨k1,k2⟩:=hM e b o cap h3 h4 g1;exact⟨k1,cs,T,by rw[k2];exact g2,g3⟩
structure Oth(U σ':Cf):Prop where
 rb:σ'.rb=U.rb
 ra:σ'.ra=U.ra
 ln:σ'.ln=U.ln
 al:σ'.al=U.al
 M:σ'.M=U.M
 ou:∀b,σ'.O b->b<σ'.w.heap.size/\¬U.M b/\¬Fz U b
 sz:U.w.heap.size<=σ'.w.heap.size
 mem:∀b,U.M b->σ'.w.heap[b]? =U.w.heap[b]?
 fro:∀b o x,Fz U b->U.w.cell? ⟨b,o,none⟩=some x->σ'.w.cell? ⟨b,o,none⟩=some x
 io:SameO U.w σ'.w
theorem Oth.ev{U σ':Cf}(h:Oth U σ'):Ev U σ' where
 box n hn:=by rw[h.al,h.rb];exact⟨hn,rfl⟩
 arr n hn l hl':=by rw[h.ln]at hl';rw[h.ra];exact⟨l,hl',fA _,λ_=>rfl⟩
 fz b hb:=⟨by rw[h.M];exact hb.1,λhO=>(h.ou b hO).2.2 hb,u9 hb.2.2 h.sz⟩
 cell:=h.fro
theorem HInv.oth{U σ':Cf}{hp:Hp}(h:HInv U hp)(k:Oth U σ'):HInv σ' hp where
 ln n:=by rw[k.ln];exact h.ln n
 cel n j c hc:=by have kk:=h.cel n j c hc;exact kk.keepE k.ev (by rw[k.M];exact kk.2.1) (k.mem _ kk.2.1)
 arr n sz live rows d hc:=(h.arr n sz live rows d hc).keepE k.ev (by rw[k.ra]) λ_ b _ _ _ _ hM=>⟨by rw[k.M];exact hM,k.mem b hM⟩
 inj p q b hp hq:=h.inj p q b (by simpa only[Owns,k.rb,k.ra]using hp) (by simpa only[Owns,k.rb,k.ra]using hq)
 lt b hb:=by rw[k.M]at hb;exact u9 (h.lt b hb) k.sz
 ou b hb:=(k.ou b hb).1
 dis b hb hO:=(k.ou b hO).2.1 (by rw[k.M]at hb;exact hb)
theorem TInv.ev{U σ':Cf}{env:Au}{a:Act}(h:TInv U env a)(k:Ev U σ'):TInv σ' env a:=λt=>(h t).monoE k
inductive RV where
 |t (n:Nat)
 |c (n sz:Nat) (ag:Bool)
 deriving Inhabited
def wS(P:Program):ResultVar->Option RV|.tmp t=>some (.t t)|.cell a t=>match P.underlying t,P.info? t with|some d,some i=>some (.c a i.size (B8 d))|_,_=>none
def cRes(P:Program):List ResultVar->Option (List RV)|[]=>some []|r::rs=>match wS P r,cRes P rs with|some x,some xs=>some (x::xs)|_,_=>none
def Y7(env:Au)(hp:Hp):RV->Option (Prop×AV)|.t n=>some (True,Aw true (lk env n))|.c n sz ag=>match Jw hp sz ag (Aw true (lk env n))with|some (vc,r,_)=>some (vc,r)|none=>none
def Gq(env:Au)(hp:Hp):List RV->Option (Prop×List AV)|[]=>some (True,[])|r::rs=>match Y7 env hp r,Gq env hp rs with|some (v,x),some (vs,xs)=>some (v/\vs,x::xs)|_,_=>none
def one:List AV->AV|[x]=>x|xs=>.tup xs
mutual
def wk:AV->AV->Prop|.sl z f rows _,.sl z' f' rows' _=>rows=rows'/\(z=z'\/rows=[])/\(f'=true->f=true)|.agg a,.agg b=>Ih a b|.tup a,.tup b=>Ih a b|x,y=>x=y
def Ih:List AV->List AV->Prop|[],[]=>True|x::xs,y::ys=>wk x y/\Ih xs ys|_,_=>False
end
mutual
theorem IY{U:Cf}:∀(x y:AV)(v:Value),wk x y->Rep U x v->Rep U y v
 |.sl z f rows d,y,v,h,hr=>by
  cases y with
  |sl z' f' rows' d'=>
   simp only[wk]at h;obtain⟨rfl,h2,h3⟩:=h;simp only[Rep]at hr⊢;obtain⟨base,cap,e1,e2,e3,e4,e5⟩:=hr;refine⟨base,cap,e1,e2,λe=>e3 (h3 e),e4,?_⟩;rcases e5 with e5|e5
   ·exact .inl e5
   ·rcases h2 with rfl|h2
    ·exact .inr e5
    ·exact .inl h2
  |_=>simp only[wk]at h;cases h
 |.agg a,y,v,h,hr=>by
  cases y with
  |agg b=>simp only[wk]at h;simp only[Rep]at hr⊢;obtain⟨xs,e1,e2,e3⟩:=hr;exact⟨xs,e1,e2,MR a b xs h e3⟩
  |_=>simp only[wk]at h;cases h
 |.tup a,y,v,h,hr=>by
  cases y with
  |tup b=>simp only[wk]at h;simp only[Rep]at hr⊢;obtain⟨xs,e1,e3⟩:=hr;exact⟨xs,e1,MR a b xs h e3⟩
  |_=>simp only[wk]at h;cases h
 |.v x,y,v,h,hr=>by simp only[wk]at h;rw[<-h];exact hr
 |.ro _ _,y,v,h,hr=>by simp only[wk]at h;rw[<-h];exact hr
 |.clo _ _ _,y,v,h,hr=>by simp only[wk]at h;rw[<-h];exact hr
 |.box _ _,y,v,h,hr=>by simp only[wk]at h;rw[<-h];exact hr
 |.own _ _,y,v,h,hr=>by simp only[wk]at h;rw[<-h];exact hr
 |.elem _ _ _ _ _,y,v,h,hr=>by simp only[wk]at h;rw[<-h];exact hr
 |.gd _ _,y,v,h,hr=>by simp only[wk]at h;rw[<-h];exact hr
 |.mp _,y,v,h,hr=>by simp only[wk]at h;rw[<-h];exact hr
 |.un,y,v,h,hr=>by simp only[wk]at h;rw[<-h];exact hr
theorem MR{U:Cf}:∀(xs ys:List AV)(vs:List Value),Ih xs ys->RepL U xs vs->RepL U ys vs
 |[],[],vs,_,h=>h
 |x::xs,y::ys,vs,h,hr=>by simp only[Ih]at h;simp only[RepL]at hr⊢;obtain⟨u,us,e1,e2,e3⟩:=hr;exact⟨u,us,e1,IY x y u h.1 e2,MR xs ys us h.2 e3⟩
 |[],_::_,vs,h,_=>by simp[Ih]at h
 |_::_,[],vs,h,_=>by simp[Ih]at h
end
def Hv(rvs:List RV)(r:AV)(s:St):Prop:=∃vc xs,Gq s.env s.hp rvs=some (vc,xs)/\vc/\Hj s.hp (one xs)/\wk (res s.hp (one xs)) r/\Cw r=true
def CA(rvs:List RV)(r:AV):AE->St->Prop|.n,s=>Hv rvs r s|.r,s=>Hv rvs r s|.x _,_=>False|.p _,_=>False
theorem Mc{rvs:List RV}{r:AV}{e:Au}{h:Hp}{c:Nat}{vc:Prop}{xs:List AV}(h1:Gq e h rvs=some (vc,xs))(h2:vc)(h3:Hj h (one xs))(h4:wk (res h (one xs)) r)(h5:Cw r=true):CA rvs r .r ⟨e,h,c⟩:=⟨vc,xs,h1,h2,h3,h4,h5⟩
theorem Md{rvs:List RV}{r:AV}{e:Au}{h:Hp}{c:Nat}{vc:Prop}{xs:List AV}(h1:Gq e h rvs=some (vc,xs))(h2:vc)(h3:Hj h (one xs))(h4:wk (res h (one xs)) r)(h5:Cw r=true):CA rvs r .n ⟨e,h,c⟩:=⟨vc,xs,h1,h2,h3,h4,h5⟩
section
variable{P:Program}
def TF(tmps:Array Value):ResultVar->Sem Value
 |.tmp t=>pure (tmps.getD t undef)
 |.cell k t=>do loadVar t (<-asAddr (tmps.getD k undef))
theorem kK{tmps:Array Value}{k:Nat}{t:TypeId}{ad:Addr}{u:Value}{w:World}(h1:tmps.getD k undef=.pointer (some ad))(h2:(loadVar t ad).run P w=.ok u w):(TF tmps (.cell k t)).run P w=.ok u w:=by simp only[TF,Sem.run_bind,h1,asAddr,Sem.run_pure,Result.andThen,h2]
theorem HO{U:Cf}{s:St}{a:Act}{nt:Nat}{hb:HB}(hI:Inv U s.env s.hp a nt hb):∀{rs:List ResultVar}{rvs:List RV}{vc:Prop}{xs:List AV},cRes P rs=some rvs->Gq s.env s.hp rvs=some (vc,xs)->vc->∃vs,(rs.mapM (TF a.tmps)).run P U.w=.ok vs U.w/\RepL U xs vs
 |[],rvs,vc,xs,hc,hex,hvc=>by simp[cRes]at hc;subst hc;simp[Gq]at hex;obtain⟨_,rfl⟩:=hex;exact⟨[],by simp,by simp[RepL]⟩
 |r::rs,rvs,vc,xs,hc,hex,hvc=>by
  simp only[cRes]at hc;split at hc
  ·rename_i rv rvs' h1 h2;simp at hc;subst hc;simp only[Gq]at hex;split at hex
   ·rename_i v1 x1 v2 xs2 g1 g2;simp only[yE,Wt]at hex;obtain⟨rfl,rfl⟩:=hex;obtain⟨vs,k1,k2⟩:=HO hI h2 g2 hvc.2;cases r with
    |tmp t=>simp[wS]at h1;subst h1;simp only[Y7,yE,Wt]at g1;obtain⟨_,rfl⟩:=g1;refine⟨a.tmps.getD t undef::vs,?_,_,_,rfl,JX rfl (hI.t t),k2⟩;rw[List.mapM_cons];simp only[Sem.run_bind,Sem.run_pure,Result.andThen,k1,TF]
    |cell k t=>
     simp only[wS]at h1;split at h1
     ·rename_i d i hd hi;simp at h1;subst h1;simp only[Y7]at g1;split at g1
      ·rename_i vc' r' ws' hex';simp only[yE,Wt]at g1;obtain⟨rfl,rfl⟩:=g1;obtain⟨_,b,kk,u,e1,e2,e3⟩:=aM (P:=P) hI.df.gl hI.h hd hi (JX rfl (hI.t k)) hex' hvc.1;refine⟨u::vs,?_,_,_,rfl,e3,k2⟩;rw[List.mapM_cons];simp only[Sem.run_bind,Sem.run_pure,Result.andThen,k1,kK e1 e2]
      ·simp at g1
     ·simp at h1
   ·simp at hex
  ·simp at hc
theorem HP{fn:Func}{tmps:Array Value}{w:World}{vs:List Value}(h:(fn.results.toList.mapM (TF tmps)).run P w=.ok vs w):(results fn tmps).run P w=.ok (if h:vs.toArray.size=1 then vs.toArray[0]else .tuple vs.toArray) w:=by
 have hm:fn.results.mapM (TF tmps)=List.toArray<$>fn.results.toList.mapM (TF tmps):=by rw[Array.mapM_eq_mapM_toList]
 show(do let vs<-fn.results.mapM (TF tmps);pure (if h:vs.size=1 then vs[0]else .tuple vs):Sem Value).run P w=_;rw[hm];simp only[Sem.run_bind,Sem.run_map,h,Result.andThen,Sem.run_pure]
def CK:Nat->List AV->Au|_,[]=>[]|k,x::xs=>(k,x)::CK (k+1) xs
theorem HQ:∀(xs:List AV)(k t:Nat),lk (CK k xs) t=if k<=t/\t<k+xs.length then xs.getD (t-k) .un else .un
 |[],k,t=>by simp[CK,lk]
 |x::xs,k,t=>by
  simp only[CK,lk];by_cases h:k=t
  ·subst h;simp
  ·rw[eW h,HQ xs (k+1) t];by_cases h2:k+1<=t/\t<k+1+xs.length
   ·rw[eX h2,eX (by simp;omega),show t-k=(t-(k+1))+1 from by omega];simp
   ·rw[eW h2,eW (by simp;omega)]
theorem Oth.refl{U:Cf}(h:∀b,U.O b->b<U.w.heap.size/\¬U.M b):Oth U U:=⟨rfl,rfl,rfl,rfl,rfl,λb hb=>⟨(h b hb).1,(h b hb).2,λhf=>hf.2.1 hb⟩,fA _,λ_ _=>rfl,λ_ _ _ _ h=>h,SameO.refl _⟩
theorem Oth.trans{a b c:Cf}(h:Oth a b)(k:Oth b c):Oth a c where
 rb:=k.rb.trans h.rb
 ra:=k.ra.trans h.ra
 ln:=k.ln.trans h.ln
 al:=k.al.trans h.al
 M:=k.M.trans h.M
 ou x hx:=⟨(k.ou x hx).1,by have:=(k.ou x hx).2.1;rw[h.M]at this;exact this,λhf=>(k.ou x hx).2.2 (h.ev.fz x hf)⟩
 sz:=s7 h.sz k.sz
 mem x hx:=(k.mem x (by rw[h.M];exact hx)).trans (h.mem x hx)
 fro x o y hf hc:=k.fro x o y (h.ev.fz x hf) (h.fro x o y hf hc)
 io:=h.io.trans k.io
theorem N4{F:Fence}{n hb:Nat}{dd:List Deferred}{u:FrameMode}(hu:u≠.run){fn:Func}{tmps:Array Value}{R:Ending->World->Prop}:∀(ds:List Deferred)(U:Cf),(∀b,U.O b->b<U.w.heap.size/\¬U.M b)->DOK (hb,false) U .un ds->(∀Z,Oth U Z->Z.O=U.O->(∀(b:Nat)(o:Obj),b<hb\/U.O b->U.w.heap[b]? =some o->Z.w.heap[b]? =some o)->LeavesInM F n P fn tmps R dd u Z.w)->LeavesInM F n P fn tmps R (ds++dd) u U.w
 |[],U,hO,_,h=>h U (Oth.refl hO) rfl λ_ _ _ h=>h
 |d::ds,U,hO,hd,h=>by
  obtain⟨r,h1,h2,h3,h4,h5⟩:=hd.all rfl d (by simp);have hnd:=hd.nd rfl;rw[yI]at hnd
  let Z:Cf:={U with w:=U.w.putObj r (.deferred none)}
  have hsz:Z.w.heap.size=U.w.heap.size:=World.putObj_size;have k:Oth U Z:=
   {rb:=rfl,ra:=rfl,ln:=rfl,al:=rfl,M:=rfl
    ou:=λb hb=>⟨by rw[hsz];exact(hO b hb).1,(hO b hb).2,λhf=>hf.2.1 hb⟩
    sz:=by rw[hsz];exact fA _
    mem:=λb hb=>World.putObj_heap_other (by rintro rfl;exact h4 hb)
    fro:=λb o x _ hc=>by
     by_cases e:b=r
     ·subst e;simp[World.cell?,h3]at hc
     ·simp only[World.cell?,show Z.w.heap[b]? =U.w.heap[b]? from World.putObj_heap_other e];exact hc
    io:=⟨rfl,rfl⟩}
  refine⟨hu,.inl ⟨r,Z.w,by rw[h1],run_takeDeferred h3,?_⟩⟩;refine N4 hu ds Z (λb hb=>by rw[hsz];exact hO b hb) (DOK.of rfl (λd' hd'=>?_) hnd.2 (by rw[hsz];exact hd.le) (hd.gl.ev k.ev)) λW k2 hO2 k3=>h W (k.trans k2) hO2 λb o hb hc=>k3 b o hb ?_
  ·obtain⟨r',g1,g2,g3,g4,g5⟩:=hd.all rfl d' (by simp[hd']);have hne:r'≠r:=by rintro rfl;exact hnd.1 d' hd' (by rw[h1,g1])
   exact⟨r',g1,g2,(World.putObj_heap_other hne).trans g3,g4,g5⟩
  ·refine(World.putObj_heap_other ?_).trans hc;rcases hb with hb|hb
   ·simp only at h2;omega
   ·rintro rfl;exact h5 hb
theorem H5{F:Fence}{n hb:Nat}{fn:Func}{tmps:Array Value}{R:Ending->World->Prop}(ds:List Deferred)(U:Cf)(hO:∀b,U.O b->b<U.w.heap.size/\¬U.M b)(hd:DOK (hb,false) U .un ds)(h:∀Z,Oth U Z->Z.O=U.O->(∀(b:Nat) (o:Obj),b<hb\/U.O b->U.w.heap[b]? =some o->Z.w.heap[b]? =some o)->∃v,(results fn tmps).run P Z.w=.ok v Z.w/\R (.returned v) Z.w):LeavesInM F n P fn tmps R ds .returning U.w:=by
 have:=N4 (dd:=[]) (u:=.returning) (F:=F) (n:=n) (P:=P) (fn:=fn) (tmps:=tmps) (R:=R) (by simp) ds U hO hd λZ a b c=>h Z a b c
 rwa [qF]at this
def Cf.fresh(U:Cf):Cf:={rb:=λ_=>0,ra:=λ_=>(none,0),M:=λ_=>False,O:=λb=>U.M b\/U.O b,ln:=λ_=>none,al:=λ_=>False,w:=U.w}
theorem kL{S:Tab}(hS:TabOK P S){f:Nat}{fn:Func}{code:Code}{c:AC}{rvs:List RV}{args:List AV}{r:AV}(hf:P.funcs[f]? =some fn)(hb:fn.body=some code)(hc:cCode P fn.ntmps code=some c)(hr:cRes P fn.results.toList=some rvs)(hn:args.length<=fn.ntmps)(h:∀hb,As (Ctx.fn P S fn.ntmps hb) c (CA rvs r) ⟨CK 0 args,[],0⟩):PCall P f args r:=by
 intro U vs hgl hlt hp hx;have hlen:=BD hx
 let Z:=U.fresh
 have hgt:Gl Z:=λb j hj=>⟨⟨λh=>h,by rintro(h|h);exact(hgl b j hj).1.1 h;exact(hgl b j hj).1.2.1 h,(hgl b j hj).1.2.2⟩,(hgl b j hj).2⟩
 have hx':RepL Z args vs:=RepL.ofPure (U:=U) (σ':=Z) (λb hb=>⟨λh=>h,by rintro(h|h);exact hb.1 h;exact hb.2.1 h,hb.2.2⟩) (λ_ _=>rfl) args vs hp hx;have hI:Inv Z (CK 0 args) [] {tmps:=vs.toArray++Array.replicate (fn.ntmps-vs.toArray.size) undef,defers:=[]} fn.ntmps (U.w.heap.size,false):=by
  refine⟨⟨λn=>rfl,λn j c h=>by simp[hl]at h,λn sz live rows d h=>by simp[hl]at h,?_,λb h=>h.elim,hlt,λb h=>h.elim⟩,λt=>?_,by simp;omega,DOK.nil (fA _) hgt⟩
  ·rintro p q b (⟨_,_,j,c,h⟩|⟨_,⟨_,_,_,h⟩,_⟩) _<;>simp[hl]at h
  ·rw[HQ];split
   ·rename_i ht;simp only[t7,s6,true_and]at ht;have hg:args[t]? =some args[t]:=eV ht;obtain⟨x,g1,g2⟩:=Ep hx' t _ hg;have e1:args.getD (t-0) .un=args[t]:=by simp[ht]
    have hlt':t<vs.length:=by omega
    have e2:(vs.toArray++Array.replicate (fn.ntmps-vs.toArray.size) undef).getD t undef=x:=by rw[eV hlt']at g1;simp at g1;simp[C9,z7,hlt',g1]
    rw[e1,e2];exact g2
   ·simp[Rep]
 have hw:=h U.w.heap.size code hc Z _ ⟨hI,λm hm=>hm.elim,trivial⟩;refine callsIn_wide.1 (callsIn_of_wp_marks (n:=0) hf hb trivial (wpIn_mono hw ?_));rintro e a' w' ⟨σ',s',e',rfl,h2,h3,h4,h5⟩;have h2:Evo Z σ':=h2;have key:∀(s':St),At (Ctx.fn P S fn.ntmps U.w.heap.size) σ' s' a'->Hv rvs r s'->LeavesInM Fence.wide 0 P fn a'.tmps (λe w'=>∃v',e=.returned v'/\(∀(b:Nat)(o:Obj),U.w.heap[b]? =some o->w'.heap[b]? =some o)/\SameO U.w w'/\Cw r=true/\Rep (U.at w') r v') a'.defers .returning σ'.w:=by
  rintro s' hA ⟨vc,xs,g1,g2,g3,g4,g5⟩;refine H5 a'.defers σ' (λb hb=>⟨hA.1.h.ou b hb,λhM=>hA.1.h.dis b hM hb⟩) (DOK.of' hA.1.df) λρ0 ko kO kb=>?_
  have hI':Inv ρ0 s'.env s'.hp {a' with defers:=[]} fn.ntmps (U.w.heap.size,false):=⟨hA.1.h.oth ko,hA.1.t.ev ko.ev,hA.1.sz,DOK.nil (s7 hA.1.df.le ko.sz) (hA.1.df.gl.ev ko.ev)⟩
  obtain⟨us,k1,k2⟩:=HO hI' hr g1 g2;refine⟨_,HP k1,_,rfl,λb o hb=>kb b o (.inl (eY.1 hb).1) (h2.fro b o hb (λh=>h)).1,h2.io.trans ko.io,g5,?_⟩;have hone:Rep ρ0 (one xs) (if h:us.toArray.size=1 then us.toArray[0]else .tuple us.toArray):=by
   have hl':=BD k2;unfold one;split
   ·rename_i x;simp only[RepL]at k2;obtain⟨y,ys,rfl,e2,rfl⟩:=k2;simpa using e2
   ·rename_i hno;have hne:us.toArray.size≠1:=by
     intro h1;simp at h1;rw[h1]at hl';cases xs with
     |nil=>simp at hl'
     |cons x xs=>cases xs with
      |nil=>exact hno x rfl
      |cons _ _=>simp at hl'
    rw[dif_neg hne];simp only[Rep];exact⟨us,rfl,k2⟩
  let W:Cf:={ρ0 with M:=λ_=>False}
  have e:Evo ρ0 W:=⟨λ_ h=>⟨h,rfl⟩,λ_ _ l h=>⟨l,h,fA _,λ_=>rfl⟩,λ_ _ h _=>⟨h,λh=>h⟩,rfl,fA _,SameO.refl _⟩
  have h6:=ML (Z:=W) hI'.h e rfl (λ_ h=>h) _ _ g3 hone;have h7:=IY _ _ _ g4 h6;refine Rep.ofPure (U:=W) (σ':=U.at ρ0.w) (λb hb=>?_) (λ_ _=>rfl) r _ g5 h7;have hO:W.O=Z.O:=kO.trans h2.out;have hb1:=hb.2.1;rw[hO]at hb1;exact⟨λh=>hb1 (.inl h),λh=>hb1 (.inr h),hb.2.2⟩
 cases e with
 |normal=>simp[AE.of]at h4;subst h4;exact key s' h3 h5
 |ret=>simp[AE.of]at h4;subst h4;exact key s' h3 h5
 |exit i=>simp[AE.of]at h4;subst h4;exact h5.elim
 |goto l=>simp[AE.of]at h4
 |panic c=>obtain⟨v,rfl,rfl⟩:=AE.of_panic h4;exact h5.elim
 |outgrown=>simp[AE.of]at h4
def E0(P:Program)(fn:Func):Option (AC×List RV):=match fn.body with
 |some b=>match cCode P fn.ntmps b,cRes P fn.results.toList with|some c,some r=>some (c,r)|_,_=>none
 |none=>none
theorem N5{S:Tab}(hS:TabOK P S){f:Nat}{fn:Func}{c:AC}{rvs:List RV}{args:List AV}{r:AV}(nt:Nat)(hf:P.funcs[f]? =some fn)(hc:E0 P fn=some (c,rvs))(hnt:fn.ntmps=nt)(hn:args.length<=nt)(h:∀hb,As (Ctx.fn P S nt hb) c (CA rvs r) ⟨CK 0 args,[],0⟩):PCall P f args r:=by
 subst hnt;unfold E0 at hc;split at hc
 ·rename_i b hb;split at hc
  ·rename_i c' r' h1 h2;simp at hc;obtain⟨rfl,rfl⟩:=hc;exact kL hS hf hb h1 h2 hn h
  ·simp at hc
 ·simp at hc
end
inductive Tch where
 |l (x:Loc)
 |b (n:Nm)
 deriving Inhabited
def bH:Tch->Loc->Prop|.l x,y=>x=y|.b n,y=>∃j,y=.c n j
def IZ(n:Nm):Nat->Nat->List Tch|_,0=>[]|o,k+1=>.l (.c n o)::IZ n (o+1) k
def QP:AV->List Tch|.own m _=>[.l (.a m)]|.mp m=>[.l (.c m 0)]|_=>[]
mutual
def Ge(hp:Hp):AV->List Tch|.own n _=>[.l (.a n)]|.elem n _ _ _ _=>[.l (.a n)]|.box n _=>.b n::(CU hp n 0 40).flatMap QP|.agg cs=>HX hp cs|.tup cs=>HX hp cs|.clo _ xs ys=>HX hp xs++HX hp ys|_=>[]
def HX(hp:Hp):List AV->List Tch|[]=>[]|c::cs=>Ge hp c++HX hp cs
end
def Y8(sz:Nat):AV->List Tch|.box n o=>IZ n o sz|.elem n _ _ _ _=>[.l (.a n)]|_=>[]
def Y9(hp:Hp)(sz:Nat)(a x:AV):List Tch:=match a with|.box n o=>IZ n o sz|.elem n _ _ _ _=>[.l (.a n)]++(match x.cells with|some cs=>HX hp cs|none=>[])|_=>[]
def Vs:AV->List Tch|.mp n=>[.l (.c n 0)]|_=>[]
def Ed(env:Au)(hp:Hp)(g:Bool):AK->List Tch|.ld sz _ x=>Y8 sz (Aw g (Av env x))|.st sz a x=>Y9 hp sz (Aw g (Av env a)) (Aw g (Av env x))|.ia _ x _=>Ge hp (Aw g (Av env x))|.len x=>Ge hp (Aw g (Av env x))|.b2s x=>Ge hp (Aw g (Av env x))|.app _ _ _ s x=>Ge hp (Aw g (Av env s))++Ge hp (Aw g (Av env x))|.slc _ x _ _ _=>Ge hp (Aw g (Av env x))|.cap _|.appn _ _ _ _ _=>[]|.mkm|.rng _|.nxt _|.mks _ _ _ _ _|.ent _=>[]|.mlk _ _ m _=>Vs (Aw g (Av env m))|.mup m _ x=>Vs (Aw g (Av env m))++Ge hp (Aw g (Av env x))|.bsl _ _ _ ps=>HX hp ((ps.map λ(i,x)=>(i,Aw g (Av env x))).map (·.2))|.call _ as=>HX hp (as.map λx=>Aw g (Av env x))|.cv x as=>Ge hp (Aw g (Av env x))++HX hp (as.map λx=>Aw g (Av env x))|.allocB _|.pan _|.dfr _|.rcv|.pr _ _|.mv _|.pick _ _ _|.box _ _|.alloc _|.build _ _|.fa _ _|.fld _ _ _ _|.iaA _ _ _ _|.idxA _ _ _ _ _=>[]|.bin _ _ _ _|.un _ _|.ext _ _|.mm _ _|.mkf _ _ _|.nilc _|.cnv _ _|.nils _ _|.bad=>[]
def Ag(hp hp':Hp)(L:List Tch):Prop:=∀t∈L,∀l,bH t l->hl hp l=hl hp' l
theorem Ag.left{hp hp':Hp}{L M:List Tch}(h:Ag hp hp' (L++M)):Ag hp hp' L:=λl hl=>h l (lO.2 (.inl hl))
theorem Ag.right{hp hp':Hp}{L M:List Tch}(h:Ag hp hp' (L++M)):Ag hp hp' M:=λl hl=>h l (lO.2 (.inr hl))
theorem Ag.head{hp hp':Hp}{l:Loc}{L:List Tch}(h:Ag hp hp' (.l l::L)):hl hp l=hl hp' l:=h (.l l) (by simp) l rfl
theorem Ag.headb{hp hp':Hp}{n:Nm}{L:List Tch}(h:Ag hp hp' (.b n::L))(j:Nat):hl hp (.c n j)=hl hp' (.c n j):=h (.b n) (by simp) _ ⟨j,rfl⟩
theorem Ag.tail{hp hp':Hp}{l:Tch}{L:List Tch}(h:Ag hp hp' (l::L)):Ag hp hp' L:=λm hm=>h m (by simp[hm])
theorem RW{hp hp':Hp}{n:Nm}:∀{k o:Nat},Ag hp hp' (IZ n o k)->Gx hp n o k=Gx hp' n o k
 |0,_,_=>rfl
 |k+1,o,h=>by simp only[IZ]at h;simp only[Gx,h.head,RW h.tail]
theorem RX{hp hp':Hp}{n:Nm}:∀{cs:List AV}{o:Nat},Ag hp hp' (IZ n o cs.length)->Lw hp n o cs=Lw hp' n o cs
 |[],_,_=>rfl
 |c::cs,o,h=>by simp only[pC,IZ]at h;simp only[Lw,h.head,RX h.tail]
theorem I0{hp hp':Hp}{n:Nm}(h:∀j,hl hp (.c n j)=hl hp' (.c n j)):∀{k o:Nat},CU hp n o k=CU hp' n o k
 |0,_=>rfl
 |k+1,o=>by simp only[CU,h o,I0 h (k:=k) (o:=o+1)]
theorem Za{hp hp':Hp}{c:AV}(h:Ag hp hp' (QP c)):NM hp c=NM hp' c/\QJ hp c=QJ hp' c:=by
 cases c with
 |own m l=>simp only[QP]at h;simp only[NM,QJ,h.head];exact⟨trivial,trivial⟩
 |_=>exact⟨rfl,rfl⟩
theorem Qw{hp hp':Hp}:∀{cs:List AV},Ag hp hp' (cs.flatMap QP)->cs.map (NM hp)=cs.map (NM hp')/\MG hp cs=MG hp' cs
 |[],_=>⟨rfl,rfl⟩
 |c::cs,h=>by simp only[List.flatMap_cons]at h;obtain⟨h1,h2⟩:=Za h.left;obtain⟨h3,h4⟩:=Qw h.right;simp only[eZ,MG,h1,h2,h3,h4];exact⟨trivial,trivial⟩
mutual
theorem Pb{hp hp':Hp}:∀{x:AV},Ag hp hp' (Ge hp x)->res hp x=res hp' x/\Hj hp x=Hj hp' x
 |.own n l,h=>by simp only[Ge]at h;simp only[res,Hj,h.head];exact⟨trivial,trivial⟩
 |.box n l,h=>by simp only[Ge]at h;have e:=I0 h.headb (k:=40) (o:=0);obtain⟨h1,h2⟩:=Qw h.tail;simp only[res,Hj,<-e,h1,h2];exact⟨trivial,trivial⟩
 |.agg cs,h=>by simp only[Ge]at h;obtain⟨h1,h2⟩:=Hw h;simp only[res,Hj,h1,h2];exact⟨trivial,trivial⟩
 |.tup cs,h=>by simp only[Ge]at h;obtain⟨h1,h2⟩:=Hw h;simp only[res,Hj,h1,h2];exact⟨trivial,trivial⟩
 |.clo f xs ys,h=>by simp only[Ge]at h;obtain⟨h1,h2⟩:=Hw h.left;obtain⟨h3,h4⟩:=Hw h.right;simp only[res,Hj,h1,h2,h3,h4];exact⟨trivial,trivial⟩
 |.v _,_=>⟨rfl,rfl⟩
 |.sl _ _ _ _,_=>⟨rfl,rfl⟩
 |.ro _ _,_=>⟨rfl,rfl⟩
 |.elem _ _ _ _ _,_=>⟨rfl,rfl⟩
 |.gd _ _,_=>⟨rfl,rfl⟩
 |.mp _,_=>⟨rfl,rfl⟩
 |.un,_=>⟨rfl,rfl⟩
theorem Hw{hp hp':Hp}:∀{xs:List AV},Ag hp hp' (HX hp xs)->Fd hp xs=Fd hp' xs/\EY hp xs=EY hp' xs
 |[],_=>⟨rfl,rfl⟩
 |x::xs,h=>by simp only[HX]at h;obtain⟨h1,h2⟩:=Pb h.left;obtain⟨h3,h4⟩:=Hw h.right;simp only[Fd,EY,h1,h2,h3,h4];exact⟨trivial,trivial⟩
end
theorem MS{hp hp':Hp}:∀{ns:List Nm},(∀n∈ns,hl hp (.a n)=hl hp' (.a n))->frz hp ns=frz hp' ns
 |[],_=>rfl
 |n::ns,h=>by
  have ih:frz hp ns=frz hp' ns:=MS λm hm=>h m (tO _ hm)
  simp only[frz,h n (zW ..),ih]
mutual
theorem bI{hp:Hp}{n:Nm}:∀{x:AV},n∈FT x->Tch.l (.a n)∈Ge hp x
 |.own m l,h=>by simp[FT]at h;subst h;simp[Ge]
 |.agg cs,h=>by simp only[FT]at h;simp only[Ge];exact KG h
 |.tup cs,h=>by simp only[FT]at h;simp only[Ge];exact KG h
 |.clo f xs ys,h=>by simp only[FT,lO]at h;simp only[Ge,lO];exact h.imp KG KG
 |.box _ _,h=>by simp[FT]at h
 |.v _,h=>by simp[FT]at h
 |.sl _ _ _ _,h=>by simp[FT]at h
 |.ro _ _,h=>by simp[FT]at h
 |.elem _ _ _ _ _,h=>by simp[FT]at h
 |.gd _ _,h=>by simp[FT]at h
 |.mp _,h=>by simp[FT]at h
 |.un,h=>by simp[FT]at h
theorem KG{hp:Hp}{n:Nm}:∀{xs:List AV},n∈Cu xs->Tch.l (.a n)∈HX hp xs
 |[],h=>by simp[Cu]at h
 |x::xs,h=>by simp only[Cu,lO]at h;simp only[HX,lO];exact h.imp bI KG
end
theorem W6{hp hp':Hp}{sz:Nat}{x:AV}(h:Ag hp hp' (Ge hp x)):NN hp sz x=NN hp' sz x:=by
 cases x with
 |own n l=>simp only[Ge]at h;simp only[NN,h.head]
 |v x=>
  cases x with
  |slice b n c=>cases n<;>rfl
  |_=>rfl
 |_=>rfl
theorem QQ{hp:Hp}{n:Nm}:∀{xs:List AV},Fs xs=some n->Tch.b n∈HX hp xs
 |[],h=>by simp[Fs]at h
 |c::cs,h=>by
  simp only[HX,lO];cases c with
  |box m o=>simp only[Fs,yE]at h;subst h;exact .inl (by simp[Ge])
  |_=>exact .inr (QQ (by simpa[Fs]using h))
theorem Nd{hp hp':Hp}{X:AV}(h:Ag hp hp' (Vs X)):J7 hp X=J7 hp' X:=by
 cases X with
 |mp n=>simp only[Vs]at h;simp only[J7,h.head]
 |v x=>
  cases x with
  |map r=>cases r<;>rfl
  |_=>rfl
 |_=>rfl
theorem bJ{hp hp':Hp}{c:AV}(h:Ag hp hp' (QP c)):OM hp c=OM hp' c:=by
 cases c with
 |mp m=>simp only[OM,Nd (X:=.mp m) h]
 |_=>rfl
theorem Zb{hp hp':Hp}{cs:List AV}(h:Ag hp hp' (cs.flatMap QP)):cs.map (OM hp)=cs.map (OM hp'):=Mq λc hc=>bJ λt ht=>h t (List.mem_flatMap.2 ⟨c,hc,ht⟩)
theorem kM{hp hp':Hp}{x:AV}(h:Ag hp hp' (Ge hp x)):qv hp x=qv hp' x:=by
 cases x with
 |box n o=>rw[Ge]at h;have e:=I0 h.headb (k:=40) (o:=0);simp only[qv,<-e,Zb h.tail]
 |_=>rfl
theorem sF{hp:Hp}{xs:List AV}{x:AV}(hx:x∈xs):∀t∈Ge hp x,t∈HX hp xs:=by
 induction xs with
 |nil=>cases hx
 |cons y ys ih=>
  intro t ht;rw[HX];rcases lJ.1 hx with rfl|hx
  ·exact lO.2 (.inl ht)
  ·exact lO.2 (.inr (ih hx t ht))
theorem bK{hp hp':Hp}{xs:List AV}(h:Ag hp hp' (HX hp xs)):xs.map (qv hp)=xs.map (qv hp'):=Mq λ_ hx=>kM λt ht=>h t (sF hx t ht)
theorem Pc{S:Tab}{hp hp':Hp}{f:Nat}{xs:List AV}(h:Ag hp hp' (HX hp xs)):J8 S hp f xs=J8 S hp' f xs:=by
 obtain⟨h1,h2⟩:=Hw h;have h0:=bK h;have h3:frz hp (Cu xs)=frz hp' (Cu xs):=MS λn hn=>h _ (KG hn) _ rfl
 have h4:∀n,Fs xs=some n->∀j,hl hp (.c n j)=hl hp' (.c n j):=λn hn j=>h (.b n) (QQ hn) _ ⟨j,rfl⟩
 simp only[J8,h0,h1,h2,h3];cases hb:Fs xs with
 |none=>rfl
 |some n=>
  have h5:=h4 n hb;have h6:JK hp n=JK hp' n:=by funext k;unfold JK;simp only[h5]
  simp only[I0 h5,h6]
theorem SU{hp:Hp}:∀{xs ys:List AV},HX hp (xs++ys)=HX hp xs++HX hp ys
 |[],ys=>rfl
 |x::xs,ys=>by simp only[s8,HX,SU,qV]
theorem AY{env env':Au}{x:Opd}(h:∀t∈CZ x,lk env t=lk env' t):Av env x=Av env' x:=by
 cases x with
 |t n=>exact h n (by simp[CZ])
 |k x=>rfl
theorem Hx{env env':Au}{g:Bool}:∀{xs:List Opd},(∀t∈Jh xs,lk env t=lk env' t)->xs.map (λx=>Aw g (Av env x))=xs.map (λx=>Aw g (Av env' x))
 |[],_=>rfl
 |x::xs,h=>by simp only[Jh,List.flatMap_cons,lO]at h;simp only[eZ];rw[AY λt ht=>h t (.inl ht),Hx λt ht=>h t (.inr ht)]
theorem XI{S:Tab}{env env':Au}{hp:Hp}{nm:Nm}{g:Bool}{k:AK}(h:∀t∈Ld k,lk env t=lk env' t):AB S env hp nm g k=AB S env' hp nm g k/\Ed env hp g k=Ed env' hp g k:=by
 cases k with
 |pr p xs=>simp only[AB,Ed,Hx (g:=g) h,and_self]
 |b2s x=>simp only[AB,Ed,AY h,and_self]
 |mv x=>simp only[AB,Ed,AY h,and_self]
 |pick c a b=>
  simp only[Ld,lO]at h;have h1:=AY λt ht=>h t (.inl (.inl ht))
  have h2:=AY λt ht=>h t (.inl (.inr ht))
  have h3:=AY λt ht=>h t (.inr ht)
  simp only[AB,Ed,h1,h2,h3,and_self]
 |box n x=>simp only[AB,Ed,AY h,and_self]
 |alloc z=>exact⟨rfl,rfl⟩
 |build z ps=>
  have:ps.map (λ(o,s,x)=>(o,s,Aw g (Av env x)))=ps.map (λ(o,s,x)=>(o,s,Aw g (Av env' x))):=by apply Mq;rintro⟨o,s,x⟩ hm;simp only[AY λt ht=>h t (List.mem_flatMap.2 ⟨_,hm,ht⟩)]
  exact⟨congrArg (LS z) this,rfl⟩
 |bsl sz len z ps=>
  have:ps.map (λ(i,x)=>(i,Aw g (Av env x)))=ps.map (λ(i,x)=>(i,Aw g (Av env' x))):=by apply Mq;rintro⟨i,x⟩ hm;simp only[AY λt ht=>h t (List.mem_flatMap.2 ⟨_,hm,ht⟩)]
  exact⟨congrArg (KZ hp nm sz len z) this,by rw[Ed,Ed,this]⟩
 |ld sz ag x=>simp only[AB,Ed,AY h,and_self]
 |st sz a x=>
  simp only[Ld,lO]at h;have h1:=AY λt ht=>h t (.inl ht)
  have h2:=AY λt ht=>h t (.inr ht)
  simp only[AB,Ed,h1,h2,and_self]
 |fa o x=>simp only[AB,Ed,AY h,and_self]
 |fld o s ag x=>simp only[AB,Ed,AY h,and_self]
 |ia sz x i=>
  simp only[Ld,lO]at h;have h1:=AY λt ht=>h t (.inl ht)
  have h2:=AY λt ht=>h t (.inr ht)
  simp only[AB,Ed,h1,h2,and_self]
 |iaA n sz x i=>
  simp only[Ld,lO]at h;have h1:=AY λt ht=>h t (.inl ht)
  have h2:=AY λt ht=>h t (.inr ht)
  simp only[AB,Ed,h1,h2,and_self]
 |idxA n sz ag x i=>
  simp only[Ld,lO]at h;have h1:=AY λt ht=>h t (.inl ht)
  have h2:=AY λt ht=>h t (.inr ht)
  simp only[AB,Ed,h1,h2,and_self]
 |bin op tk x y=>
  simp only[Ld,lO]at h;have h1:=AY λt ht=>h t (.inl ht)
  have h2:=AY λt ht=>h t (.inr ht)
  cases tk<;>simp only[AB,Ed,h1,h2,and_self]
 |un op x=>simp only[AB,Ed,AY h,and_self]
 |ext x i=>simp only[AB,Ed,AY h,and_self]
 |call f as=>simp only[AB,Ed,Hx (g:=g) h,and_self]
 |cv x as=>
  simp only[Ld,lO]at h;have h1:=AY λt ht=>h t (.inl ht)
  have h2:=Hx (g:=g) λt ht=>h t (.inr ht)
  simp only[AB,Ed,h1,h2,and_self]
 |len x=>simp only[AB,Ed,AY h,and_self]
 |app sz by' z s x=>
  simp only[Ld,lO]at h;have h1:=AY λt ht=>h t (.inl ht)
  have h2:=AY λt ht=>h t (.inr ht)
  simp only[AB,Ed,h1,h2,and_self]
 |mm m xs=>simp only[AB,Ed,Hx (g:=g) h,and_self]
 |mkf f a b=>
  simp only[Ld,lO]at h;have h1:=Hx (g:=g) λt ht=>h t (.inl ht)
  have h2:=Hx (g:=g) λt ht=>h t (.inr ht)
  simp only[AB,Ed,h1,h2,and_self]
 |slc sz x l hh m=>
  simp only[Ld,lO]at h;have e1:=AY λt ht=>h t (.inl (.inl (.inl ht)))
  have eo:∀y:Option Opd,(∀t∈Jh y.toList,lk env t=lk env' t)->(y.map λx=>Aw g (Av env x))=(y.map λx=>Aw g (Av env' x)):=by
   intro y hy;cases y with
   |none=>rfl
   |some y=>simp only[t8];rw[AY λt ht=>hy t (by simpa[Jh]using ht)]
  have e2:=eo l λt ht=>h t (.inl (.inl (.inr ht)))
  have e3:=eo hh λt ht=>h t (.inl (.inr ht))
  have e4:=eo m λt ht=>h t (.inr ht)
  simp only[AB,Ed,e1,e2,e3,e4,and_self]
 |nilc x=>simp only[AB,Ed,AY h,and_self]
 |cnv k x=>simp only[AB,Ed,AY h,and_self]
 |nils n x=>simp only[AB,Ed,AY h,and_self]
 |cap x=>simp only[AB,Ed,AY h,and_self]
 |appn sz by' z s x=>
  simp only[Ld,lO]at h;have h1:=AY λt ht=>h t (.inl ht)
  have h2:=AY λt ht=>h t (.inr ht)
  simp only[AB,Ed,h1,h2,and_self]
 |pan x=>exact⟨rfl,rfl⟩
 |dfr x=>exact⟨rfl,rfl⟩
 |rcv=>exact⟨rfl,rfl⟩
 |allocB _=>exact⟨rfl,rfl⟩
 |mks sz by' z s x=>
  simp only[Ld,lO]at h;have h1:=AY λt ht=>h t (.inl ht)
  have h2:=AY λt ht=>h t (.inr ht)
  simp only[AB,Ed,h1,h2,and_self]
 |ent x=>exact⟨rfl,rfl⟩
 |mkm=>exact⟨rfl,rfl⟩
 |mlk zd ok m k=>
  simp only[Ld,lO]at h;have h1:=AY λt ht=>h t (.inl ht)
  have h2:=AY λt ht=>h t (.inr ht)
  simp only[AB,Ed,h1,h2,and_self]
 |mup m k x=>
  simp only[Ld,lO]at h;have h1:=AY λt ht=>h t (.inl (.inl ht))
  have h2:=AY λt ht=>h t (.inl (.inr ht))
  have h3:=AY λt ht=>h t (.inr ht)
  simp only[AB,Ed,h1,h2,h3,and_self]
 |rng x=>exact⟨rfl,rfl⟩
 |nxt x=>exact⟨rfl,rfl⟩
 |bad=>exact⟨rfl,rfl⟩
theorem W7{hp hp':Hp}{zd X Y:AV}{ok:Bool}(h:Ag hp hp' (Vs X)):MK hp zd ok X Y=MK hp' zd ok X Y:=by unfold MK;rw[Nd h]
theorem W8{hp hp':Hp}{X Y τ:AV}(h:Ag hp hp' (Vs X++Ge hp τ)):NO hp X Y τ=NO hp' X Y τ:=by
 obtain⟨h2,h3⟩:=Pb h.right;have h4:frz hp (FT τ)=frz hp' (FT τ):=MS λn hn=>h.right _ (bI hn) _ rfl
 have h1:=Nd h.left;cases X with
 |mp n=>simp only[NO,h1,h2,h3,h4]
 |_=>rfl
theorem W9{hp hp':Hp}{nm:Nm}{sz len:Nat}{z:List AV}{qs:List (Nat×AV)}(h2:EY hp (qs.map (·.2))=EY hp' (qs.map (·.2)))(h3:frz hp (Cu (qs.map (·.2)))=frz hp' (Cu (qs.map (·.2))))(h4:qs.map (λ(i,x)=>(i,res hp x))=qs.map (λ(i,x)=>(i,res hp' x))):KZ hp nm sz len z qs=KZ hp' nm sz len z qs:=by unfold KZ;rw[h4,h2,h3]
theorem sG{hp hp':Hp}{xs:List AV}(h:Ag hp hp' (HX hp xs)):∀x∈xs,res hp x=res hp' x:=by
 induction xs with
 |nil=>intro x hx;cases hx
 |cons y ys ih=>
  rw[HX]at h;intro x hx;rcases lJ.1 hx with rfl|hx
  ·exact(Pb h.left).1
  ·exact ih h.right x hx
theorem kN{f g:AV->AV}{qs:List (Nat×AV)}(h:∀x∈qs.map (·.2),f x=g x):qs.map (λ(i,x)=>(i,f x))=qs.map (λ(i,x)=>(i,g x)):=by apply Mq;rintro⟨i,x⟩ hx;have:=h x (tI.2 ⟨_,hx,rfl⟩);simp only[this]
theorem bM{hp hp':Hp}{nm:Nm}{sz len:Nat}{z:List AV}{qs:List (Nat×AV)}(h:Ag hp hp' (HX hp (qs.map (·.2)))):KZ hp nm sz len z qs=KZ hp' nm sz len z qs:=W9 (Hw h).2 (MS λn hn=>h _ (KG hn) _ rfl) (kN (sG h))
theorem bN{S:Tab}{env:Au}{hp hp':Hp}{nm:Nm}{g:Bool}{k:AK}(h:Ag hp hp' (Ed env hp g k)):AB S env hp nm g k=AB S env hp' nm g k:=by
 cases k with
 |ld sz ag x=>
  simp only[AB,Ed]at h⊢;generalize Aw g (Av env x)=X at h⊢;cases X with
  |box n o=>simp only[Y8]at h;simp only[Jw,RW h]
  |elem n l z i o=>simp only[Y8]at h;simp only[Jw,h.head]
  |v X=>cases X with
   |pointer p=>cases p with
    |some ad=>obtain⟨_,_,sp⟩:=ad;cases sp<;>rfl
    |none=>rfl
   |_=>rfl
  |_=>rfl
 |st sz a x=>
  simp only[AB,Ed]at h⊢;generalize Aw g (Av env x)=X at h⊢;generalize Aw g (Av env a)=A at h⊢;unfold UU;cases hc:X.cells with
  |none=>rfl
  |some cs=>
   simp only;by_cases hl':cs.length=sz
   ·rw[eX hl',eX hl'];cases A with
    |box n o=>simp only[Y9]at h;rw[<-hl']at h;simp only[RX h]
    |elem n l z i o=>simp only[Y9,hc]at h;have h1:=h.head;obtain⟨h2,h3⟩:=Hw h.tail;simp only[h1,h2,h3]
    |_=>rfl
   ·rw[eW hl',eW hl']
 |ia sz x i=>
  simp only[AB,Ed]at h⊢;generalize Aw g (Av env x)=X at h⊢;generalize Aw g (Av env i)=I at h⊢;cases X with
  |own n l=>
   simp only[Ge]at h;cases I with
   |v q=>cases q<;>first|rfl|simp only[SN,h.head]
   |_=>rfl
  |sl _ _ _ _=>
   cases I with
   |v q=>cases q<;>rfl
   |_=>rfl
  |_=>rfl
 |len x=>
  simp only[AB,Ed]at h⊢;generalize Aw g (Av env x)=X at h⊢;cases X with
  |own n l=>simp only[Ge]at h;simp only[MJ,h.head]
  |_=>rfl
 |b2s x=>
  simp only[AB,Ed]at h⊢;generalize Aw g (Av env x)=X at h⊢;cases X with
  |own n l=>simp only[Ge]at h;simp only[MI,h.head]
  |_=>rfl
 |app sz by' z s x=>
  simp only[AB,Ed]at h⊢;generalize Aw g (Av env s)=X at h⊢;generalize Aw g (Av env x)=Y at h⊢;unfold PO;rw[W6 h.right];cases X with
  |own n l=>have:=h.left;simp only[Ge]at this;simp only[this.head]
  |_=>rfl
 |slc sz x l hh m=>
  simp only[AB,Ed]at h⊢;generalize Aw g (Av env x)=X at h⊢;have e1:∀lo hi mx,MH hp sz X lo hi mx=MH hp' sz X lo hi mx:=by
   intro lo hi mx;unfold MH;cases X with
   |own n l'=>simp only[Ge]at h;simp only[h.head,frz]
   |_=>rfl
  have e2:∀lo hi mx,Jz hp nm sz X lo hi mx=Jz hp' nm sz X lo hi mx:=by
   intro lo hi mx;cases X with
   |own n l'=>
    simp only[Ge]at h;rcases lo with _|lo<;>rcases hi with _|hi<;>rcases mx with _|mx<;>try (simp only[Jz,e1];done)
    all_goals (rcases hi with c|_|_|_|_|_|_|_|_|_|_<;>try (simp only[Jz,e1];done))
    all_goals (cases c<;>first|(simp only[Jz,e1];done)|simp only[Jz,h.head])
   |_=>exact e1 lo hi mx
  simp only[e1,e2]
 |bsl sz len z ps=>simp only[AB];rw[Ed]at h;exact bM h
 |call f as=>simp only[AB,Ed]at h⊢;exact Pc h
 |cv x as=>
  simp only[AB,Ed]at h⊢;generalize Aw g (Av env x)=X at h⊢;generalize (as.map λx=>Aw g (Av env x))=Y at h⊢;unfold UW;cases X with
  |clo fn a b=>
   cases fn with
   |func f=>
    simp only[Ge]at h;refine Pc ?_;rw[SU,SU];intro l hl';simp only[lO]at hl';rcases hl' with(h1|h1)|h1
    ·exact h.left.left l h1
    ·exact h.right l h1
    ·exact h.left.right l h1
   |_=>rfl
  |_=>rfl
 |bin op tk x y=>cases tk<;>rfl
 |mlk zd ok m k=>simp only[AB,Ed]at h⊢;exact W7 h
 |mup m k x=>simp only[AB,Ed]at h⊢;exact W8 h
 |_=>rfl
def MT(env:Au)(hp:Hp)(o:AOp):List Tch:=match Fx env o.g with|some g=>Ed env hp g o.k|none=>[]
theorem N6{S:Tab}{nm:Nm}{env env':Au}{hp hp':Hp}{o:AOp}(ht:∀t∈L7 o,lk env t=lk env' t)(hh:Ag hp hp' (MT env hp o)):JM S nm env hp o=JM S nm env' hp' o:=by
 have hk:∀g,AB S env hp nm g o.k=AB S env' hp nm g o.k:=λg=>(XI λt h=>ht t (by simp[L7,h])).1
 have hrd:∀g,Ed env hp g o.k=Ed env' hp g o.k:=λg=>(XI (S:=S) (nm:=nm) λt h=>ht t (by simp[L7,h])).2
 have hg:Fx env o.g=Fx env' o.g:=by
  cases hgo:o.g with
  |none=>rfl
  |some p=>obtain⟨t,w⟩:=p;simp only[Fx];rw[ht t (by simp[L7,hgo])]
 unfold JM;cases hgo:o.g with
 |none=>
  simp only;have h2:Fx env o.g=some true:=by rw[hgo];rfl
  simp only[MT,h2]at hh;rw[hk];rw[hrd]at hh;exact bN hh
 |some p=>
  simp only;rw[<-hgo,<-hg];cases hgv:Fx env o.g with
  |none=>rfl
  |some g=>simp only;simp only[MT,hgv]at hh;rw[hrd]at hh;rw[hk g,bN hh]
theorem Kj{o:Option (Prop×AV)}{vc:Prop}{r:AV}{ws:Hp}(h:vr o=some (vc,r,ws)):ws=[]:=by
 unfold vr at h;split at h
 ·simp at h;exact h.2.2
 ·simp at h
theorem XJ{S:Tab}{env:Au}{hp:Hp}{nm:Nm}{g:Bool}{k:AK}{vc:Prop}{r:AV}{ws:Hp}(hk:hw k=false)(h:AB S env hp nm g k=some (vc,r,ws)):ws=[]:=by
 cases k with
 |box _ _=>simp[hw]at hk
 |alloc _=>simp[hw]at hk
 |bsl _ _ _ _=>simp[hw]at hk
 |st _ _ _=>simp[hw]at hk
 |call _ _=>simp[hw]at hk
 |cv _ _=>simp[hw]at hk
 |app _ _ _ _ _=>simp[hw]at hk
 |slc _ _ _ _ _=>simp[hw]at hk
 |appn _ _ _ _ _=>simp[hw]at hk
 |cap x=>simp only[AB]at h;generalize Aw g (Av env x)=X at h;unfold Rq at h;split at h<;>simp at h<;>exact h.2.2
 |pr p xs=>simp only[AB]at h;exact Kj h
 |b2s x=>
  simp only[AB]at h;generalize Aw g (Av env x)=X at h;unfold MI at h;split at h
  ·simp at h;exact h.2.2
  ·split at h<;>simp at h
   exact h.2.2
  ·simp at h
 |mv x=>simp[AB]at h;exact h.2.2
 |pick c a b=>
  simp only[AB,OW]at h;split at h
  ·split at h<;>simp at h<;>exact h.2.2
  ·simp at h
 |build z ps=>
  simp only[AB,LS]at h;split at h<;>simp at h
  exact h.2.2
 |ld sz ag x=>
  simp only[AB]at h;generalize Aw g (Av env x)=X at h;unfold Jw at h;split at h
  ·exact Kj h
  ·split at h
   ·exact Kj h
   ·simp at h
  ·split at h
   ·exact Kj h
   ·simp at h
  ·split at h
   ·split at h
    ·exact Kj h
    ·simp at h
   ·simp at h
  ·simp at h
 |fa o x=>simp only[AB]at h;generalize Aw g (Av env x)=X at h;unfold Lx at h;split at h<;>simp at h<;>exact h.2.2
 |fld o s ag x=>
  simp only[AB]at h;generalize Aw g (Av env x)=X at h;unfold PP at h;split at h
  ·split at h
   ·exact Kj h
   ·simp at h
  ·simp at h
 |ia sz x i=>
  simp only[AB]at h;generalize Aw g (Av env x)=X at h;generalize Aw g (Av env i)=I at h;unfold SN at h;split at h
  ·simp at h;exact h.2.2
  ·split at h<;>simp at h
   exact h.2.2
  ·simp at h
 |iaA n sz x i=>simp only[AB]at h;generalize Aw g (Av env x)=X at h;generalize Aw g (Av env i)=I at h;unfold Rr at h;split at h<;>simp at h<;>exact h.2.2
 |idxA n sz ag x i=>
  simp only[AB]at h;generalize Aw g (Av env x)=X at h;generalize Aw g (Av env i)=I at h;unfold OX at h;split at h
  ·split at h
   ·exact Kj h
   ·simp at h
  ·simp at h
 |bin op tk x y=>
  cases tk with
  |cells n=>
   simp only[AB]at h;generalize Aw g (Av env x)=X at h;generalize Aw g (Av env y)=Y at h;unfold Rs at h;split at h
   ·split at h<;>simp at h<;>exact h.2.2
   ·simp at h
  |_=>simp only[AB]at h;exact Kj h
 |un op x=>simp only[AB]at h;exact Kj h
 |ext x i=>
  simp only[AB]at h;generalize Aw g (Av env x)=X at h;unfold PQ at h;split at h
  ·split at h<;>simp at h
   exact h.2.2
  ·simp at h
 |len x=>
  simp only[AB]at h;generalize Aw g (Av env x)=X at h;unfold MJ at h;split at h
  ·simp at h;exact h.2.2
  ·split at h<;>simp at h
   exact h.2.2
  ·simp at h
 |mm m xs=>
  simp only[AB]at h;generalize (xs.map λx=>Aw g (Av env x))=X at h;unfold SO at h;split at h
  ·split at h<;>simp at h
   exact h.2.2
  ·simp at h
 |mkf f a b=>simp[AB]at h;exact h.2.2
 |nilc x=>simp only[AB]at h;generalize Aw g (Av env x)=X at h;unfold Rt at h;split at h<;>simp at h<;>exact h.2.2
 |cnv k x=>
  simp only[AB]at h;generalize Aw g (Av env x)=X at h;unfold Ru at h;split at h<;>simp at h
  exact h.2.2
 |nils n x=>simp only[AB]at h;generalize Aw g (Av env x)=X at h;unfold OY at h;split at h<;>simp at h<;>exact h.2.2
 |pan x=>simp[AB]at h
 |dfr x=>simp[AB]at h
 |rcv=>simp[AB]at h
 |allocB _=>simp[AB]at h
 |mkm=>simp[hw]at hk
 |mks _ _ _ _ _=>simp[hw]at hk
 |ent _=>simp[AB]at h
 |mup _ _ _=>simp[hw]at hk
 |rng _=>simp[AB]at h
 |nxt _=>simp[AB]at h
 |mlk zd ok m k=>
  simp only[AB]at h;generalize Aw g (Av env m)=X at h;generalize Aw g (Av env k)=Y at h;unfold MK at h;split at h
  ·simp at h;exact h.2.2
  ·simp at h
 |bad=>simp[AB]at h
theorem QR{S:Tab}{env:Au}{hp:Hp}{nm:Nm}{o:AOp}{vc:Prop}{r:AV}{ws:Hp}(hk:hw o.k=false)(h:JM S nm env hp o=some (vc,r,ws)):ws=[]:=by
 unfold JM at h;split at h
 ·exact XJ hk h
 ·split at h
  ·simp at h
  ·split at h
   ·simp at h;exact h.2.2
   ·simp at h;exact h.2.2
   ·rename_i he;have:=XJ hk he;simp at this
theorem PY{env:Au}{hp:Hp}{o:AOp}(hk:ht o.k=false):MT env hp o=[]:=by
 unfold MT;split
 ·cases hc:o.k<;>simp[hc,ht,hw]at hk<;>rfl
 ·rfl
structure Rec where
 d:Option Nat
 r:AV
 ws:Hp
 rd:List Tch
 deriving Inhabited
def N7(S:Tab)(ver:Nat):Nat->List AOp->Au->Hp->Option (Prop×Au×Hp×List Rec)|_,[],env,hp=>some (True,env,hp,[])|k,o::r,env,hp=>match JM S (k,ver) env hp o with|none=>none|some (vc,x,ws)=>match N7 S ver (k+1) r (Ca o.d x env) (ws++hp)with|none=>none|some (vcs,e,h,rs)=>some (vc/\vcs,e,h,⟨o.d,x,ws,bif ht o.k then MT env hp o else[]⟩::rs)
def SV:Tch->Loc->Bool|.l x,y=>decide (x=y)|.b n,.c m _=>decide (n=m)|.b _,.a _=>false
theorem XK{t:Tch}{l:Loc}(h:bH t l):SV t l=true:=by
 cases t with
 |l x=>simpa[SV,bH]using h
 |b n=>obtain⟨j,rfl⟩:=h;simp[SV]
def H6(l:Loc)(ws:Hp):Bool:=ws.any λp=>decide (p.1=l)
def SW(a b:Rec):Bool:=(a.ws.all λp=>(b.rd.all λt=> !SV t p.1)&& !H6 p.1 b.ws)&&b.ws.all λp=>a.rd.all λt=> !SV t p.1
def N8(recs:List Rec):List (Nat×Nat)->Bool|[]=>true|(k,j)::r=>SW (recs.getD k default) (recs.getD j default)&&N8 recs r
theorem Me{B:List Nat}:∀{es:List Nat}{s k:Nat},(es.foldl (λs e=>s|||2^e|||B.getD e 0) s).testBit k=true↔s.testBit k=true\/∃e∈es,k=e\/(B.getD e 0).testBit k=true
 |[],s,k=>by simp
 |e::es,s,k=>by
  rw[List.foldl_cons,Me];simp only[Nat.testBit_or,tV,Nat.testBit_two_pow,eR,lJ,exists_eq_or_imp];constructor
  ·rintro((h|h)|h)
   ·rcases h with h|h
    ·exact .inl h
    ·exact .inr (.inl (.inl h.symm))
   ·exact .inr (.inl (.inr h))
   ·exact .inr (.inr h)
  ·rintro(h|(h|h)|h)
   ·exact .inl (.inl (.inl h))
   ·exact .inl (.inl (.inr h.symm))
   ·exact .inl (.inr h)
   ·exact .inr h
theorem LI{B:List Nat}:∀{l:List Oper}{j:Nat},PW B j l=true->∀i o,l[i]? =some o->(∀e∈DN o,e<j+i)/\B.getD (j+i) 0=IA B (DN o)
 |[],_,_,i,o,ho=>by simp at ho
 |p::r,j,h,i,o,ho=>by
  simp only[PW,lP,Ft,eR,beq_iff_eq]at h;cases i with
  |zero=>simp at ho;subst ho;exact h.1
  |succ i=>have:=LI h.2 i o (by simpa using ho);rw[show j+(i+1)=j+1+i by omega];exact this
theorem N9{a b:AOp}(h:Ji a b=true):(∀t,a.d=some t->t∉L7 b/\b.d≠some t)/\∀t,b.d=some t->t∉L7 a:=by
 unfold Ji at h;simp only[lP]at h;refine⟨λt ht=>?_,λt ht=>?_⟩
 ·have:=h.1;rw[ht]at this;simpa using this
 ·have:=h.2;rw[ht]at this;simpa using this
theorem LJ{B:Nat}{o:AOp}:∀{l:List AOp}{k:Nat},RK B o k l=true->∀i p,l[i]? =some p->B.testBit (k+i)=true\/Ji p o=true
 |[],_,_,i,p,hp=>by simp at hp
 |q::r,k,h,i,p,hp=>by
  simp only[RK,lP,tV]at h;cases i with
  |zero=>simp at hp;subst hp;exact h.1
  |succ i=>have:=LJ h.2 i p (by simpa using hp);rw[show k+(i+1)=k+1+i by omega];exact this
theorem LK{B j:Nat}{o:AOp}:∀{l:List AOp}{k:Nat},∀i p,l[i]? =some p->B.testBit (k+i)=true\/((hw p.k&&ht o.k)||(ht p.k&&hw o.k))=false\/(k+i,j)∈PX B j o k l
 |[],_,i,p,hp=>by simp at hp
 |q::r,k,i,p,hp=>by
  simp only[PX];cases i with
  |zero=>
   simp at hp;subst hp;rw[OQ];cases h1:B.testBit k with
   |true=>exact .inl rfl
   |false=>
    right;cases h2:((hw q.k&&ht o.k)||(ht q.k&&hw o.k))with
    |false=>exact .inl rfl
    |true=>right;simp
  |succ i=>
   rcases LK (B:=B) (j:=j) (o:=o) (k:=k+1) i p (by simpa using hp)with h|h|h
   ·rw[show k+(i+1)=k+1+i by omega];exact .inl h
   ·exact .inr (.inl h)
   ·right;right;rw[show k+(i+1)=k+1+i by omega];cases(!B.testBit k&&((hw q.k&&ht o.k)||(ht q.k&&hw o.k)))with
    |true=>exact tO _ h
    |false=>exact h
theorem Oa{B:List Nat}{all:List AOp}:∀{l:List AOp}{j:Nat},XB B all j l=true->∀i o,l[i]? =some o->RK (B.getD (j+i) 0) o 0 (all.take (j+i))=true
 |[],_,_,i,o,ho=>by simp at ho
 |q::r,j,h,i,o,ho=>by
  simp only[XB,lP]at h;cases i with
  |zero=>simp at ho;subst ho;exact h.1
  |succ i=>have:=Oa h.2 i o (by simpa using ho);rw[show j+(i+1)=j+1+i by omega];exact this
theorem Ob{B:List Nat}{all:List AOp}:∀{l:List AOp}{j:Nat},∀i o,l[i]? =some o->∀x∈PX (B.getD (j+i) 0) (j+i) o 0 (all.take (j+i)),x∈bE B all j l
 |[],_,i,o,ho=>by simp at ho
 |q::r,j,i,o,ho=>by
  intro x hx;simp only[bE,lO];cases i with
  |zero=>simp at ho;subst ho;exact .inl hx
  |succ i=>right;refine Ob (all:=all) i o (by simpa using ho) x ?_;rw[show j+(i+1)=j+1+i by omega]at hx;exact hx
theorem Pd{recs:List Rec}:∀{u:List (Nat×Nat)},N8 recs u=true->∀k j,(k,j)∈u->SW (recs.getD k default) (recs.getD j default)=true
 |[],_,k,j,h=>by simp at h
 |(a,b)::r,h,k,j,hm=>by
  simp only[N8,lP]at h;rcases lJ.1 hm with e|e
  ·simp at e;obtain⟨rfl,rfl⟩:=e;exact h.1
  ·exact Pd h.2 k j e
theorem Pe{a b:Rec}(h:SW a b=true)(l:Loc):(H6 l a.ws=true->(∀t∈b.rd,¬bH t l)/\H6 l b.ws=false)/\(H6 l b.ws=true->∀t∈a.rd,¬bH t l):=by
 simp only[SW,lP,Ft,zT]at h;constructor
 ·intro hl;simp only[H6,List.any_eq_true,eR]at hl;obtain⟨p,hp,rfl⟩:=hl;obtain⟨h1,h2⟩:=h.1 p hp;exact⟨λt ht hc=>by have:=h1 t ht;rw[XK hc]at this;simp at this,h2⟩
 ·intro hl t ht hc;simp only[H6,List.any_eq_true,eR]at hl;obtain⟨p,hp,rfl⟩:=hl;have:=h.2 p hp t ht;rw[XK hc]at this;simp at this
def Fv(rec:Nat->Rec)(env:Au):List Nat->Au|[]=>env|i::L=>Ca (rec i).d (rec i).r (Fv rec env L)
def Hy(rec:Nat->Rec)(hp:Hp):List Nat->Hp|[]=>hp|i::L=>(rec i).ws++Hy rec hp L
theorem RY{d:Option Nat}{x:AV}{env:Au}{t:Nat}:lk (Ca d x env) t=if d=some t then x else lk env t:=by
 cases d with
 |none=>simp[Ca]
 |some d=>simp[Ca,lk]
theorem wT{ws h:Hp}{l:Loc}(hn:H6 l ws=false):hl (ws++h) l=hl h l:=by
 induction ws with
 |nil=>rfl
 |cons w ws ih=>obtain⟨k,x⟩:=w;simp only[H6,List.any_cons,Fj,eS]at hn;simp only[s8,hl,eW hn.1];exact ih hn.2
theorem kP{ws h h':Hp}{l:Loc}(e:hl h l=hl h' l):hl (ws++h) l=hl (ws++h') l:=by
 induction ws with
 |nil=>exact e
 |cons w ws ih=>obtain⟨k,x⟩:=w;simp only[s8,hl,ih]
theorem JD{rec:Nat->Rec}{env:Au}{t:Nat}:∀(L:List Nat),lk (Fv rec env L) t=lk (Fv rec env (L.filter λi=>decide ((rec i).d=some t))) t
 |[]=>rfl
 |i::L=>by
  rw[zM];simp only[Fv,RY];by_cases h:(rec i).d=some t
  ·simp[h,Fv,RY]
  ·simp only[h,eW,not_false_eq_true,decide_false,yF,if_false];exact JD L
theorem Jj{rec:Nat->Rec}{hp:Hp}{l:Loc}:∀(L:List Nat),hl (Hy rec hp L) l=hl (Hy rec hp (L.filter λi=>H6 l (rec i).ws)) l
 |[]=>rfl
 |i::L=>by
  rw[zM];simp only[Hy];cases h:H6 l (rec i).ws with
  |true=>simp only[if_true,Hy];exact kP (Jj L)
  |false=>simp only[yF,if_false];rw[wT h];exact Jj L
theorem TG:∀{L M:List Nat},L.Pairwise (·>·)->M.Pairwise (·>·)->(∀i,i∈L↔i∈M)->L=M
 |[],[],_,_,_=>rfl
 |[],m::M,_,_,h=>by have:=(h m).2 (by simp);simp at this
 |l::L,[],_,_,h=>by have:=(h l).1 (by simp);simp at this
 |l::L,m::M,h1,h2,h=>by
  rw[yI]at h1 h2;have e:l=m:=by
   rcases lJ.1 ((h l).1 (by simp))with e|e
   ·exact e
   ·rcases lJ.1 ((h m).2 (by simp))with e'|e'
    ·exact e'.symm
    ·have:=h2.1 l e;have:=h1.1 m e';omega
  subst e;rw[TG h1.2 h2.2 λi=>?_];constructor
  ·intro hi;rcases lJ.1 ((h i).1 (tO _ hi))with e|e
   ·have:=h1.1 i hi;omega
   ·exact e
  ·intro hi;rcases lJ.1 ((h i).2 (tO _ hi))with e|e
   ·have:=h2.1 i hi;omega
   ·exact e
def Er:Nat->List Nat|0=>[]|n+1=>n::Er n
theorem Gy:∀{n i:Nat},i∈Er n↔i<n
 |0,i=>by simp[Er]
 |n+1,i=>by simp only[Er,lJ,Gy];omega
theorem Qy:∀n,(Er n).Pairwise (·>·)
 |0=>.nil
 |n+1=>yI.2 ⟨λi hi=>Gy.1 hi,Qy n⟩
theorem MU{p:Nat->Bool}{L:List Nat}{j:Nat}(hL:(L.filter p).Pairwise (·>·))(hm:∀i,p i=true->(i∈L↔i<j)):L.filter p=(Er j).filter p:=TG hL ((Qy j).filter p) λi=>by simp only[uQ,Gy];exact⟨λh=>⟨(hm i h.2).1 h.1,h.2⟩,λh=>⟨(hm i h.2).2 h.1,h.2⟩⟩
def JH(X:Nat->Au->Hp->AOp->Option (Prop×AV×Hp)):Nat->List AOp->Au->Hp->Option (Prop×Au×Hp×List Rec)|_,[],env,hp=>some (True,env,hp,[])|k,o::r,env,hp=>match X k env hp o with|none=>none|some (vc,x,ws)=>match JH X (k+1) r (Ca o.d x env) (ws++hp)with|none=>none|some (vcs,e,h,rs)=>some (vc/\vcs,e,h,⟨o.d,x,ws,bif ht o.k then MT env hp o else[]⟩::rs)
theorem Vt{S:Tab}{ver:Nat}:∀(l:List AOp)(k:Nat)(e:Au)(h:Hp),N7 S ver k l e h=JH (λi e h o=>JM S (i,ver) e h o) k l e h
 |[],_,_,_=>rfl
 |o::l,k,e,h=>by simp only[N7,JH,Vt l]
theorem LL{X:Nat->Au->Hp->AOp->Option (Prop×AV×Hp)}{bs:Nat}{rec:Nat->Rec}{env0:Au}{hp0:Hp}{all:List AOp}:∀(l:List AOp)(k:Nat)(rs:List Rec)(vc:Prop)(e:Au)(h:Hp),(∀i,l[i]? =all[k+i]?)->JH X (bs+k) l (Fv rec env0 (Er k)) (Hy rec hp0 (Er k))=some (vc,e,h,rs)->vc->(∀i,i<l.length->rs[i]? =some (rec (k+i)))->e=Fv rec env0 (Er (k+l.length))/\h=Hy rec hp0 (Er (k+l.length))/\∀i o,l[i]? =some o->∃vc:Prop,vc/\X (bs+(k+i)) (Fv rec env0 (Er (k+i))) (Hy rec hp0 (Er (k+i))) o=some (vc,(rec (k+i)).r,(rec (k+i)).ws)/\(rec (k+i)).d=o.d/\(rec (k+i)).rd=MT (Fv rec env0 (Er (k+i))) (Hy rec hp0 (Er (k+i))) o
 |[],k,rs,vc,e,h,_,hex,_,_=>by simp only[JH,yE,Wt]at hex;obtain⟨_,rfl,rfl,rfl⟩:=hex;simp
 |o::l,k,rs,vc,e,h,hl',hex,hvc,hrs=>by
  simp only[JH]at hex;split at hex
  ·simp at hex
  rename_i v1 r1 ws1 hex1;split at hex
  ·simp at hex
  rename_i v2 e2 h2 rs2 hex2;simp only[yE,Wt]at hex;obtain⟨rfl,rfl,rfl,rfl⟩:=hex;have h0:=hrs 0 (by simp);simp only[List.getElem?_cons_zero,yE,OQ]at h0;have hd:(rec k).d=o.d:=by rw[<-h0]
  have hr:(rec k).r=r1:=by rw[<-h0]
  have hw':(rec k).ws=ws1:=by rw[<-h0]
  have hrd:(rec k).rd=MT (Fv rec env0 (Er k)) (Hy rec hp0 (Er k)) o:=by
   rw[<-h0];cases hk:ht o.k with
   |true=>rfl
   |false=>simp only[tN];exact(PY hk).symm
  have ih:=LL (all:=all) (rec:=rec) (env0:=env0) (hp0:=hp0) l (k+1) rs2 v2 e2 h2 (λi=>by have:=hl' (i+1);simpa[t6,P9 1 i]using this)
   (by simp only[Er,Fv,Hy,hd,hr,hw'];exact hex2) hvc.2 (λi hi=>by have:=hrs (i+1) (by simp;omega);simpa[t6,P9 1 i]using this)
  obtain⟨i1,i2,i3⟩:=ih;refine⟨by rw[i1];simp[t6,P9 1],by rw[i2];simp[t6,P9 1],λi p hp=>?_⟩;cases i with
  |zero=>simp at hp;subst hp;exact⟨v1,hvc.1,by rw[OQ,hr,hw'];exact hex1,hd,hrd⟩
  |succ i=>have:=i3 i p (by simpa using hp);rw[show k+(i+1)=k+1+i by omega];exact this
structure Good(P:Program)(X:Nat->Au->Hp->Option (Prop×AV×Hp))(nt n:Nat)(ops:Array Oper)(B:List Nat)(rec:Nat->Rec)(env0:Au)(hp0:Hp)(ao:Nat->AOp):Prop where
 cg:∀i env env' hp hp',(∀t∈L7 (ao i),lk env t=lk env' t)->Ag hp hp' (MT env hp (ao i))->X i env hp=X i env' hp'
 sz:n<=ops.size
 bef:∀i o,ops[i]? =some o->(∀e∈DN o,e<i)/\B.getD i 0=IA B (DN o)
 op:∀i o,ops[i]? =some o->KA P nt ops o=some (ao i)
 run:∀i,i<n->∃vc:Prop,vc/\X i (Fv rec env0 (Er i)) (Hy rec hp0 (Er i))=some (vc,(rec i).r,(rec i).ws)/\(rec i).d=(ao i).d/\(rec i).rd=MT (Fv rec env0 (Er i)) (Hy rec hp0 (Er i)) (ao i)
 tmp:∀k j,k<j->j<n->(B.getD j 0).testBit k=true\/Ji (ao k) (ao j)=true
 mem:∀k j,k<j->j<n->(B.getD j 0).testBit k=true\/SW (rec k) (rec j)=true\/((rec k).ws=[]/\(rec j).ws=[])\/((rec j).ws=[]/\(rec j).rd=[])\/((rec k).ws=[]/\(rec k).rd=[])
structure Done(n:Nat)(B:List Nat)(L:List Nat):Prop where
 lt:∀i∈L,i<n
 cl:∀j∈L,∀k,(B.getD j 0).testBit k=true->k∈L
 pw:L.Pairwise λa b=>a≠b/\¬(B.getD b 0).testBit a=true
section
variable{P:Program}{X:Nat->Au->Hp->Option (Prop×AV×Hp)}{nt n:Nat}{ops:Array Oper}{B:List Nat}{rec:Nat->Rec}{env0:Au}{hp0:Hp}{ao:Nat->AOp}{L:List Nat}
theorem Good.bit(G:Good P X nt n ops B rec env0 hp0 ao){i k:Nat}{o:Oper}(ho:ops[i]? =some o):(B.getD i 0).testBit k=true↔∃e∈DN o,k=e\/(B.getD e 0).testBit k=true:=by rw[(G.bef i o ho).2,IA,Me];simp
theorem Good.all(G:Good P X nt n ops B rec env0 hp0 ao){L:List Nat}(hD:Done n B L){j:Nat}{o:Oper}(ho:ops[j]? =some o)(he:∀e∈DN o,e∈L):∀k,(B.getD j 0).testBit k=true->k∈L:=by
 intro k hk;obtain⟨e,h1,h2⟩:=(G.bit ho).1 hk;rcases h2 with rfl|h2
 ·exact he _ h1
 ·exact hD.cl e (he e h1) k h2
theorem Done.cons(hD:Done n B L){j:Nat}(hj:j<n)(hn:j∉L)(ha:∀k,(B.getD j 0).testBit k=true->k∈L):Done n B (j::L) where
 lt i hi:=by rcases lJ.1 hi with rfl|h;exact hj;exact hD.lt i h
 cl i hi k hk:=by
  rcases lJ.1 hi with rfl|h
  ·exact tO _ (ha k hk)
  ·exact tO _ (hD.cl i h k hk)
 pw:=yI.2 ⟨λb hb=>⟨λe=>hn (e▸hb),λh=>hn (hD.cl b hb j h)⟩,hD.pw⟩
theorem Done.sorted(hD:Done n B L){p:Nat->Bool}(hp:∀k j,k<j->j<n->p k=true->p j=true->(B.getD j 0).testBit k=true):(L.filter p).Pairwise (·>·):=by
 rw[List.pairwise_filter];refine hD.pw.imp_of_mem ?_;intro a b ha hb ⟨h1,h2⟩ pa pb;rcases Nat.lt_trichotomy a b with h|h|h
 ·exact absurd (hp a b h (hD.lt b hb) pa pb) h2
 ·exact absurd h h1
 ·exact h
theorem Good.env_pairs(G:Good P X nt n ops B rec env0 hp0 ao)(t:Nat):∀k j,k<j->j<n->decide ((rec k).d=some t)=true->decide ((rec j).d=some t)=true->(B.getD j 0).testBit k=true:=by
 intro k j hk hj h1 h2;simp only[eR]at h1 h2;obtain⟨_,_,_,d1,_⟩:=G.run k (by omega);obtain⟨_,_,_,d2,_⟩:=G.run j hj;rcases G.tmp k j hk hj with h|h
 ·exact h
 ·exact absurd (d2▸h2) ((N9 h).1 t (d1▸h1)).2
theorem Good.hp_pairs(G:Good P X nt n ops B rec env0 hp0 ao)(l:Loc):∀k j,k<j->j<n->H6 l (rec k).ws=true->H6 l (rec j).ws=true->(B.getD j 0).testBit k=true:=by
 intro k j hk hj h1 h2;rcases G.mem k j hk hj with h|h|h|h|h
 ·exact h
 ·rw[((Pe h l).1 h1).2]at h2;simp at h2
 ·rw[h.1]at h1;simp[H6]at h1
 ·rw[h.1]at h2;simp[H6]at h2
 ·rw[h.1]at h1;simp[H6]at h1
theorem Good.same(G:Good P X nt n ops B rec env0 hp0 ao){L:List Nat}(hD:Done n B L){j:Nat}(hj:j<n)(hn:j∉L)(ha:∀k,(B.getD j 0).testBit k=true->k∈L):X j (Fv rec env0 L) (Hy rec hp0 L)=X j (Fv rec env0 (Er j)) (Hy rec hp0 (Er j)):=by
 symm;refine G.cg j _ _ _ _ (λt ht=>?_) λt ht l hl'=>?_
 ·rw[JD L,JD (Er j)];rw[MU (j:=j) (hD.sorted (G.env_pairs t)) λi hi=>?_];simp only[eR]at hi;constructor
  ·intro hL;rcases Nat.lt_trichotomy i j with h|h|h
   ·exact h
   ·subst h;exact absurd hL hn
   ·rcases G.tmp j i h (hD.lt i hL)with g|g
    ·exact absurd (hD.cl i hL j g) hn
    ·obtain⟨_,_,_,d1,_⟩:=G.run i (hD.lt i hL);exact absurd ht ((N9 g).2 t (d1▸hi))
  ·intro h;rcases G.tmp i j h hj with g|g
   ·exact ha i g
   ·obtain⟨_,_,_,d1,_⟩:=G.run i (by omega);exact absurd ht ((N9 g).1 t (d1▸hi)).1
 ·obtain⟨_,_,_,_,hrd⟩:=G.run j hj;rw[<-hrd]at ht;rw[Jj L,Jj (Er j)];rw[MU (j:=j) (hD.sorted (G.hp_pairs l)) λi hi=>?_];constructor
  ·intro hL;rcases Nat.lt_trichotomy i j with h|h|h
   ·exact h
   ·subst h;exact absurd hL hn
   ·rcases G.mem j i h (hD.lt i hL)with g|g|g|g|g
    ·exact absurd (hD.cl i hL j g) hn
    ·exact absurd hl' ((Pe g l).2 hi t ht)
    ·rw[g.2]at hi;simp[H6]at hi
    ·rw[g.1]at hi;simp[H6]at hi
    ·rw[g.2]at ht;simp at ht
  ·intro h;rcases G.mem i j h hj with g|g|g|g|g
   ·exact ha i g
   ·exact absurd hl' (((Pe g l).1 hi).1 t ht)
   ·rw[g.1]at hi;simp[H6]at hi
   ·rw[g.2]at ht;simp at ht
   ·rw[g.1]at hi;simp[H6]at hi
theorem Good.fin(G:Good P X nt n ops B rec env0 hp0 ao){L:List Nat}(hD:Done n B L)(hall:∀i,i<n->i∈L):(∀t,lk (Fv rec env0 L) t=lk (Fv rec env0 (Er n)) t)/\∀l,hl (Hy rec hp0 L) l=hl (Hy rec hp0 (Er n)) l:=by
 refine⟨λt=>?_,λl=>?_⟩
 ·rw[JD L,JD (Er n)];rw[MU (j:=n) (hD.sorted (G.env_pairs t)) λi _=>⟨hD.lt i,hall i⟩]
 ·rw[Jj L,Jj (Er n)];rw[MU (j:=n) (hD.sorted (G.hp_pairs l)) λi _=>⟨hD.lt i,hall i⟩]
theorem QS{nt t:Nat}:∀(L:List Nat),(∀i∈L,∀d,(rec i).d=some d->d<nt)->nt<=t->lk (Fv rec env0 L) t=lk env0 t
 |[],_,_=>rfl
 |i::L,h,ht=>by simp only[Fv];rw[G2 (h i (by simp)) ht];exact QS L (λj hj=>h j (by simp[hj])) ht
theorem Good.far(G:Good P X nt n ops B rec env0 hp0 ao)(i:Nat)(hi:i<n):∀d,(rec i).d=some d->d<nt:=by obtain⟨_,_,_,d1,_⟩:=G.run i hi;rw[d1];have hs:i<ops.size:=u9 hi G.sz;exact Gp (G.op i ops[i] (fC hs))
def left(L:List Nat):Nat->Nat|0=>0|n+1=>left L n+if n∈L then 0 else 1
theorem Pf{L:List Nat}:∀{n:Nat},left L n=0->∀i,i<n->i∈L
 |0,_,i,h=>by omega
 |n+1,h,i,hi=>by
  simp only[left]at h;by_cases hn:n∈L
  ·rcases VN i n with h'|h'
   ·exact Pf (by omega) i h'
   ·rw[show i=n by omega];exact hn
  ·rw[eW hn]at h;omega
theorem Pg{L:List Nat}{j:Nat}:∀{n:Nat},n<=j->left (j::L) n=left L n
 |0,_=>rfl
 |n+1,h=>by
  have:n≠j:=by omega
  have ih:left (j::L) n=left L n:=Pg (by omega);simp only[left,ih,lJ,this,false_or]
theorem Ph{L:List Nat}{j:Nat}(hn:j∉L):∀{n:Nat},j<n->left (j::L) n+1=left L n
 |0,h=>by omega
 |n+1,h=>by
  simp only[left];by_cases e:n=j
  ·subst e;rw[Pg (fA _),eX (by simp),eW hn]
  ·have:=Ph hn (n:=n) (by omega);have e2:(n∈j::L)↔n∈L:=by simp[e]
   simp only[e2];omega
theorem Oc:∀n,left [] n=n
 |0=>rfl
 |n+1=>by simp[left,Oc n]
theorem Zc(L:List Nat):∀n,(∀i,i<n->i∈L)\/∃j,j<n/\j∉L/\∀i,i<j->i∈L
 |0=>.inl λi h=>by omega
 |n+1=>by
  rcases Zc L n with h|⟨j,h1,h2⟩
  ·by_cases hn:n∈L
   ·left;intro i hi;rcases VN i n with h'|h'
    ·exact h i h'
    ·rw[show i=n by omega];exact hn
   ·exact .inr ⟨n,by omega,hn,h⟩
  ·exact .inr ⟨j,by omega,h2⟩
theorem Ii{listed:Array Bool}{L:List Nat}(hsz:listed.size=ops.size)(hli:∀i,i<ops.size->(listed.getD i true=true↔i∈L)/\(listed.getD i false=true↔i∈L))(hb:∀i o,ops[i]? =some o->∀e∈DN o,e<i)(i:Nat):i∈Region.ready .any ops listed↔i<ops.size/\i∉L/\∃o,ops[i]? =some o/\∀e∈DN o,e∈L:=by
 unfold Region.ready;rw[uQ,Sv];constructor
 ·rintro⟨h1,h2⟩;have ho:ops[i]? =some ops[i]:=fC h1;rw[ho]at h2;simp only[t8,mN,lP,zT,Array.all_eq_true']at h2;refine⟨h1,λh=>?_,ops[i],ho,λe he=>?_⟩
  ·rw[((hli i h1).1).2 h]at h2;simp at h2
  ·have hlt:=hb i _ ho e he;simp only[DN,tI,uQ]at he;obtain⟨x,⟨hx,hbx⟩,rfl⟩:=he;have:=h2.2 x (by simpa using hx);rw[hbx]at this;simp only[T8,Bool.false_or]at this;exact((hli x.on (by omega)).2).1 this
 ·rintro⟨h1,h2,o,ho,h3⟩;refine⟨h1,?_⟩;rw[ho];simp only[t8,mN,lP,zT,Array.all_eq_true'];refine⟨?_,λx hx=>?_⟩
  ·cases hc:listed.getD i true with
   |false=>rfl
   |true=>exact absurd (((hli i h1).1).1 hc) h2
  ·cases hbx:Region.binds .any x with
   |false=>simp
   |true=>
    have hm:x.on∈DN o:=by simp only[DN,tI,uQ];exact⟨x,⟨by simpa using hx,hbx⟩,rfl⟩
    have:=hb i o ho _ hm;simp only[T8,Bool.false_or];exact((hli x.on (by omega)).2).2 (h3 _ hm)
variable{V:Ctx}{cnt bs:Nat}{Q:AE->St->Prop}
theorem Inv.congr{U:Cf}{env env':Au}{hp hp':Hp}{a:Act}{nt:Nat}{hb:HB}(h:Inv U env hp a nt hb)(he:∀t,lk env t=lk env' t)(hh:∀l,hl hp l=hl hp' l):Inv U env' hp' a nt hb where
 h:=
  {ln:=λn=>by rw[h.h.ln n];simp only[lenOf,hh]
   cel:=λn j c hc=>h.h.cel n j c (by rw[hh];exact hc)
   arr:=λn sz live rows d hc=>h.h.arr n sz live rows d (by rw[hh];exact hc)
   inj:=λp q b hp hq=>h.h.inj p q b (by simpa only[Owns,hh]using hp) (by simpa only[Owns,hh]using hq)
   lt:=h.h.lt
   ou:=h.h.ou
   dis:=h.h.dis}
 t:=λt=>by rw[<-he];exact h.t t
 sz:=h.sz
 df:=(by rw[<-he (dk nt)];exact h.df)
theorem XL(stop:Nat->Prop)(G:Good V.P X V.nt n ops B rec env0 hp0 ao)(hz:ops.size=n)(hQ:(∀i,i<n->¬stop i)->Q .n ⟨Fv rec env0 (Er n),Hy rec hp0 (Er n),cnt+1⟩){σ0:Cf}(hG:V.G env0 σ0)(hop:∀(i:Nat) (o:Oper) (L:List Nat) (U:Cf) (a:Act) (K:Act->World->Prop),i<n->i∉L->(∀j∈L,¬stop j)->Done n B L->(∀k,(B.getD i 0).testBit k=true->k∈L)->ops[i]? =some o->Evo σ0 U->Inv U (Fv rec env0 L) (Hy rec hp0 L) a V.nt V.hb->(∀m,U.al m->m.2<=cnt\/∃i∈L,m=(bs+i,cnt+1))->(¬stop i->∀a' σ',Evo U σ'->Inv σ' (Ca (ao i).d (rec i).r (Fv rec env0 L)) ((rec i).ws++Hy rec hp0 L) a' V.nt V.hb->(∀m,σ'.al m->U.al m\/m=(bs+i,cnt+1))->K a' σ'.w)->wpOpIn V.F 0 V.P ops (lift V σ0 Q) i K a U.w):∀(fuel:Nat)(L:List Nat)(listed:Array Bool)(U:Cf)(a:Act),(∀j∈L,¬stop j)->Done n B L->listed.size=ops.size->(∀i,i<ops.size->(listed.getD i true=true↔i∈L)/\(listed.getD i false=true↔i∈L))->left L n=fuel->Evo σ0 U->Inv U (Fv rec env0 L) (Hy rec hp0 L) a V.nt V.hb->(∀m,U.al m->m.2<=cnt\/∃i∈L,m=(bs+i,cnt+1))->wpAnyIn V.F 0 V.P .any ops (lift V σ0 Q) fuel listed a U.w:=by
 intro fuel;have fin:∀(L:List Nat)(listed:Array Bool)(U:Cf)(a:Act),(∀j∈L,¬stop j)->Done n B L->listed.size=ops.size->(∀i,i<ops.size->(listed.getD i true=true↔i∈L)/\(listed.getD i false=true↔i∈L))->Evo σ0 U->Inv U (Fv rec env0 L) (Hy rec hp0 L) a V.nt V.hb->(∀m,U.al m->m.2<=cnt\/∃i∈L,m=(bs+i,cnt+1))->(∀i,i<n->i∈L)->lift V σ0 Q .normal a U.w:=by
  intro L listed U a hst hD h1 h2 he hI hal hall;obtain⟨e1,e2⟩:=G.fin hD hall;refine⟨U,_,.n,rfl,V.ofE he,⟨hI.congr e1 e2,λm hm=>?_,V.g hG he λt ht=>.inr (QS (Er n) (λi hi=>G.far i (Gy.1 hi)) ht)⟩,rfl,hQ λi hi=>hst i (hall i hi)⟩;rcases hal m hm with h|⟨i,_,rfl⟩
  ·exact Nat.le_succ_of_le h
  ·exact fA _
 have none:∀(L:List Nat)(listed:Array Bool),listed.size=ops.size->(∀i,i<ops.size->(listed.getD i true=true↔i∈L)/\(listed.getD i false=true↔i∈L))->Region.ready .any ops listed=[]->∀i,i<n->i∈L:=by
  intro L listed h1 h2 hr;rcases Zc L n with h|⟨j,h3,h4,h5⟩
  ·exact h
  ·exfalso;have hj:j<ops.size:=by rw[hz];exact h3
   have ho:ops[j]? =some ops[j]:=fC hj;have:j∈Region.ready .any ops listed:=(Ii h1 h2 (λi o ho=>(G.bef i o ho).1) j).2 ⟨hj,h4,_,ho,λe he=>h5 e ((G.bef j _ ho).1 e he)⟩;rw[hr]at this;simp at this
 induction fuel with
 |zero=>
  intro L listed U a hst hD h1 h2 hf he hI hal;have hall:=Pf hf;refine⟨?_,fin L listed U a hst hD h1 h2 he hI hal hall⟩;cases hr:Region.ready .any ops listed with
  |nil=>rfl
  |cons x xs=>
   exfalso;have hx:x∈Region.ready .any ops listed:=by rw[hr];simp
   obtain⟨g1,g2,_⟩:=(Ii h1 h2 (λi o ho=>(G.bef i o ho).1) x).1 hx;exact g2 (hall x (by rw[<-hz];exact g1))
 |succ fuel ih=>
  intro L listed U a hst hD h1 h2 hf he hI hal;refine⟨λhr=>fin L listed U a hst hD h1 h2 he hI hal (none L listed h1 h2 hr),λi hi=>?_⟩;obtain⟨g1,g2,o,ho,g3⟩:=(Ii h1 h2 (λi o ho=>(G.bef i o ho).1) i).1 hi;have hin:i<n:=by rw[<-hz];exact g1
  have ha:=G.all hD ho g3;obtain⟨_,_,_,hd,_⟩:=G.run i hin;refine hop i o L U a _ hin g2 hst hD ha ho he hI hal λhs a' σ' e' hI' hal'=>?_
  refine ih (i::L) _ σ' a' (λj hj=>by rcases lJ.1 hj with rfl|hj;exact hs;exact hst j hj) (hD.cons hin g2 ha) (by simp[h1]) (λk hk=>?_) ?_ (he.trans e') ?_ λm hm=>?_
  ·by_cases e:i=k
   ·subst e;have:i<listed.size:=by omega
    simp[Array.getD,this]
   ·have hk':k<listed.size:=by omega
    have q1:(listed.setIfInBounds i true).getD k true=listed.getD k true:=by simp[Array.getD,hk',Array.getElem_setIfInBounds,e]
    have q2:(listed.setIfInBounds i true).getD k false=listed.getD k false:=by simp[Array.getD,hk',Array.getElem_setIfInBounds,e]
    have q3:k∈i::L↔k∈L:=by rw[lJ];exact⟨λh=>h.resolve_left λh=>e h.symm,.inr⟩
    rw[q1,q2,q3];exact h2 k hk
  ·have:=Ph g2 hin;omega
  ·simp only[Fv,Hy,hd];exact hI'
  ·rcases hal' m hm with h|rfl
   ·rcases hal m h with h|⟨k,hk,e⟩
    ·exact .inl h
    ·exact .inr ⟨k,tO _ hk,e⟩
   ·exact .inr ⟨i,by simp,rfl⟩
end
theorem Kk{X:Nat->Au->Hp->AOp->Option (Prop×AV×Hp)}:∀{l:List AOp}{k:Nat}{env:Au}{hp:Hp}{vc:Prop}{e:Au}{h:Hp}{rs:List Rec},JH X k l env hp=some (vc,e,h,rs)->rs.length=l.length
 |[],_,_,_,_,_,_,_,hex=>by simp[JH]at hex;simp[hex.2.2.2]
 |o::l,k,env,hp,vc,e,h,rs,hex=>by
  simp only[JH]at hex;split at hex
  ·simp at hex
  split at hex
  ·simp at hex
  rename_i hex2;simp only[yE,Wt]at hex;obtain⟨_,_,_,rfl⟩:=hex;simp[Kk hex2]
theorem E5{P:Program}{nt:Nat}{ops:Array Oper}:∀{l:List Oper}{xs:List AOp},G8 P nt ops l=some xs->xs.length=l.length/\∀(i:Nat)(o:Oper),l[i]? =some o->∃x,xs[i]? =some x/\KA P nt ops o=some x
 |[],xs,h=>by simp[G8]at h;subst h;simp
 |p::l,xs,h=>by
  simp only[G8]at h;split at h
  ·rename_i x ys hx hys;simp at h;subst h;obtain⟨h1,h2⟩:=E5 hys;refine⟨by simp[h1],λi o ho=>?_⟩;cases i with
   |zero=>simp at ho;subst ho;exact⟨x,rfl,hx⟩
   |succ i=>exact h2 i o (by simpa using ho)
  ·simp at h
theorem Od{ops:Array Oper}{l:List AOp}{un:List (Nat×Nat)}(h:RM ops l=some un):∃B,PW B 0 ops.toList=true/\XB B l 0 l=true/\un=bE B l 0 l:=by
 unfold RM at h;rw[TA]at h;generalize (CheckFast.beforeF ops).toList=B at h;refine⟨B,?_⟩;cases h1:PW B 0 ops.toList<;>cases h2:XB B l 0 l<;>simp[h1,h2]at h
 exact⟨rfl,rfl,h.symm⟩
theorem Zd{k:AK}(h:ht k=false):hw k=false:=by cases k<;>simp[ht,hw]at h⊢
theorem At.drawn{V:Ctx}{U:Cf}{s:St}{a:Act}(h:At V U s a)(d:Nat):∃σ',σ'.w={U.w with drawn:=d}/\Evo U σ'/\At V σ' s a:=by
 obtain⟨⟨h1,h2,h3,h4⟩,h5,h6⟩:=h
 let Z:Cf:={U with w:={U.w with drawn:=d}}
 have e:Evo U Z:=⟨λ_ h=>⟨h,rfl⟩,λ_ _ l h=>⟨l,h,fA _,λ_=>rfl⟩,λ_ _ h h'=>⟨h,h'⟩,rfl,fA _,⟨rfl,rfl⟩⟩
 refine⟨Z,rfl,e,⟨⟨h1.ln,λn j c hc=>?_,λn sz live rows d hc=>?_,h1.inj,h1.lt,h1.ou,h1.dis⟩,?_,h3,h4.mono e⟩,h5,V.g h6 e λ_ _=>.inr rfl⟩
 ·have kk:=h1.cel n j c hc;exact kk.keep e kk.2.1 rfl
 ·exact(h1.arr n sz live rows d hc).keep e rfl λ_ _ _ _ _ _ hM=>⟨hM,rfl⟩
 ·exact λt=>(h2 t).mono e
variable{V:Ctx}
theorem XM(hΓ:V.OK){rid:Nat}{ops:List AOp}{un:List (Nat×Nat)}{Q:AE->St->Prop}{s:St}{vc:Prop}{env:Au}{hp:Hp}{recs:List Rec}(hex:N7 V.S (s.cnt+1) (100*rid) ops s.env s.hp=some (vc,env,hp,recs))(hvc:vc)(hun:N8 recs un=true)(hQ:Q .n ⟨env,hp,s.cnt+1⟩):As V (.drw rid ops un) Q s:=by
 intro code hc U a hA;cases code with
 |region id ops' d=>
  simp only[cCode]at hc;obtain⟨l,hx,⟨_,e⟩|⟨rfl,hf,un',hu,e⟩⟩:=Cz hc
  ·cases e
  ·cases e
   refine wpIn_region_any hf ?_;obtain⟨B,b1,b2,rfl⟩:=Od hu;obtain⟨c1,c2⟩:=E5 hx;have hlen:ops.length=ops'.size:=by simpa using c1
   rw[Vt]at hex;have hrl:=Kk hex;have hop:∀i o,ops'[i]? =some o->∃x,ops[i]? =some x/\KA V.P V.nt ops' o=some x:=λi o ho=>c2 i o (by simpa using ho)
   have hao:∀i x,ops[i]? =some x->ops.getD i default=x:=λi x h=>by simp[eT,h]
   have hsp:=LL (rec:=λi=>recs.getD i default) (env0:=s.env) (hp0:=s.hp) (all:=ops) (bs:=100*rid) ops 0 recs vc env hp (λi=>by simp) hex hvc (λi hi=>by
    have:i<recs.length:=by omega
    simp[eT,this])
   simp only[s6]at hsp;obtain⟨e1,e2,run⟩:=hsp;have get:∀i,i<ops.length->ops[i]? =some (ops.getD i default):=λi hi=>by simp[eT,hi]
   have hws:∀i,i<ops.length->hw (ops.getD i default).k=false->(recs.getD i default).ws=[]:=λi hi h=>by obtain⟨_,_,g,_⟩:=run i _ (get i hi);exact QR h g
   have hrd:∀i,i<ops.length->ht (ops.getD i default).k=false->(recs.getD i default).rd=[]:=λi hi h=>by obtain⟨_,_,_,_,g⟩:=run i _ (get i hi);rw[g];exact PY h
   have G:Good V.P (λi e h=>JM V.S (100*rid+i,s.cnt+1) e h (ops.getD i default)) V.nt ops.length ops' B (λi=>recs.getD i default) s.env s.hp λi=>ops.getD i default:=
    {cg:=λi e e' h h' ht hh=>N6 ht hh
     sz:=Nat.le_of_eq hlen
     bef:=λi o ho=>by have:=LI b1 i o (by simpa using ho);simpa using this
     op:=λi o ho=>by obtain⟨x,h1,h2⟩:=hop i o ho;simp only[hao i x h1];exact h2
     run:=λi hi=>run i _ (get i hi)
     tmp:=λk j hk hj=>by
      have h1:=Oa b2 j _ (get j hj);rw[s6]at h1;have h2:=LJ h1 k (ops.getD k default) (by rw[zQ,eX hk];exact get k (by omega))
      rwa [s6]at h2
     mem:=λk j hk hj=>by
      have h2:=LK (B:=B.getD j 0) (j:=j) (o:=ops.getD j default) (l:=ops.take j) (k:=0) k (ops.getD k default) (by rw[zQ,eX hk];exact get k (by omega));rw[s6]at h2;rcases h2 with h|h|h
      ·exact .inl h
      ·right;right;simp only[Fj,KV]at h;have hk':k<ops.length:=by omega
       rcases h.1 with g1|g1
       ·rcases h.2 with g2|g2
        ·exact .inr (.inr ⟨hws k hk' g1,hrd k hk' g2⟩)
        ·exact .inl ⟨hws k hk' g1,hws j hj g2⟩
       ·exact .inr (.inl ⟨hws j hj (Zd g1),hrd j hj g1⟩)
      ·exact .inr (.inl (Pd hun k j (Ob (all:=ops) (j:=0) j _ (get j hj) _ (by rw[s6];exact h))))}
   obtain⟨σ',w1,w2,w3⟩:=hA.drawn (U.w.drawn+1);rw[<-w1];refine XL (bs:=100*rid) (λ_=>False) G hlen.symm (λ_=>by rw[<-e1,<-e2];exact hQ) hA.2.2 (λi o L σ1 a1 K hin g2 _ hD ha ho _ hI hal hK=>?_) ops'.size [] _ σ' a (by simp) ⟨by simp,by simp,.nil⟩ (by simp) (λi hi=>?_) (by rw[Oc,hlen]) w2 w3.1 λm hm=>.inl (w3.2.1 m hm)
   ·obtain⟨vc,hvc,hex,hd,_⟩:=G.run i hin;rw[<-G.same hD hin g2 ha]at hex;refine Ki hΓ.S hΓ.F ho (G.op i o ho) hI ⟨λh=>?_,s.cnt+1,λm hm=>by rcases hal m hm with h|⟨k,_,rfl⟩;exact Nat.le_succ_of_le h;exact fA _⟩ hex hvc (hK not_false);rcases hal _ h with h|⟨k,hk,e⟩
    ·exact absurd h (Nat.not_succ_le_self s.cnt)
    ·simp only[Wt,Nat.add_left_cancel_iff,and_true]at e;exact g2 (e▸hk)
   ·simp[Array.getD,hi]
 |seq x y=>simp only[cCode]at hc;split at hc<;>simp at hc
 |cond c x y=>simp only[cCode]at hc;split at hc<;>simp at hc
 |rangeFunc f ps x y=>simp only[cCode]at hc;split at hc<;>simp at hc
 |_=>simp[cCode]at hc
theorem HY(hΓ:V.OK){rid:Nat}{ops:List AOp}{un:List (Nat×Nat)}{Q:AE->St->Prop}{e e':Au}{h h':Hp}{c:Nat}{vc:Prop}{recs:List Rec}(hex:N7 V.S (c+1) (100*rid) ops e h=some (vc,e',h',recs))(hun:N8 recs un=true)(hvc:vc)(hQ:Q .n ⟨e',h',c+1⟩):As V (.drw rid ops un) Q ⟨e,h,c⟩:=XM hΓ hex hvc hun hQ
theorem GI(hΓ:V.OK){rid:Nat}{ops:List AOp}{un:List (Nat×Nat)}{b:AC}{Q:AE->St->Prop}{e e':Au}{h h':Hp}{c:Nat}{vc:Prop}{recs:List Rec}(hex:N7 V.S (c+1) (100*rid) ops e h=some (vc,e',h',recs))(hun:N8 recs un=true)(hvc:vc)(hQ:As V b Q ⟨e',h',c+1⟩):As V (.seq (.drw rid ops un) b) Q ⟨e,h,c⟩:=Ez (XM hΓ hex hvc hun hQ)
