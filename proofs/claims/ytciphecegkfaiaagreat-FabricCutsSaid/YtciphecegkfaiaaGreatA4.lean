import Derived.Test.YtciphecegkfaiaaGreatA2
import Derived.RangeFuncRecord
import Derived.CheckFast
namespace Go.Proofs.YtciphecegkfaiaaGreat.Am
set_option linter.unusedSimpArgs false
set_option linter.unusedVariables false
open Go
def Wide (F:Fence):Prop:=F=Fence.wide∨∃l,F=Fence.wide.inRound l
theorem Wide.fn {F:Fence} (h:Wide F) (f:FuncId):F.fn f:=by
 rcases h with rfl|⟨l,rfl⟩<;>trivial
theorem Wide.depth {F:Fence} (h:Wide F):F.depth=none:=by
 rcases h with rfl|⟨l,rfl⟩<;>rfl
theorem Wide.calls {F:Fence} (h:Wide F) {n:Nat} {P:Program} {f:FuncId} {args:Array Value} {w:World} {R:Ending→World→Prop} (hc:Calls P f args w R):CallsIn F n P f args w R:=by
 rcases h with rfl|⟨l,rfl⟩
 ·exact callsIn_wide.2 hc
 ·exact(callsIn_wide.2 hc:CallsIn Fence.wide n P f args w R)
section
variable {P:Program} {F:Fence} {S:Tab}
theorem IF (hF:Wide F) {n:Nat} {ops:Array Oper} {Q:Exit→Act→World→Prop} {i:Nat} {K:Act→World→Prop} {o:Oper} {a:Act} {σ:Cf} {nm:Nm} {hp':Hp} {r:AV} (hi:ops[i]? =some o) (hno:∀c,o.op≠.defer c)
  (hw:Region.wanted o (yielded ops a.tmps)=true) (hst:Step P o a σ nm hp' r) (hK:∀v σ',Next σ nm hp' σ'.w σ'→Rep σ' r v→K (a.put o.dst v) σ'.w):wpOpIn F n P ops Q i K a σ.w:=by
 unfold wpOpIn
 simp only[hi,hw,if_true]
 refine⟨fun f _=>hF.fn f, ?_⟩
 rw[Oper.semAt_eq F.round a.eval o hno]
 rcases hst with⟨v,w',σ',hr,hn,hv⟩|⟨f,args,hr,hc⟩
 ·have:=hn.w;subst this
  rcases hr with hr|⟨hr,rfl⟩
  ·rw[hr];exact hK v σ' hn hv
  ·rw[hr];exact hK undef σ' hn hv
 ·rw[hr]
  refine⟨fun h=>by simp[hF.depth] at h,hF.calls (hc.mono ?_)⟩
  rintro e w' ⟨v,σ',rfl,hn,hv⟩
  have:=hn.w;subst this
  exact hK v σ' hn hv
abbrev HB:=Nat×Bool
def Mark (n:Nat) (σ:Cf) (d:Deferred):Prop:=∃r,d={target:= .collected r,args:= #[]}∧n≤r∧σ.w.heap[r]? =some (.deferred (some []))∧¬σ.M r∧¬σ.O r
def DfK (σ:Cf) (b:Bool) (x:AV) (ms dd:List Deferred):Prop:=
 (b=false→dd=[])∧(b=true→x= .gd false (.tup [])→dd=[])∧(b=true→∀f ys,x= .gd false (.clo (.func f) [] ys)→∃vs,RepL σ ys vs∧dd=[{target:= .fn (.func f) vs.toArray,args:= #[]}])∧(b=true→ms=[])
def dk (nt:Nat):Nat:=nt+2000000
theorem LB {t nt:Nat} {x:AV} {e:Env} (h:t<nt):lk ((t,x)::e) (dk nt)=lk e (dk nt):=by
 have hne:¬t=dk nt:=fun e=>absurd (e▸h:dk nt<nt) (Nat.not_lt.2 (Nat.le_add_right _ _))
 simp only[lk,if_neg hne]
structure DOK (hb:HB) (σ:Cf) (x:AV) (ds:List Deferred):Prop where
 sp:∃ms dd,ds=ms++dd∧(∀d∈ms,Mark hb.1 σ d)∧ms.Pairwise (fun a b=>a.target≠b.target)∧DfK σ hb.2 x ms dd
 le:hb.1≤σ.w.heap.size
 gl:Gl σ
theorem DOK.all {hb:HB} {σ:Cf} {x:AV} {ds:List Deferred} (h:DOK hb σ x ds) (hn:hb.2=false):∀d∈ds,∃r,d={target:= .collected r,args:= #[]}∧hb.1≤r∧σ.w.heap[r]? =some (.deferred (some []))∧¬σ.M r∧¬σ.O r:=by
 obtain⟨ms,dd,rfl,h2,_,h3,_⟩:=h.sp
 rw[h3 hn,List.append_nil]
 exact h2
theorem DOK.nd {hb:HB} {σ:Cf} {x:AV} {ds:List Deferred} (h:DOK hb σ x ds) (hn:hb.2=false):ds.Pairwise fun a b=>a.target≠b.target:=by
 obtain⟨ms,dd,rfl,_,h3,h4,_⟩:=h.sp
 rw[h4 hn,List.append_nil]
 exact h3
theorem DOK.of {hb:HB} {σ:Cf} {x:AV} {ds:List Deferred} (hn:hb.2=false) (h1:∀d∈ds,∃r,d={target:= .collected r,args:= #[]}∧hb.1≤r∧σ.w.heap[r]? =some (.deferred (some []))∧¬σ.M r∧¬σ.O r)
  (h2:ds.Pairwise fun a b=>a.target≠b.target) (h3:hb.1≤σ.w.heap.size) (h4:Gl σ):DOK hb σ x ds:=⟨⟨ds,[],by rw[List.append_nil],h1,h2,fun _=>rfl,fun _ _=>rfl,fun e=>(by rw[hn] at e;cases e),fun e=>(by rw[hn] at e;cases e)⟩,h3,h4⟩
theorem DOK.of' {n:Nat} {σ:Cf} {x y:AV} {ds:List Deferred} (h:DOK (n,false) σ y ds):DOK (n,false) σ x ds:=DOK.of rfl (h.all rfl) (h.nd rfl) h.le h.gl
theorem DOK.un {hb:HB} {σ:Cf} {x y:AV} {ds:List Deferred} (h:DOK hb σ y ds) (hx:x= .un∨x=y):DOK hb σ x ds:=by
 rcases hx with rfl|rfl
 ·obtain⟨ms,dd,h1,h2,h3,h4,_,_,h5⟩:=h.sp
  exact⟨⟨ms,dd,h1,h2,h3,h4,fun _ e=>(by cases e),fun _ _ _ e=>(by cases e),h5⟩,h.le,h.gl⟩
 ·exact h
theorem Mark.mono {n:Nat} {σ σ':Cf} {d:Deferred} (h:Mark n σ d) (e:Evo σ σ'):Mark n σ' d:=by
 obtain⟨r,h1,h2,h3,h4,h5⟩:=h
 obtain⟨g1,g2⟩:=e.fro r _ h3 h4
 exact⟨r,h1,h2,g1,g2,by rw[e.out];exact h5⟩
theorem DfK.map {σ σ':Cf} {b:Bool} {x:AV} {ms dd:List Deferred} (h:DfK σ b x ms dd) (hr:∀ys vs,RepL σ ys vs→RepL σ' ys vs):DfK σ' b x ms dd:=
 ⟨h.1,h.2.1,fun hb f ys e=>let ⟨vs,h1,h2⟩:=h.2.2.1 hb f ys e;⟨vs,hr _ _ h1,h2⟩,h.2.2.2⟩
theorem DOK.mono {hb:HB} {σ σ':Cf} {x:AV} {ds:List Deferred} (h:DOK hb σ x ds) (e:Evo σ σ'):DOK hb σ' x ds where
 sp:=by obtain⟨ms,dd,h1,h2,h3,h4⟩:=h.sp;exact⟨ms,dd,h1,fun d hd=>(h2 d hd).mono e,h3,h4.map fun ys vs=>RepL.mono e ys vs⟩
 le:=Nat.le_trans h.le e.sz
 gl:=h.gl.mono e
theorem DOK.nil {n:Nat} {σ:Cf} {x:AV} (h:n≤σ.w.heap.size) (g:Gl σ):DOK (n,false) σ x []:=DOK.of rfl (by simp) .nil h g
structure Inv (σ:Cf) (env:Env) (hp:Hp) (a:Act) (nt:Nat) (hb:HB):Prop where
 h:HInv σ hp
 t:TInv σ env a
 sz:a.tmps.size=nt
 df:DOK hb σ (lk env (dk nt)) a.defers
theorem Act.size_put (a:Act) (d:Option Tmp) (v:Value):(a.put d v).tmps.size=a.tmps.size:=by
 cases d<;>simp[Act.put]
theorem Act.defers_put (a:Act) (d:Option Tmp) (v:Value):(a.put d v).defers=a.defers:=by
 cases d<;>rfl
theorem IG (hS:TabOK P S) (hF:Wide F) {n nt:Nat} {hb:HB} {ops:Array Oper} {Q:Exit→Act→World→Prop} {i:Nat} {K:Act→World→Prop} {o:Oper} {ao:AOp} {a:Act} {σ:Cf} {nm:Nm} {env:Env} {hp ws:Hp} {r:AV} {vc:Prop}
  (hi:ops[i]? =some o) (hc:cOp P nt ops o=some ao) (hI:Inv σ env hp a nt hb) (hnm:¬σ.al nm∧∃c,∀m,σ.al m→m.2≤c) (hex:Ig S nm env hp ao=some (vc,r,ws)) (hvc:vc)
  (hK:∀a' σ',Evo σ σ'→Inv σ' (BX ao.d r env) (ws++hp) a' nt hb→(∀m,σ'.al m→σ.al m∨m=nm)→K a' σ'.w):wpOpIn F n P ops Q i K a σ.w:=by
 unfold cOp at hc
 split at hc
 ·simp at hc
 rename_i g hg
 have hd:dOK nt o.dst=true∧ao=⟨o.dst,g,cK P o.op⟩:=by
  split at hc
  ·rename_i hd
   simp at hc
   exact⟨hd,hc.symm⟩
  ·simp at hc
 obtain⟨hd,rfl⟩:=hd
 have hno:∀{env':Env} {hp':Hp} {nm':Nm} {g':Bool} {x:Prop×AV×Hp},exK S env' hp' nm' g' (cK P o.op)=some x→∀c,o.op≠.defer c:=by
  intro env' hp' nm' g' x he c e
  rw[e] at he
  simp only[cK] at he
  split at he<;>simp[exK] at he
 have hdk:∀r',lk (BX o.dst r' env) (dk nt)=lk env (dk nt):=fun r'=>by
  cases ho:o.dst with
  |none=>rfl
  |some k=>
   rw[ho] at hd
   have:k<nt:=by simpa [dOK] using hd
   have hne:¬k=dk nt:=fun e=>absurd (e▸this:dk nt<nt) (Nat.not_lt.2 (Nat.le_add_right _ _))
   simp only[BX,lk,if_neg hne]
 simp only at hK
 have hput:∀k,o.dst=some k→k<a.tmps.size:=by
  intro k hk
  rw[hk] at hd
  rw[hI.sz]
  simpa [dOK] using hd
 have fin:∀(v:Value) (σ':Cf) (r':AV) (hp':Hp),Evo σ σ'→HInv σ' hp'→Rep σ' r' v→Inv σ' (BX o.dst r' env) hp' (a.put o.dst v) nt hb:=fun v σ' r' hp' e h hr=>
  ⟨h,(hI.t.mono e).put hput hr,by rw[Act.size_put];exact hI.sz,by rw[Act.defers_put,hdk];exact hI.df.mono e⟩
 unfold Ig at hex
 cases g with
 |none=>
  simp only at hex
  have hw:Region.wanted o (yielded ops a.tmps)=true:=E3 (ao:=none) hI.t hg rfl
  refine IF hF hi (hno hex) hw (Ml hS hI.df.gl hI.h hI.t hnm rfl hex hvc) fun v σ' hn hv=> ?_
  exact hK _ σ' hn.evo (fin v σ' r _ hn.evo hn.inv hv) hn.al
 |some tw=>
  simp only at hex
  split at hex
  ·simp at hex
  rename_i g hgv
  have hw:=E3 hI.t hg hgv
  have skip:g=false→∀r',Rep σ r' undef→r'=r→ws=[]→wpOpIn F n P ops Q i K a σ.w:=by
   intro hg0 r' hr e1 e2
   subst hg0 e1 e2
   unfold wpOpIn
   simp only[hi,hw,if_false,yF]
   exact⟨fun f _=>hF.fn f,hK _ σ (Evo.refl σ) (fin undef σ r' _ (Evo.refl σ) hI.h hr) fun m hm=> .inl hm⟩
  split at hex
  ·simp only[yE,Prod.mk.injEq] at hex
   obtain⟨rfl,rfl,rfl⟩:=hex
   exact skip hvc _ (by simp[Rep]) rfl rfl
  ·rename_i vc' r' hk
   simp only[yE,Prod.mk.injEq] at hex
   obtain⟨rfl,rfl,rfl⟩:=hex
   cases hgb:g with
   |false=>subst hgb;exact skip rfl _ (by simp[Rep]) rfl rfl
   |true=>
    subst hgb
    refine IF hF hi (hno hk) hw (Ml hS hI.df.gl hI.h hI.t hnm rfl hk (hvc rfl)) fun v σ' hn hv=> ?_
    exact hK _ σ' hn.evo (fin v σ' _ _ hn.evo hn.inv (by simp only[Rep];exact⟨fun _=>hv,by simp⟩)) hn.al
  ·rename_i vc' r' w0 ws' hk
   simp only[yE,Prod.mk.injEq] at hex
   obtain⟨rfl,rfl,rfl⟩:=hex
   obtain⟨rfl,hvc'⟩:=hvc
   refine IF hF hi (hno hk) hw (Ml hS hI.df.gl hI.h hI.t hnm rfl hk hvc') fun v σ' hn hv=> ?_
   exact hK _ σ' hn.evo (fin v σ' _ _ hn.evo hn.inv hv) hn.al
inductive AC where
 |nop
 |reg (rid:Nat) (ops:List AOp)
 |drw (rid:Nat) (ops:List AOp) (un:List (Nat×Nat))
 |seq (a b:AC)
 |cond (c:Opd) (a b:AC)
 |block (id:Nat) (a:AC)
 |loop (a:AC)
 |scp (a:AC)
 |rfun (f:Opd) (ps:List Nat) (asg body:AC)
 |exit (id:Nat)
 |ret
 deriving Inhabited
def FS (P:Program) (nt:Nat) (ops:Array Oper):List Oper→Option (List AOp)
 |[]=>some []
 |o::r=>match cOp P nt ops o,FS P nt ops r with
  |some x,some xs=>some (x::xs)
  |_,_=>none
def Ue (P:Program) (nt:Nat) (id:Nat) (ops:Array Oper) (d:Bool):Option AC:=
 match FS P nt ops ops.toList with
 |none=>none
 |some l=>match d with
  |false=>some (.reg id l)
  |true=>if P.follows .mixedOrders=true then(Oz ops l).map fun un=> .drw id l un else none
theorem Ca {P:Program} {nt id:Nat} {ops:Array Oper} {d:Bool} {c:AC} (h:Ue P nt id ops d=some c):∃l,FS P nt ops ops.toList=some l∧((d=false∧c= .reg id l)∨(d=true∧P.follows .mixedOrders=true∧∃un,Oz ops l=some un∧c= .drw id l un)):=by
 unfold Ue at h
 split at h
 ·simp at h
 ·rename_i l hl
  refine⟨l,hl, ?_⟩
  cases d with
  |false=>simp at h;exact .inl ⟨rfl,h.symm⟩
  |true=>
   simp only at h
   split at h
   ·rename_i hf
    cases hc:Oz ops l with
    |none=>simp[hc] at h
    |some un=>simp[hc] at h;exact .inr ⟨rfl,hf,un,rfl,h.symm⟩
   ·simp at h
def cCode (P:Program) (nt:Nat):Code→Option AC
 | .skip=>some .nop
 | .label _=>some .nop
 | .region id ops d=>Ue P nt id ops d
 | .seq a b=>match cCode P nt a,cCode P nt b with
  |some x,some y=>some (.seq x y)
  |_,_=>none
 | .cond c a b=>match cCode P nt a,cCode P nt b with
  |some x,some y=>some (.cond (opd c) x y)
  |_,_=>none
 | .block id a=>(cCode P nt a).map (.block id)
 | .loop a=>(cCode P nt a).map .loop
 | .scope a=>(cCode P nt a).map .scp
 | .rangeFunc f ps a b=>match cCode P nt a,cCode P nt b with
  |some x,some y=>some (.rfun (opd f) ps.toList x y)
  |_,_=>none
 | .exit id=>some (.exit id)
 | .ret=>some .ret
 |_=>none
structure St where
 env:Env
 hp:Hp
 cnt:Nat
inductive AE where
 |n
 |x (id:Nat)
 |r
 |p (v:Value)
def AE.of:Exit→Option AE
 | .normal=>some .n
 | .exit id=>some (.x id)
 | .ret=>some .r
 | .panic [⟨v,false,false⟩]=>some (.p v)
 |_=>none
theorem AE.of_panic {c:List PanicEntry} {e:AE} (h:AE.of (.panic c)=some e):∃v,c=[⟨v,false,false⟩]∧e= .p v:=by
 unfold AE.of at h
 split at h
 ·rename_i h';cases h'
 ·rename_i h';cases h'
 ·rename_i h';cases h'
 ·rename_i v h'
  cases h'
  simp at h
  exact⟨v,rfl,h.symm⟩
 ·simp at h
structure Ctx where
 P:Program
 F:Fence
 S:Tab
 nt:Nat
 hb:HB
 R:Cf→Cf→Prop
 G:Env→Cf→Prop
 ofE:∀{σ σ':Cf},Evo σ σ'→R σ σ'
 tr:∀{a b c:Cf},R a b→R b c→R a c
 g:∀{σ σ':Cf} {e e':Env},G e σ→Evo σ σ'→(∀t,nt≤t→lk e' t= .un∨lk e' t=lk e t)→G e' σ'
structure Ctx.OK (Γ:Ctx):Prop where
 S:TabOK Γ.P Γ.S
 F:Wide Γ.F
def Ctx.fn (P:Program) (S:Tab) (nt hb:Nat):Ctx:={P:=P,F:=Fence.wide,S:=S,nt:=nt,hb:=(hb,false),R:=Evo,G:=fun _ _=>True,ofE:=id,tr:=Evo.trans,g:=fun _ _ _=>trivial}
theorem Ctx.fn_ok {P:Program} {S:Tab} {nt hb:Nat} (h:TabOK P S):(Ctx.fn P S nt hb).OK:=⟨h,.inl rfl⟩
def At (Γ:Ctx) (σ:Cf) (s:St) (a:Act):Prop:=Inv σ s.env s.hp a Γ.nt Γ.hb∧(∀m,σ.al m→m.2≤s.cnt)∧Γ.G s.env σ
def lift (Γ:Ctx) (σ:Cf) (Q:AE→St→Prop):Exit→Act→World→Prop:=fun e a w=>
 ∃σ' s' e',σ'.w=w∧Γ.R σ σ'∧At Γ σ' s' a∧AE.of e=some e'∧Q e' s'
def awp (Γ:Ctx) (c:AC) (Q:AE→St→Prop) (s:St):Prop:=
 ∀code,cCode Γ.P Γ.nt code=some c→∀σ a,At Γ σ s a→code.wpIn Γ.F 0 Γ.P (lift Γ σ Q) a σ.w
variable {Γ:Ctx}
theorem Ctx.rfl (Γ:Ctx) (σ:Cf):Γ.R σ σ:=Γ.ofE (Evo.refl σ)
theorem lift.mono {σ σ':Cf} {Q:AE→St→Prop} (h:Γ.R σ σ') {e:Exit} {a:Act} {w:World} (k:lift Γ σ' Q e a w):lift Γ σ Q e a w:=by
 obtain⟨τ,s',e',h1,h2,h3⟩:=k
 exact⟨τ,s',e',h1,Γ.tr h h2,h3⟩
def B5 (Γ:Ctx) (b:AC) (Q:AE→St→Prop):AE→St→Prop
 | .n,s=>awp Γ b Q s
 |e,s=>Q e s
def BR (id:Nat) (Q:AE→St→Prop):AE→St→Prop
 | .x i,s=>if i=id then Q .n s else Q (.x i) s
 |e,s=>Q e s
theorem AF {Q:AE→St→Prop} {s:St} (h:Q .n s):awp Γ .nop Q s:=by
 intro code hc σ a hA
 have fin:lift Γ σ Q .normal a σ.w:=⟨σ,s,.n,rfl,Γ.rfl σ,hA,rfl,h⟩
 cases code with
 |skip=>exact wpIn_skip fin
 |label l=>exact wpIn_label fin
 |region id ops d=>
  simp only[cCode] at hc
  obtain⟨_,_,⟨_,e⟩|⟨_,_,_,_,e⟩⟩:=Ca hc<;>cases e
 |seq x y=>simp only[cCode] at hc;split at hc<;>simp at hc
 |cond c x y=>simp only[cCode] at hc;split at hc<;>simp at hc
 |rangeFunc f ps x y=>simp only[cCode] at hc;split at hc<;>simp at hc
 |_=>simp[cCode] at hc
theorem Ar {id:Nat} {Q:AE→St→Prop} {s:St} (h:Q (.x id) s):awp Γ (.exit id) Q s:=by
 intro code hc σ a hA
 cases code with
 |exit i=>
  simp[cCode] at hc;subst hc
  exact wpIn_exit ⟨σ,s,.x i,rfl,Γ.rfl σ,hA,rfl,h⟩
 |region id ops d=>
  simp only[cCode] at hc
  obtain⟨_,_,⟨_,e⟩|⟨_,_,_,_,e⟩⟩:=Ca hc<;>cases e
 |seq x y=>simp only[cCode] at hc;split at hc<;>simp at hc
 |cond c x y=>simp only[cCode] at hc;split at hc<;>simp at hc
 |rangeFunc f ps x y=>simp only[cCode] at hc;split at hc<;>simp at hc
 |_=>simp[cCode] at hc
theorem AH {Q:AE→St→Prop} {s:St} (h:Q .r s):awp Γ .ret Q s:=by
 intro code hc σ a hA
 cases code with
 |ret=>exact wpIn_ret ⟨σ,s,.r,rfl,Γ.rfl σ,hA,rfl,h⟩
 |region id ops d=>
  simp only[cCode] at hc
  obtain⟨_,_,⟨_,e⟩|⟨_,_,_,_,e⟩⟩:=Ca hc<;>cases e
 |seq x y=>simp only[cCode] at hc;split at hc<;>simp at hc
 |cond c x y=>simp only[cCode] at hc;split at hc<;>simp at hc
 |rangeFunc f ps x y=>simp only[cCode] at hc;split at hc<;>simp at hc
 |_=>simp[cCode] at hc
theorem Ay {x y:AC} {Q:AE→St→Prop} {s:St} (h:awp Γ x (B5 Γ y Q) s):awp Γ (.seq x y) Q s:=by
 intro code hc σ a hA
 cases code with
 |seq c d=>
  simp only[cCode] at hc
  split at hc
  ·rename_i x' y' hx hy
   simp at hc
   obtain⟨rfl,rfl⟩:=hc
   refine wpIn_seq (wpIn_mono (h c hx σ a hA) ?_)
   rintro e a' w' ⟨σ',s',e',rfl,h2,h3,h4,h5⟩
   cases e with
   |normal=>
    simp[AE.of] at h4;subst h4
    exact wpIn_mono (h5 d hy σ' a' h3) fun e a w k=>k.mono h2
   |exit id=>simp[AE.of] at h4;subst h4;exact⟨σ',s',_,rfl,h2,h3,rfl,h5⟩
   |ret=>simp[AE.of] at h4;subst h4;exact⟨σ',s',_,rfl,h2,h3,rfl,h5⟩
   |goto l=>simp[AE.of] at h4
   |panic c=>obtain⟨v,rfl,rfl⟩:=AE.of_panic h4;exact⟨σ',s',_,rfl,h2,h3,rfl,h5⟩
   |outgrown=>simp[AE.of] at h4
  ·simp at hc
 |region id ops d=>
  simp only[cCode] at hc
  obtain⟨_,_,⟨_,e⟩|⟨_,_,_,_,e⟩⟩:=Ca hc<;>cases e
 |cond c x y=>simp only[cCode] at hc;split at hc<;>simp at hc
 |rangeFunc f ps x y=>simp only[cCode] at hc;split at hc<;>simp at hc
 |_=>simp[cCode] at hc
theorem Ao {id:Nat} {x:AC} {Q:AE→St→Prop} {s:St} (h:awp Γ x (BR id Q) s):awp Γ (.block id x) Q s:=by
 intro code hc σ a hA
 cases code with
 |block i c=>
  simp only[cCode] at hc
  cases hx:cCode Γ.P Γ.nt c with
  |none=>simp[hx] at hc
  |some x'=>
   simp[hx] at hc
   obtain⟨rfl,rfl⟩:=hc
   refine wpIn_block (wpIn_mono (h c hx σ a hA) ?_)
   rintro e a' w' ⟨σ',s',e',rfl,h2,h3,h4,h5⟩
   cases e with
   |normal=>simp[AE.of] at h4;subst h4;exact⟨σ',s',_,rfl,h2,h3,rfl,h5⟩
   |exit j=>
    simp[AE.of] at h4;subst h4
    simp only[BR] at h5
    simp only[Exit.inBlock]
    split
    ·rename_i e;rw[if_pos e] at h5;exact⟨σ',s',_,rfl,h2,h3,rfl,h5⟩
    ·rename_i e;rw[if_neg e] at h5;exact⟨σ',s',_,rfl,h2,h3,rfl,h5⟩
   |ret=>simp[AE.of] at h4;subst h4;exact⟨σ',s',_,rfl,h2,h3,rfl,h5⟩
   |goto l=>simp[AE.of] at h4
   |panic c=>obtain⟨v,rfl,rfl⟩:=AE.of_panic h4;exact⟨σ',s',_,rfl,h2,h3,rfl,h5⟩
   |outgrown=>simp[AE.of] at h4
 |region id ops d=>
  simp only[cCode] at hc
  obtain⟨_,_,⟨_,e⟩|⟨_,_,_,_,e⟩⟩:=Ca hc<;>cases e
 |seq x y=>simp only[cCode] at hc;split at hc<;>simp at hc
 |cond c x y=>simp only[cCode] at hc;split at hc<;>simp at hc
 |rangeFunc f ps x y=>simp only[cCode] at hc;split at hc<;>simp at hc
 |_=>simp[cCode] at hc
theorem J8 {c:Opd} {x y:AC} {Q:AE→St→Prop} {s:St} {b:Bool} (hb:ung true (opv s.env c)= .v (.bool b)) (ht:b=true→awp Γ x Q s) (hf:b=false→awp Γ y Q s):awp Γ (.cond c x y) Q s:=by
 intro code hc σ a hA
 cases code with
 |cond cc c1 c2=>
  simp only[cCode] at hc
  split at hc
  ·rename_i x' y' hx hy
   simp at hc
   obtain⟨rfl,rfl,rfl⟩:=hc
   have hr:=Eo (g:=true) rfl hA.1.t cc
   rw[hb] at hr
   have hev:a.eval cc= .bool b:=by simpa [Rep] using hr
   exact wpIn_cond_split hev (fun e=>ht e c1 hx σ a hA) (fun e=>hf e c2 hy σ a hA)
  ·simp at hc
 |region id ops d=>
  simp only[cCode] at hc
  obtain⟨_,_,⟨_,e⟩|⟨_,_,_,_,e⟩⟩:=Ca hc<;>cases e
 |seq x y=>simp only[cCode] at hc;split at hc<;>simp at hc
 |rangeFunc f ps x y=>simp only[cCode] at hc;split at hc<;>simp at hc
 |_=>simp[cCode] at hc
theorem Hk {P:Program} {b:Frame} {a:Act} {k:List Item} {cs:List Frame} {w:World} {c:Code}:step P (lone (b.atR a (.code (.scope c)::k)) cs w)= .next (lone (b.atR a (.code c:: .inScope c::k)) cs w):=
 step_lone_go (by simp[stepG,stepG.exec,Frame.atR])
theorem QF {P:Program} {b:Frame} {a:Act} {k:List Item} {cs:List Frame} {w:World} {c:Code}:step P (lone (b.atR a (.inScope c::k)) cs w)= .next (lone (b.atR a k) cs w):=
 step_lone_go (by simp[stepG,stepG.exec,Frame.atR])
theorem Uf {F:Fence} {n:Nat} {P:Program} {c:Code} {Q:Exit→Act→World→Prop} {a:Act} {w:World} (h:c.wpIn F n P Q a w) (hg:∀l a w,¬Q (.goto l) a w):(Code.scope c).wpIn F n P Q a w:=by
 intro b k cs hro hb hr
 have h0:(lone (b.atR a (.code (.scope c)::k)) cs w).fenced P F:=fenced_calm hb hr rfl
 obtain⟨e,a₁,w₁,hq,harr⟩:=h b (.inScope c::k) cs hro hb hr
 cases e with
 |normal=>exact⟨.normal,a₁,w₁,hq,.head h0 Hk (StepsIn.trans harr (.one (fenced_calm hb hr rfl) QF))⟩
 |exit id=>
  have hx:exitTo id (.inScope c::k)=exitTo id k:=by simp[exitTo]
  exact⟨.exit id,a₁,w₁,hq,fun k' hk=> .head h0 Hk (harr.1 k' (by rw[hx];exact hk)),
   fun hr' hk=>let ⟨k₁,h1,h2⟩:=harr.2 hr' (by rw[hx];exact hk);⟨k₁,h1,.head h0 Hk h2⟩⟩
 |goto l=>exact(hg l a₁ w₁ hq).elim
 |ret=>exact⟨_,a₁,w₁,hq,.of_steps (.one h0 Hk) harr⟩
 |panic ch=>exact⟨_,a₁,w₁,hq,.of_steps (.one h0 Hk) harr⟩
 |outgrown=>exact⟨_,a₁,w₁,hq,.of_steps (.one h0 Hk) harr⟩
theorem AI {x:AC} {Q:AE→St→Prop} {s:St} (h:awp Γ x Q s):awp Γ (.scp x) Q s:=by
 intro code hc σ a hA
 cases code with
 |scope c=>
  simp only[cCode] at hc
  cases hx:cCode Γ.P Γ.nt c with
  |none=>simp[hx] at hc
  |some x'=>
   simp[hx] at hc
   subst hc
   refine Uf (h c hx σ a hA) ?_
   rintro l a w ⟨_,_,_,_,_,_,h4,_⟩
   simp[AE.of] at h4
 |region id ops d=>
  simp only[cCode] at hc
  obtain⟨_,_,⟨_,e⟩|⟨_,_,_,_,e⟩⟩:=Ca hc<;>cases e
 |seq x y=>simp only[cCode] at hc;split at hc<;>simp at hc
 |cond c x y=>simp only[cCode] at hc;split at hc<;>simp at hc
 |rangeFunc f ps x y=>simp only[cCode] at hc;split at hc<;>simp at hc
 |_=>simp[cCode] at hc
def leE:Env→Env→Prop
 |[],_=>True
 |(t,x)::r,e=>lk e t=x∧leE r e
def leH:Hp→Hp→Prop
 |[],_=>True
 |(l,x)::r,h=>hl h l=some x∧leH r h
structure Le (s' s:St):Prop where
 e:leE s'.env s.env
 h:leH s'.hp s.hp
 c:s.cnt≤s'.cnt
theorem OE:∀{e' e:Env} (_:leE e' e) (t:Nat),lk e' t= .un∨lk e' t=lk e t
 |[],_,_,t=> .inl rfl
 |(k,x)::r,e,h,t=>by
  simp only[leE] at h
  simp only[lk]
  by_cases hk:k=t
  ·rw[if_pos hk];subst hk;exact .inr h.1.symm
  ·rw[if_neg hk];exact OE h.2 t
theorem RH:∀{e' e:Hp} (_:leH e' e) (l:Loc) (x:AV),hl e' l=some x→hl e l=some x
 |[],_,_,l,x,hx=>by simp[hl] at hx
 |(k,y)::r,e,h,l,x,hx=>by
  simp only[leH] at h
  simp only[hl] at hx
  by_cases hk:k=l
  ·rw[if_pos hk] at hx;simp at hx;subst hx hk;exact h.1
  ·rw[if_neg hk] at hx;exact RH h.2 l x hx
theorem At.leM {σ:Cf} {s s':St} {a:Act} (h:At Γ σ s a) (k:Le s' s):Evo σ {σ with ln:=lenOf s'.hp}∧At Γ {σ with ln:=lenOf s'.hp} s' a:=by
 obtain⟨⟨h1,h2,h3,h4⟩,h5,h6⟩:=h
 let τ:Cf:={σ with ln:=lenOf s'.hp}
 have hsub:=RH k.h
 have e:Evo σ τ:=by
  refine⟨fun _ h=>⟨h,rfl⟩,fun n _ l' hl'=> ?_,fun _ _ h h'=>⟨h,h'⟩,rfl,Nat.le_refl _,SameO.refl _⟩
  have hl2:lenOf s'.hp n=some l':=hl'
  refine⟨l', ?_,Nat.le_refl _,fun _=>rfl⟩
  rw[h1.ln n]
  unfold lenOf at hl2⊢
  split at hl2
  ·rename_i sz live rows d hn
   rw[hsub _ _ hn];exact hl2
  ·simp at hl2
 have hown:∀p b,Owns τ s'.hp p b→Owns σ s.hp p b:=by
  rintro p b (⟨g1,g2,j,c,g3⟩|⟨g1,⟨sz,rows,d,g2⟩,o,cap,g3,g4⟩)
  ·exact .inl ⟨g1,g2,j,c,hsub _ _ g3⟩
  ·exact .inr ⟨g1,⟨sz,rows,d,hsub _ _ g2⟩,o,cap,g3,g4⟩
 refine⟨e,⟨⟨fun _=>rfl,fun n j c hc=> ?_,fun n sz live rows d hc=> ?_,fun p q b hp hq=>h1.inj p q b (hown p b hp) (hown q b hq),h1.lt,h1.ou,h1.dis⟩, ?_,h3,(h4.mono e).un (OE k.e _)⟩,fun m hm=>Nat.le_trans (h5 m hm) k.c,Γ.g h6 e fun t _=>OE k.e t⟩
 ·have kk:=h1.cel n j c (hsub _ _ hc)
  exact kk.keep e kk.2.1 rfl
 ·exact(h1.arr n sz live rows d (hsub _ _ hc)).keep e rfl fun _ _ _ _ _ _ hM=>⟨hM,rfl⟩
 ·intro t
  rcases OE k.e t with h|h
  ·rw[h];simp[Rep]
  ·rw[h];exact(h2 t).mono e
theorem At.le {σ:Cf} {s s':St} {a:Act} (h:At Γ σ s a) (k:Le s' s):∃σ',σ'.w=σ.w∧Evo σ σ'∧At Γ σ' s' a:=⟨{σ with ln:=lenOf s'.hp},rfl,h.leM k⟩
theorem RI {c:AC} {Q:AE→St→Prop} {s s':St} (k:Le s' s) (h:awp Γ c Q s'):awp Γ c Q s:=by
 intro code hc σ a hA
 obtain⟨σ',h1,h2,h3⟩:=hA.le k
 rw[←h1]
 exact wpIn_mono (h code hc σ' a h3) fun e a w k=>k.mono (Γ.ofE h2)
def Bx {X:Type} (I:X→St) (Pre:X→Prop) (μ:X→Nat) (n:Nat) (Q:AE→St→Prop):AE→St→Prop
 | .n,s=>∃x,Pre x∧μ x<n∧Le (I x) s
 |e,s=>Q e s
theorem Ug {F:Fence} {n:Nat} {P:Program} {X:Type} {c:Code} {Q:Exit→Act→World→Prop} (I:X→Act→World→Prop) (μ:X→Nat) {x:X} {a:Act} {w:World} (h₀:I x a w)
  (round:∀x a w,I x a w→c.wpIn F n P (Exit.then (fun a' w'=>∃x',I x' a' w'∧μ x'<μ x) Q) a w):(Code.loop c).wpIn F n P Q a w:=by
 intro b k cs hro hb hr
 have key:∀j x a w,μ x=j→I x a w→
   ∃e a' w',Q e a' w'∧ArrivesIn (Machine.fenced P F) P (lone (b.atR a (.code c:: .inLoop c::k)) cs w) b k cs e a' w':=by
  intro j
  induction j using Nat.strongRecOn with
  |_ j ih=>
   intro x a w hn hI
   obtain⟨e,a₁,w₁,hq,harr⟩:=round x a w hI b (.inLoop c::k) cs hro hb hr
   cases e with
   |normal=>
    obtain⟨x',hI₁,hlt⟩:=hq
    obtain⟨e₂,a₂,w₂,hq₂,harr₂⟩:=ih (μ x') (hn▸hlt) x' a₁ w₁ rfl hI₁
    exact⟨e₂,a₂,w₂,hq₂,.of_steps (StepsIn.trans harr (.one (fenced_calm hb hr rfl) stepR_inLoop)) harr₂⟩
   |exit id=>exact⟨_,a₁,w₁,hq,.pass (x:= .inLoop c) rfl (fun _ _=> .inl (by simp)) harr⟩
   |goto l=>exact⟨_,a₁,w₁,hq,.pass (x:= .inLoop c) rfl (fun _ _=> .inl (by simp)) harr⟩
   |ret=>exact⟨_,a₁,w₁,hq,.pass (x:= .inLoop c) rfl (fun _ _=> .inl (by simp)) harr⟩
   |panic ch=>exact⟨_,a₁,w₁,hq,.pass (x:= .inLoop c) rfl (fun _ _=> .inl (by simp)) harr⟩
   |outgrown=>exact⟨_,a₁,w₁,hq,.pass (x:= .inLoop c) rfl (fun _ _=> .inl (by simp)) harr⟩
 obtain⟨e,a',w',hq,harr⟩:=key _ x a w rfl h₀
 exact⟨e,a',w',hq,.of_steps (.one (fenced_calm hb hr rfl) stepR_loop) harr⟩
theorem G4 {X:Type} (I:X→St) (Pre:X→Prop) (μ:X→Nat) (x0:X) {b:AC} {Q:AE→St→Prop} {s:St} (h0:Pre x0) (hs:Le (I x0) s)
  (body:∀x,Pre x→awp Γ b (Bx I Pre μ (μ x) Q) (I x)):awp Γ (.loop b) Q s:=by
 intro code hc σ a hA
 cases code with
 |loop c=>
  simp only[cCode] at hc
  cases hx:cCode Γ.P Γ.nt c with
  |none=>simp[hx] at hc
  |some x'=>
   simp[hx] at hc
   subst hc
   obtain⟨σ0,g1,g2,g3⟩:=hA.le hs
   refine Ug (fun x a w=>∃σ',σ'.w=w∧Γ.R σ σ'∧Pre x∧At Γ σ' (I x) a) μ (x:=x0) ⟨σ0,g1,Γ.ofE g2,h0,g3⟩ ?_
   rintro x a w ⟨σ',rfl,k2,k3,k4⟩
   refine wpIn_mono (body x k3 c hx σ' a k4) ?_
   rintro e a' w' ⟨τ,s',e',rfl,h2,h3,h4,h5⟩
   cases e with
   |normal=>
    simp[AE.of] at h4;subst h4
    obtain⟨x',p1,p2,p3⟩:=h5
    obtain⟨τ',q1,q2,q3⟩:=h3.le p3
    exact⟨x',⟨τ',q1,Γ.tr (Γ.tr k2 h2) (Γ.ofE q2),p1,q3⟩,p2⟩
   |exit j=>simp[AE.of] at h4;subst h4;exact⟨τ,s',_,rfl,Γ.tr k2 h2,h3,rfl,h5⟩
   |ret=>simp[AE.of] at h4;subst h4;exact⟨τ,s',_,rfl,Γ.tr k2 h2,h3,rfl,h5⟩
   |goto l=>simp[AE.of] at h4
   |panic c=>obtain⟨v,rfl,rfl⟩:=AE.of_panic h4;exact⟨τ,s',_,rfl,Γ.tr k2 h2,h3,rfl,h5⟩
   |outgrown=>simp[AE.of] at h4
 |region id ops d=>
  simp only[cCode] at hc
  obtain⟨_,_,⟨_,e⟩|⟨_,_,_,_,e⟩⟩:=Ca hc<;>cases e
 |seq x y=>simp only[cCode] at hc;split at hc<;>simp at hc
 |cond c x y=>simp only[cCode] at hc;split at hc<;>simp at hc
 |rangeFunc f ps x y=>simp only[cCode] at hc;split at hc<;>simp at hc
 |_=>simp[cCode] at hc
theorem Fg {P:Program} {nt:Nat} {ops:Array Oper} {o:Oper} {x:AOp} (h:cOp P nt ops o=some x):∀d,x.d=some d→d<nt:=by
 unfold cOp at h
 split at h
 ·simp at h
 split at h
 ·rename_i hd
  simp at h
  subst h
  intro d he
  simp only at he
  rw[he] at hd
  simpa [dOK] using hd
 ·simp at h
theorem FL {nt:Nat} {d:Option Nat} {x:AV} {env:Env} {t:Nat} (hd:∀k,d=some k→k<nt) (ht:nt≤t):lk (BX d x env) t=lk env t:=by
 cases d with
 |none=>rfl
 |some k=>
  have:=hd k rfl
  simp only[BX,lk]
  rw[if_neg (by omega)]
theorem AbK (hΓ:Γ.OK) {ops:Array Oper} {Q:AE→St→Prop} {cnt:Nat} (bs:Nat) (e0:Env) (σ0:Cf) (hG:Γ.G e0 σ0):∀(l:List Oper) (k:Nat) (aops:List AOp) (σ:Cf) (env env':Env) (hp hp':Hp) (a:Act) (vc:Prop),
  (∀t,Γ.nt≤t→lk env t=lk e0 t)→(∀j,l[j]? =ops[k+j]?)→l.length+k=ops.size→FS Γ.P Γ.nt ops l=some aops→Bl Γ.S (cnt+1) (bs+k) aops env hp=some (vc,env',hp')→vc→Evo σ0 σ→Inv σ env hp a Γ.nt Γ.hb→(∀m,σ.al m→m.2≤cnt∨(m.2=cnt+1∧m.1<bs+k))→
  Q .n ⟨env',hp',cnt+1⟩→wpOpsIn Γ.F 0 Γ.P ops (lift Γ σ0 Q) (List.range' k l.length) a σ.w
 |[],k,aops,σ,env,env',hp,hp',a,vc,hgl,hl,hs,hc,hex,hvc,he,hI,hal,hQ=>by
  simp[FS] at hc;subst hc
  simp only[Bl,yE,Prod.mk.injEq] at hex
  obtain⟨_,rfl,rfl⟩:=hex
  simp only[List.length_nil,List.range'_zero,wpOpsIn]
  exact⟨σ,_,_,rfl,Γ.ofE he,⟨hI,fun m hm=>by rcases hal m hm with h|h<;>simp<;>omega,Γ.g hG he fun t ht=> .inr (hgl t ht)⟩,rfl,hQ⟩
 |o::l,k,aops,σ,env,env',hp,hp',a,vc,hgl,hl,hs,hc,hex,hvc,he,hI,hal,hQ=>by
  simp only[FS] at hc
  split at hc
  ·rename_i x xs hx hxs
   simp at hc;subst hc
   simp only[Bl] at hex
   split at hex
   ·simp at hex
   rename_i v1 r1 ws1 hex1
   split at hex
   ·simp at hex
   rename_i v2 e2 h2 hex2
   simp only[yE,Prod.mk.injEq] at hex
   obtain⟨rfl,rfl,rfl⟩:=hex
   have ho:ops[k]? =some o:=by have:=hl 0;simpa using this.symm
   have hnm:¬σ.al (bs+k,cnt+1):=by
    intro h
    rcases hal _ h with h|h
    ·simp at h;omega
    ·simp at h
   have:=IG hΓ.S hΓ.F (n:=0) (Q:=lift Γ σ0 Q) (K:=wpOpsIn Γ.F 0 Γ.P ops (lift Γ σ0 Q) (List.range' (k+1) l.length)) ho hx hI ⟨hnm,cnt+1,fun m hm=>by rcases hal m hm with h|h<;>omega⟩ hex1 hvc.1 (fun a' σ' e' hI' hal'=>by
    refine AbK hΓ bs e0 σ0 hG l (k+1) xs σ' _ _ _ _ a' v2 (fun t ht=>(FL (Fg hx) ht).trans (hgl t ht)) (fun j=> ?_) (by simp at hs⊢;omega) hxs hex2 hvc.2 (he.trans e') hI' (fun m hm=> ?_) hQ
    ·have:=hl (j+1)
     simpa [Nat.add_assoc,Nat.add_comm 1 j] using this
    ·rcases hal' m hm with h|rfl
     ·rcases hal m h with h|h<;>omega
     ·right;simp)
   simp only[List.length_cons,List.range'_succ]
   simp only[wpOpIn,ho] at this
   simp only[wpOpsIn,ho]
   exact this
  ·simp at hc
theorem Th (hΓ:Γ.OK) {rid:Nat} {ops:List AOp} {Q:AE→St→Prop} {s:St} {vc:Prop} {env:Env} {hp:Hp} (hex:Bl Γ.S (s.cnt+1) (100*rid) ops s.env s.hp=some (vc,env,hp)) (hvc:vc)
  (hQ:Q .n ⟨env,hp,s.cnt+1⟩):awp Γ (.reg rid ops) Q s:=by
 intro code hc σ a hA
 cases code with
 |region id ops' d=>
  simp only[cCode] at hc
  obtain⟨l,hx,⟨rfl,e⟩|⟨_,_,_,_,e⟩⟩:=Ca hc
  ·cases e
   refine wpIn_region ?_
   have:=AbK hΓ (ops:=ops') (Q:=Q) (cnt:=s.cnt) (100*rid) s.env σ hA.2.2 ops'.toList 0 ops σ _ _ _ _ a vc (fun _ _=>rfl) (fun j=>by simp) (by simp) hx hex hvc (Evo.refl σ) hA.1 (fun m hm=> .inl (hA.2.1 m hm)) hQ
   simpa [List.range_eq_range'] using this
  ·cases e
 |seq x y=>simp only[cCode] at hc;split at hc<;>simp at hc
 |cond c x y=>simp only[cCode] at hc;split at hc<;>simp at hc
 |rangeFunc f ps x y=>simp only[cCode] at hc;split at hc<;>simp at hc
 |_=>simp[cCode] at hc
theorem kV (hΓ:Γ.OK) {rid:Nat} {ops:List AOp} {Q:AE→St→Prop} {e e':Env} {h h':Hp} {c:Nat} {vc:Prop} (hex:Bl Γ.S (c+1) (100*rid) ops e h=some (vc,e',h')) (hvc:vc)
  (hQ:Q .n ⟨e',h',c+1⟩):awp Γ (.reg rid ops) Q ⟨e,h,c⟩:=Th hΓ hex hvc hQ
theorem eK (hΓ:Γ.OK) {rid:Nat} {ops:List AOp} {b:AC} {Q:AE→St→Prop} {e e':Env} {h h':Hp} {c:Nat} {vc:Prop} (hex:Bl Γ.S (c+1) (100*rid) ops e h=some (vc,e',h')) (hvc:vc)
  (hQ:awp Γ b Q ⟨e',h',c+1⟩):awp Γ (.seq (.reg rid ops) b) Q ⟨e,h,c⟩:=Ay (Th hΓ hex hvc hQ)
theorem A5 {b:AC} {Q:AE→St→Prop} {s:St} (hQ:awp Γ b Q s):awp Γ (.seq .nop b) Q s:=Ay (AF hQ)
theorem AZ {b:AC} {Q:AE→St→Prop} {s:St} (h:awp Γ b Q s):B5 Γ b Q .n s:=h
theorem A6 {b:AC} {Q:AE→St→Prop} {s:St} (h:Q .r s):B5 Γ b Q .r s:=h
theorem A7 {b:AC} {Q:AE→St→Prop} {s:St} {i:Nat} (h:Q (.x i) s):B5 Γ b Q (.x i) s:=h
theorem A8 {id:Nat} {Q:AE→St→Prop} {s:St} (h:Q .n s):BR id Q .n s:=h
theorem A9 {id:Nat} {Q:AE→St→Prop} {s:St} (h:Q .r s):BR id Q .r s:=h
theorem A4 {id:Nat} {Q:AE→St→Prop} {s:St} (h:Q .n s):BR id Q (.x id) s:=by simpa [BR] using h
theorem Ba {id i:Nat} {Q:AE→St→Prop} {s:St} (hi:(i==id)=false) (h:Q (.x i) s):BR id Q (.x i) s:=by
 have:¬i=id:=by simpa using hi
 simpa [BR,this] using h
theorem AJ {X:Type} {I:X→St} {Pre:X→Prop} {μ:X→Nat} {n i:Nat} {Q:AE→St→Prop} {s:St} (h:Q (.x i) s):Bx I Pre μ n Q (.x i) s:=h
theorem AM {X:Type} {I:X→St} {Pre:X→Prop} {μ:X→Nat} {n:Nat} {Q:AE→St→Prop} {s:St} (h:Q .r s):Bx I Pre μ n Q .r s:=h
theorem GG {X:Type} {I:X→St} {Pre:X→Prop} {μ:X→Nat} {n:Nat} {Q:AE→St→Prop} {s:St} (x:X) (h:Pre x) (hm:μ x<n) (hl:Le (I x) s):Bx I Pre μ n Q .n s:=⟨x,h,hm,hl⟩
theorem kW {b:Bool} {cc:Opd} {x y:AC} {Q:AE→St→Prop} {e:Env} {h:Hp} {c:Nat} (hb:ung true (opv e cc)= .v (.bool b)) (ht:b=true→awp Γ x Q ⟨e,h,c⟩) (hf:b=false→awp Γ y Q ⟨e,h,c⟩):awp Γ (.cond cc x y) Q ⟨e,h,c⟩:=
 J8 hb ht hf
theorem eL {p:Prop} [Decidable p] {cc:Opd} {x y:AC} {Q:AE→St→Prop} {e:Env} {h:Hp} {c:Nat} (hb:ung true (opv e cc)= .v (.bool (decide p))) (ht:p→awp Γ x Q ⟨e,h,c⟩) (hf:¬p→awp Γ y Q ⟨e,h,c⟩):awp Γ (.cond cc x y) Q ⟨e,h,c⟩:=
 J8 hb (fun h=>ht (of_decide_eq_true h)) (fun h=>hf (of_decide_eq_false h))
theorem Jq {cc:Opd} {x y:AC} {Q:AE→St→Prop} {e:Env} {h:Hp} {c:Nat} (hb:ung true (opv e cc)= .v (.bool true)) (ht:awp Γ x Q ⟨e,h,c⟩):awp Γ (.cond cc x y) Q ⟨e,h,c⟩:=
 J8 hb (fun _=>ht) (fun h=>by cases h)
theorem K4 {cc:Opd} {x y:AC} {Q:AE→St→Prop} {e:Env} {h:Hp} {c:Nat} (hb:ung true (opv e cc)= .v (.bool false)) (hf:awp Γ y Q ⟨e,h,c⟩):awp Γ (.cond cc x y) Q ⟨e,h,c⟩:=
 J8 hb (fun h=>by cases h) (fun _=>hf)
end
structure Ev (σ σ':Cf):Prop where
 box:∀n,σ.al n→σ'.al n∧σ'.rb n=σ.rb n
 arr:∀n,σ.al n→∀l',σ'.ln n=some l'→∃l,σ.ln n=some l∧l≤l'∧(l=l'→σ'.ra n=σ.ra n)
 fz:∀b,Fz σ b→Fz σ' b
 cell:∀b o x,Fz σ b→σ.w.cell? ⟨b,o,none⟩=some x→σ'.w.cell? ⟨b,o,none⟩=some x
theorem Evo.ev {σ σ':Cf} (h:Evo σ σ'):Ev σ σ':=⟨h.box,h.arr,fun _ hb=>h.fz hb,fun _ _ _ hb hc=>h.cell hb.1 hc⟩
theorem Gl.ev {σ σ':Cf} (h:Gl σ) (e:Ev σ σ'):Gl σ':=fun b j hj=>⟨e.fz b (h b j hj).1,e.cell b _ _ (h b j hj).1 (h b j hj).2⟩
theorem Ev.refl (σ:Cf):Ev σ σ:=(Evo.refl σ).ev
theorem Ev.trans {a b c:Cf} (h:Ev a b) (k:Ev b c):Ev a c where
 box n hn:=⟨(k.box n (h.box n hn).1).1,((k.box n (h.box n hn).1).2).trans (h.box n hn).2⟩
 arr n hn l' hl':=by
  obtain⟨l,h1,h2,h3⟩:=k.arr n (h.box n hn).1 l' hl'
  obtain⟨m,g1,g2,g3⟩:=h.arr n hn l h1
  refine⟨m,g1,Nat.le_trans g2 h2,fun e=> ?_⟩
  have e1:m=l:=by omega
  have e2:l=l':=by omega
  rw[h3 e2,g3 e1]
 fz b hb:=k.fz b (h.fz b hb)
 cell b o x hb hc:=k.cell b o x (h.fz b hb) (h.cell b o x hb hc)
mutual
theorem Rep.monoE {σ σ':Cf} (h:Ev σ σ'):∀(a:AV) (v:Value),Rep σ a v→Rep σ' a v
 | .v x,v,hr=>by simpa [Rep] using hr
 | .sl sz full rows _,v,hr=>by
  simp only[Rep] at hr⊢
  obtain⟨base,cap,h1,h2,h3,hp,h4⟩:=hr
  refine⟨base,cap,h1,h2,h3,hp, ?_⟩
  rcases h4 with h4|⟨b,o,h5,h6,h7⟩
  ·exact .inl h4
  ·exact .inr ⟨b,o,h5,h.fz b h6,RepRows.monoE h sz b h6 rows o h7⟩
 | .ro cells off,v,hr=>by
  simp only[Rep] at hr⊢
  obtain⟨b,o,h1,h2,hp,h3⟩:=hr
  exact⟨b,o,h1,h.fz b h2,hp,RepCells.monoE h b h2 cells o h3⟩
 | .agg cs,v,hr=>by
  simp only[Rep] at hr⊢
  obtain⟨xs,h1,h2,h3⟩:=hr
  exact⟨xs,h1,h2,RepL.monoE h cs xs h3⟩
 | .tup cs,v,hr=>by
  simp only[Rep] at hr⊢
  obtain⟨xs,h1,h3⟩:=hr
  exact⟨xs,h1,RepL.monoE h cs xs h3⟩
 | .clo fn first caps,v,hr=>by
  simp only[Rep] at hr⊢
  obtain⟨xs,ys,h1,h2,h3⟩:=hr
  exact⟨xs,ys,h1,RepL.monoE h first xs h2,RepL.monoE h caps ys h3⟩
 | .box n off,v,hr=>by
  simp only[Rep] at hr⊢
  obtain⟨h1,h2⟩:=h.box n hr.1
  exact⟨h1,by rw[h2];exact hr.2⟩
 | .own n len,v,hr=>by
  simp only[Rep] at hr⊢
  refine⟨(h.box n hr.1).1,hr.2.1,fun l' hl'=> ?_⟩
  obtain⟨l,g1,g2,g3⟩:=h.arr n hr.1 l' hl'
  obtain⟨k1,k2⟩:=hr.2.2 l g1
  refine⟨by omega,fun e=> ?_⟩
  have e1:l=l':=by omega
  rw[g3 e1];exact k2 (by omega)
 | .elem n len sz i off,v,hr=>by
  simp only[Rep] at hr⊢
  refine⟨(h.box n hr.1).1,hr.2.1,fun l' hl'=> ?_⟩
  obtain⟨l,g1,g2,g3⟩:=h.arr n hr.1 l' hl'
  obtain⟨k1,k2⟩:=hr.2.2 l g1
  refine⟨by omega,fun e=> ?_⟩
  have e1:l=l':=by omega
  rw[g3 e1];exact k2 (by omega)
 | .gd b x,v,hr=>by
  simp only[Rep] at hr⊢
  exact⟨fun hb=>Rep.monoE h x v (hr.1 hb),hr.2⟩
 | .mp n,v,hr=>by
  simp only[Rep] at hr⊢
  obtain⟨h1,h2⟩:=h.box n hr.1
  exact⟨h1,by rw[h2];exact hr.2⟩
 | .un,_,_=>by simp[Rep]
theorem RepCells.monoE {σ σ':Cf} (h:Ev σ σ') (b:Nat) (hM:Fz σ b):∀(cs:List AV) (o:Nat),RepCells σ b o cs→RepCells σ' b o cs
 |[],_,_=>by simp[RepCells]
 |c::cs,o,hr=>by
  simp only[RepCells] at hr⊢
  obtain⟨⟨x,h1,h2,h3⟩,h4⟩:=hr
  exact⟨⟨x,h.cell b _ _ hM h1,h2,Rep.monoE h c x h3⟩,RepCells.monoE h b hM cs (o+1) h4⟩
theorem RepRows.monoE {σ σ':Cf} (h:Ev σ σ') (sz b:Nat) (hM:Fz σ b):∀(rs:List (List AV)) (o:Nat),RepRows σ sz b o rs→RepRows σ' sz b o rs
 |[],_,_=>by simp[RepRows]
 |r::rs,o,hr=>by
  simp only[RepRows] at hr⊢
  exact⟨hr.1,RepCells.monoE h b hM r o hr.2.1,RepRows.monoE h sz b hM rs (o+sz) hr.2.2⟩
theorem RepL.monoE {σ σ':Cf} (h:Ev σ σ'):∀(cs:List AV) (xs:List Value),RepL σ cs xs→RepL σ' cs xs
 |[],xs,hr=>by simpa [RepL] using hr
 |c::cs,xs,hr=>by
  simp only[RepL] at hr⊢
  obtain⟨y,ys,h1,h2,h3⟩:=hr
  exact⟨y,ys,h1,Rep.monoE h c y h2,RepL.monoE h cs ys h3⟩
end
theorem RepCells.keepE {σ σ':Cf} (h:Ev σ σ') {b o:Nat} {cs:List AV} (hc:RepCells σ b o cs)
  (hm:∀j x,j<cs.length→σ.w.cell? ⟨b,o+j,none⟩=some x→σ'.w.cell? ⟨b,o+j,none⟩=some x):RepCells σ' b o cs:=
 EE fun j c hj=>by
  obtain⟨x,h1,h2,h3⟩:=FQ hc j c hj
  exact⟨x,hm j x (List.getElem?_eq_some_iff.1 hj).1 h1,h2,h3.monoE h⟩
theorem RepRows.keepE {σ σ':Cf} (h:Ev σ σ') {sz b o:Nat} {rs:List (List AV)} (hc:RepRows σ sz b o rs)
  (hm:∀j x,j<rs.length*sz→σ.w.cell? ⟨b,o+j,none⟩=some x→σ'.w.cell? ⟨b,o+j,none⟩=some x):RepRows σ' sz b o rs:=
 GY fun i r hi=>by
  obtain⟨h1,h2⟩:=E2 hc i r hi
  refine⟨h1,h2.keepE h fun j x hj hx=> ?_⟩
  have hi':=(List.getElem?_eq_some_iff.1 hi).1
  have hlt:i*sz+j<rs.length*sz:=by
   have:(i+1)*sz≤rs.length*sz:=Nat.mul_le_mul_right _ (by omega)
   rw[Nat.succ_mul] at this
   omega
  have:=hm (i*sz+j) x hlt (by rwa [←Nat.add_assoc])
  rwa [←Nat.add_assoc] at this
theorem CelF.keepE {σ σ':Cf} (h:Ev σ σ') {n:Nm} {j:Nat} {c:AV} (k:CelF σ n j c) (hM:σ'.M (σ.rb n)) (hw:σ'.w.heap[σ.rb n]? =σ.w.heap[σ.rb n]?):CelF σ' n j c:=by
 obtain⟨h1,h2,h3⟩:=k
 obtain⟨g1,g2⟩:=h.box n h1
 refine⟨g1,by rw[g2];exact hM, ?_⟩
 rcases h3 with⟨cs,T,x,h3,h4,h5,h6⟩|⟨rows,es,h3,h4,h5,h6,h7⟩
 ·exact .inl ⟨cs,T,x,by rw[g2,hw];exact h3,h4,h5,h6.monoE h⟩
 ·exact .inr ⟨rows,es,h3,by rw[g2,hw];exact h4,h5,h6.map fun r vs=>RepL.monoE h r vs,h7⟩
theorem ArrF.keepE {σ σ':Cf} (h:Ev σ σ') {n:Nm} {sz:Nat} {live:Bool} {rows:List (List AV)} (k:ArrF σ n sz live rows) (hra:σ'.ra n=σ.ra n)
  (hM:live=true→∀b o cap,σ.ra n=(some ⟨b,o,none⟩,cap)→0<cap→σ.M b→σ'.M b∧σ'.w.heap[b]? =σ.w.heap[b]?):ArrF σ' n sz live rows:=by
 obtain⟨h1,h2,hp,h3⟩:=k
 refine⟨(h.box n h1).1,h2,hp, ?_⟩
 rcases h3 with⟨a,h3,h4⟩|⟨b,o,cap,h3,h4,h5,h6,h7,h8⟩
 ·exact .inl ⟨a,by rw[hra];exact h3,h4⟩
 ·refine .inr ⟨b,o,cap,by rw[hra];exact h3,h4,h5, ?_, ?_,fun e=>h.fz _ (h8 e)⟩
  ·cases live with
   |true=>
    obtain⟨g1,_⟩:=h7 rfl
    exact h6.keepE h fun j x _ hx=>by rw[cell_of_heap (hM rfl b o cap h3 h4 g1).2];exact hx
   |false=>exact h6.monoE h _ _ (h8 rfl)
  ·intro e
   obtain⟨g1,cs,T,g2,g3⟩:=h7 e
   obtain⟨k1,k2⟩:=hM e b o cap h3 h4 g1
   exact⟨k1,cs,T,by rw[k2];exact g2,g3⟩
structure Oth (σ σ':Cf):Prop where
 rb:σ'.rb=σ.rb
 ra:σ'.ra=σ.ra
 ln:σ'.ln=σ.ln
 al:σ'.al=σ.al
 M:σ'.M=σ.M
 ou:∀b,σ'.O b→b<σ'.w.heap.size∧¬σ.M b∧¬Fz σ b
 sz:σ.w.heap.size≤σ'.w.heap.size
 mem:∀b,σ.M b→σ'.w.heap[b]? =σ.w.heap[b]?
 fro:∀b o x,Fz σ b→σ.w.cell? ⟨b,o,none⟩=some x→σ'.w.cell? ⟨b,o,none⟩=some x
 io:SameO σ.w σ'.w
theorem Oth.ev {σ σ':Cf} (h:Oth σ σ'):Ev σ σ' where
 box n hn:=by rw[h.al,h.rb];exact⟨hn,rfl⟩
 arr n hn l hl':=by rw[h.ln] at hl';rw[h.ra];exact⟨l,hl',Nat.le_refl _,fun _=>rfl⟩
 fz b hb:=⟨by rw[h.M];exact hb.1,fun hO=>(h.ou b hO).2.2 hb,Nat.lt_of_lt_of_le hb.2.2 h.sz⟩
 cell:=h.fro
theorem HInv.oth {σ σ':Cf} {hp:Hp} (h:HInv σ hp) (k:Oth σ σ'):HInv σ' hp where
 ln n:=by rw[k.ln];exact h.ln n
 cel n j c hc:=by
  have kk:=h.cel n j c hc
  exact kk.keepE k.ev (by rw[k.M];exact kk.2.1) (k.mem _ kk.2.1)
 arr n sz live rows d hc:=(h.arr n sz live rows d hc).keepE k.ev (by rw[k.ra]) fun _ b _ _ _ _ hM=>⟨by rw[k.M];exact hM,k.mem b hM⟩
 inj p q b hp hq:=h.inj p q b (by simpa only[Owns,k.rb,k.ra] using hp) (by simpa only[Owns,k.rb,k.ra] using hq)
 lt b hb:=by rw[k.M] at hb;exact Nat.lt_of_lt_of_le (h.lt b hb) k.sz
 ou b hb:=(k.ou b hb).1
 dis b hb hO:=(k.ou b hO).2.1 (by rw[k.M] at hb;exact hb)
theorem TInv.ev {σ σ':Cf} {env:Env} {a:Act} (h:TInv σ env a) (k:Ev σ σ'):TInv σ' env a:=fun t=>(h t).monoE k
inductive RV where
 |t (n:Nat)
 |c (n sz:Nat) (ag:Bool)
 deriving Inhabited
def cRV (P:Program):ResultVar→Option RV
 | .tmp t=>some (.t t)
 | .cell a t=>match P.underlying t,P.info? t with
  |some d,some i=>some (.c a i.size (BU d))
  |_,_=>none
def cRes (P:Program):List ResultVar→Option (List RV)
 |[]=>some []
 |r::rs=>match cRV P r,cRes P rs with
  |some x,some xs=>some (x::xs)
  |_,_=>none
def Uh (env:Env) (hp:Hp):RV→Option (Prop×AV)
 | .t n=>some (True,ung true (lk env n))
 | .c n sz ag=>match HZ hp sz ag (ung true (lk env n)) with
  |some (vc,r,_)=>some (vc,r)
  |none=>none
def Fh (env:Env) (hp:Hp):List RV→Option (Prop×List AV)
 |[]=>some (True,[])
 |r::rs=>match Uh env hp r,Fh env hp rs with
  |some (v,x),some (vs,xs)=>some (v∧vs,x::xs)
  |_,_=>none
def one:List AV→AV
 |[x]=>x
 |xs=> .tup xs
mutual
def wk:AV→AV→Prop
 | .sl z f rows _,.sl z' f' rows' _=>rows=rows'∧(z=z'∨rows=[])∧(f'=true→f=true)
 | .agg a,.agg b=>wkL a b
 | .tup a,.tup b=>wkL a b
 |x,y=>x=y
def wkL:List AV→List AV→Prop
 |[],[]=>True
 |x::xs,y::ys=>wk x y∧wkL xs ys
 |_,_=>False
end
mutual
theorem Hx {σ:Cf}:∀(x y:AV) (v:Value),wk x y→Rep σ x v→Rep σ y v
 | .sl z f rows d,y,v,h,hr=>by
  cases y with
  |sl z' f' rows' d'=>
   simp only[wk] at h
   obtain⟨rfl,h2,h3⟩:=h
   simp only[Rep] at hr⊢
   obtain⟨base,cap,e1,e2,e3,e4,e5⟩:=hr
   refine⟨base,cap,e1,e2,fun e=>e3 (h3 e),e4, ?_⟩
   rcases e5 with e5|e5
   ·exact .inl e5
   ·rcases h2 with rfl|h2
    ·exact .inr e5
    ·exact .inl h2
  |_=>simp only[wk] at h;cases h
 | .agg a,y,v,h,hr=>by
  cases y with
  |agg b=>
   simp only[wk] at h
   simp only[Rep] at hr⊢
   obtain⟨xs,e1,e2,e3⟩:=hr
   exact⟨xs,e1,e2,KC a b xs h e3⟩
  |_=>simp only[wk] at h;cases h
 | .tup a,y,v,h,hr=>by
  cases y with
  |tup b=>
   simp only[wk] at h
   simp only[Rep] at hr⊢
   obtain⟨xs,e1,e3⟩:=hr
   exact⟨xs,e1,KC a b xs h e3⟩
  |_=>simp only[wk] at h;cases h
 | .v x,y,v,h,hr=>by simp only[wk] at h;rw[←h];exact hr
 | .ro _ _,y,v,h,hr=>by simp only[wk] at h;rw[←h];exact hr
 | .clo _ _ _,y,v,h,hr=>by simp only[wk] at h;rw[←h];exact hr
 | .box _ _,y,v,h,hr=>by simp only[wk] at h;rw[←h];exact hr
 | .own _ _,y,v,h,hr=>by simp only[wk] at h;rw[←h];exact hr
 | .elem _ _ _ _ _,y,v,h,hr=>by simp only[wk] at h;rw[←h];exact hr
 | .gd _ _,y,v,h,hr=>by simp only[wk] at h;rw[←h];exact hr
 | .mp _,y,v,h,hr=>by simp only[wk] at h;rw[←h];exact hr
 | .un,y,v,h,hr=>by simp only[wk] at h;rw[←h];exact hr
theorem KC {σ:Cf}:∀(xs ys:List AV) (vs:List Value),wkL xs ys→RepL σ xs vs→RepL σ ys vs
 |[],[],vs,_,h=>h
 |x::xs,y::ys,vs,h,hr=>by
  simp only[wkL] at h
  simp only[RepL] at hr⊢
  obtain⟨u,us,e1,e2,e3⟩:=hr
  exact⟨u,us,e1,Hx x y u h.1 e2,KC xs ys us h.2 e3⟩
 |[],_::_,vs,h,_=>by simp[wkL] at h
 |_::_,[],vs,h,_=>by simp[wkL] at h
end
def F7 (rvs:List RV) (r:AV) (s:St):Prop:=
 ∃vc xs,Fh s.env s.hp rvs=some (vc,xs)∧vc∧rvc s.hp (one xs)∧wk (res s.hp (one xs)) r∧Cg r=true
def B3 (rvs:List RV) (r:AV):AE→St→Prop
 | .n,s=>F7 rvs r s
 | .r,s=>F7 rvs r s
 | .x _,_=>False
 | .p _,_=>False
theorem J9 {rvs:List RV} {r:AV} {e:Env} {h:Hp} {c:Nat} {vc:Prop} {xs:List AV} (h1:Fh e h rvs=some (vc,xs)) (h2:vc) (h3:rvc h (one xs)) (h4:wk (res h (one xs)) r) (h5:Cg r=true):B3 rvs r .r ⟨e,h,c⟩:=⟨vc,xs,h1,h2,h3,h4,h5⟩
theorem Ka {rvs:List RV} {r:AV} {e:Env} {h:Hp} {c:Nat} {vc:Prop} {xs:List AV} (h1:Fh e h rvs=some (vc,xs)) (h2:vc) (h3:rvc h (one xs)) (h4:wk (res h (one xs)) r) (h5:Cg r=true):B3 rvs r .n ⟨e,h,c⟩:=⟨vc,xs,h1,h2,h3,h4,h5⟩
section
variable {P:Program}
def rv1 (tmps:Array Value):ResultVar→Sem Value
 | .tmp t=>pure (tmps.getD t undef)
 | .cell k t=>do loadVar t (←asAddr (tmps.getD k undef))
theorem X0 {tmps:Array Value} {k:Nat} {t:TypeId} {ad:Addr} {u:Value} {w:World} (h1:tmps.getD k undef= .pointer (some ad)) (h2:(loadVar t ad).run P w= .ok u w):(rv1 tmps (.cell k t)).run P w= .ok u w:=by
 simp only[rv1,Sem.run_bind,h1,asAddr,Sem.run_pure,Result.andThen,h2]
theorem Gt {σ:Cf} {s:St} {a:Act} {nt:Nat} {hb:HB} (hI:Inv σ s.env s.hp a nt hb):∀{rs:List ResultVar} {rvs:List RV} {vc:Prop} {xs:List AV},cRes P rs=some rvs→Fh s.env s.hp rvs=some (vc,xs)→vc→
  ∃vs,(rs.mapM (rv1 a.tmps)).run P σ.w= .ok vs σ.w∧RepL σ xs vs
 |[],rvs,vc,xs,hc,hex,hvc=>by
  simp[cRes] at hc;subst hc
  simp[Fh] at hex
  obtain⟨_,rfl⟩:=hex
  exact⟨[],by simp,by simp[RepL]⟩
 |r::rs,rvs,vc,xs,hc,hex,hvc=>by
  simp only[cRes] at hc
  split at hc
  ·rename_i rv rvs' h1 h2
   simp at hc;subst hc
   simp only[Fh] at hex
   split at hex
   ·rename_i v1 x1 v2 xs2 g1 g2
    simp only[yE,Prod.mk.injEq] at hex
    obtain⟨rfl,rfl⟩:=hex
    obtain⟨vs,k1,k2⟩:=Gt hI h2 g2 hvc.2
    cases r with
    |tmp t=>
     simp[cRV] at h1;subst h1
     simp only[Uh,yE,Prod.mk.injEq] at g1
     obtain⟨_,rfl⟩:=g1
     refine⟨a.tmps.getD t undef::vs, ?_,_,_,rfl,Ir rfl (hI.t t),k2⟩
     rw[List.mapM_cons]
     simp only[Sem.run_bind,Sem.run_pure,Result.andThen,k1,rv1]
    |cell k t=>
     simp only[cRV] at h1
     split at h1
     ·rename_i d i hd hi
      simp at h1;subst h1
      simp only[Uh] at g1
      split at g1
      ·rename_i vc' r' ws' hex'
       simp only[yE,Prod.mk.injEq] at g1
       obtain⟨rfl,rfl⟩:=g1
       obtain⟨_,b,kk,u,e1,e2,e3⟩:=Vp (P:=P) hI.df.gl hI.h hd hi (Ir rfl (hI.t k)) hex' hvc.1
       refine⟨u::vs, ?_,_,_,rfl,e3,k2⟩
       rw[List.mapM_cons]
       simp only[Sem.run_bind,Sem.run_pure,Result.andThen,k1,X0 e1 e2]
      ·simp at g1
     ·simp at h1
   ·simp at hex
  ·simp at hc
theorem Gu {fn:Func} {tmps:Array Value} {w:World} {vs:List Value} (h:(fn.results.toList.mapM (rv1 tmps)).run P w= .ok vs w):
  (results fn tmps).run P w= .ok (if h:vs.toArray.size=1 then vs.toArray[0] else .tuple vs.toArray) w:=by
 have hm:fn.results.mapM (rv1 tmps)=List.toArray<$>fn.results.toList.mapM (rv1 tmps):=by
  rw[Array.mapM_eq_mapM_toList]
 show(do let vs←fn.results.mapM (rv1 tmps);pure (if h:vs.size=1 then vs[0] else .tuple vs):Sem Value).run P w=_
 rw[hm]
 simp only[Sem.run_bind,Sem.run_map,h,Result.andThen,Sem.run_pure]
def Cj:Nat→List AV→Env
 |_,[]=>[]
 |k,x::xs=>(k,x)::Cj (k+1) xs
theorem Gv:∀(xs:List AV) (k t:Nat),lk (Cj k xs) t=if k≤t∧t<k+xs.length then xs.getD (t-k) .un else .un
 |[],k,t=>by simp[Cj,lk]
 |x::xs,k,t=>by
  simp only[Cj,lk]
  by_cases h:k=t
  ·subst h;simp
  ·rw[if_neg h,Gv xs (k+1) t]
   by_cases h2:k+1≤t∧t<k+1+xs.length
   ·rw[if_pos h2,if_pos (by simp;omega),show t-k=(t-(k+1))+1 from by omega]
    simp
   ·rw[if_neg h2,if_neg (by simp;omega)]
theorem Oth.refl {σ:Cf} (h:∀b,σ.O b→b<σ.w.heap.size∧¬σ.M b):Oth σ σ:=
 ⟨rfl,rfl,rfl,rfl,rfl,fun b hb=>⟨(h b hb).1,(h b hb).2,fun hf=>hf.2.1 hb⟩,Nat.le_refl _,fun _ _=>rfl,fun _ _ _ _ h=>h,SameO.refl _⟩
theorem Oth.trans {a b c:Cf} (h:Oth a b) (k:Oth b c):Oth a c where
 rb:=k.rb.trans h.rb
 ra:=k.ra.trans h.ra
 ln:=k.ln.trans h.ln
 al:=k.al.trans h.al
 M:=k.M.trans h.M
 ou x hx:=⟨(k.ou x hx).1,by have:=(k.ou x hx).2.1;rw[h.M] at this;exact this,fun hf=>(k.ou x hx).2.2 (h.ev.fz x hf)⟩
 sz:=Nat.le_trans h.sz k.sz
 mem x hx:=(k.mem x (by rw[h.M];exact hx)).trans (h.mem x hx)
 fro x o y hf hc:=k.fro x o y (h.ev.fz x hf) (h.fro x o y hf hc)
 io:=h.io.trans k.io
theorem LC {F:Fence} {n hb:Nat} {dd:List Deferred} {u:FrameMode} (hu:u≠.run) {fn:Func} {tmps:Array Value} {R:Ending→World→Prop}:∀(ds:List Deferred) (σ:Cf),(∀b,σ.O b→b<σ.w.heap.size∧¬σ.M b)→DOK (hb,false) σ .un ds→
  (∀τ,Oth σ τ→τ.O=σ.O→(∀(b:Nat) (o:Obj),b<hb∨σ.O b→σ.w.heap[b]? =some o→τ.w.heap[b]? =some o)→LeavesInM F n P fn tmps R dd u τ.w)→LeavesInM F n P fn tmps R (ds++dd) u σ.w
 |[],σ,hO,_,h=>h σ (Oth.refl hO) rfl fun _ _ _ h=>h
 |d::ds,σ,hO,hd,h=>by
  obtain⟨r,h1,h2,h3,h4,h5⟩:=hd.all rfl d (by simp)
  have hnd:=hd.nd rfl
  rw[List.pairwise_cons] at hnd
  let τ:Cf:={σ with w:=σ.w.putObj r (.deferred none)}
  have hsz:τ.w.heap.size=σ.w.heap.size:=World.putObj_size
  have k:Oth σ τ:=
   {rb:=rfl,ra:=rfl,ln:=rfl,al:=rfl,M:=rfl
    ou:=fun b hb=>⟨by rw[hsz];exact(hO b hb).1,(hO b hb).2,fun hf=>hf.2.1 hb⟩
    sz:=by rw[hsz];exact Nat.le_refl _
    mem:=fun b hb=>World.putObj_heap_other (by rintro rfl;exact h4 hb)
    fro:=fun b o x _ hc=>by
     by_cases e:b=r
     ·subst e;simp[World.cell?,h3] at hc
     ·simp only[World.cell?,show τ.w.heap[b]? =σ.w.heap[b]? from World.putObj_heap_other e]
      exact hc
    io:=⟨rfl,rfl⟩}
  refine⟨hu,.inl ⟨r,τ.w,by rw[h1],run_takeDeferred h3, ?_⟩⟩
  refine LC hu ds τ (fun b hb=>by rw[hsz];exact hO b hb) (DOK.of rfl (fun d' hd'=> ?_) hnd.2 (by rw[hsz];exact hd.le) (hd.gl.ev k.ev)) fun ρ k2 hO2 k3=>h ρ (k.trans k2) hO2 fun b o hb hc=>k3 b o hb ?_
  ·obtain⟨r',g1,g2,g3,g4,g5⟩:=hd.all rfl d' (by simp[hd'])
   have hne:r'≠r:=by
    rintro rfl
    exact hnd.1 d' hd' (by rw[h1,g1])
   exact⟨r',g1,g2,(World.putObj_heap_other hne).trans g3,g4,g5⟩
  ·refine(World.putObj_heap_other ?_).trans hc
   rcases hb with hb|hb
   ·simp only at h2;omega
   ·rintro rfl;exact h5 hb
theorem GH {F:Fence} {n hb:Nat} {fn:Func} {tmps:Array Value} {R:Ending→World→Prop} (ds:List Deferred) (σ:Cf) (hO:∀b,σ.O b→b<σ.w.heap.size∧¬σ.M b) (hd:DOK (hb,false) σ .un ds)
  (h:∀τ,Oth σ τ→τ.O=σ.O→(∀(b:Nat) (o:Obj),b<hb∨σ.O b→σ.w.heap[b]? =some o→τ.w.heap[b]? =some o)→∃v,(results fn tmps).run P τ.w= .ok v τ.w∧R (.returned v) τ.w):LeavesInM F n P fn tmps R ds .returning σ.w:=by
 have:=LC (dd:=[]) (u:= .returning) (F:=F) (n:=n) (P:=P) (fn:=fn) (tmps:=tmps) (R:=R) (by simp) ds σ hO hd fun τ a b c=>h τ a b c
 rwa [List.append_nil] at this
def Cf.fresh (σ:Cf):Cf:={rb:=fun _=>0,ra:=fun _=>(none,0),M:=fun _=>False,O:=fun b=>σ.M b∨σ.O b,ln:=fun _=>none,al:=fun _=>False,w:=σ.w}
theorem X2 {S:Tab} (hS:TabOK P S) {f:Nat} {fn:Func} {code:Code} {c:AC} {rvs:List RV} {args:List AV} {r:AV} (hf:P.funcs[f]? =some fn) (hb:fn.body=some code) (hc:cCode P fn.ntmps code=some c) (hr:cRes P fn.results.toList=some rvs)
  (hn:args.length≤fn.ntmps) (h:∀hb,awp (Ctx.fn P S fn.ntmps hb) c (B3 rvs r) ⟨Cj 0 args,[],0⟩):PCall P f args r:=by
 intro σ vs hgl hlt hp hx
 have hlen:=Bz hx
 let τ:=σ.fresh
 have hgt:Gl τ:=fun b j hj=>⟨⟨fun h=>h,by rintro(h|h);exact(hgl b j hj).1.1 h;exact(hgl b j hj).1.2.1 h,(hgl b j hj).1.2.2⟩,(hgl b j hj).2⟩
 have hx':RepL τ args vs:=RepL.ofPure (σ:=σ) (σ':=τ) (fun b hb=>⟨fun h=>h,by rintro(h|h);exact hb.1 h;exact hb.2.1 h,hb.2.2⟩) (fun _ _=>rfl) args vs hp hx
 have hI:Inv τ (Cj 0 args) [] {tmps:=vs.toArray++Array.replicate (fn.ntmps-vs.toArray.size) undef,defers:=[]} fn.ntmps (σ.w.heap.size,false):=by
  refine⟨⟨fun n=>rfl,fun n j c h=>by simp[hl] at h,fun n sz live rows d h=>by simp[hl] at h, ?_,fun b h=>h.elim,hlt,fun b h=>h.elim⟩,fun t=> ?_,by simp;omega,DOK.nil (Nat.le_refl _) hgt⟩
  ·rintro p q b (⟨_,_,j,c,h⟩|⟨_,⟨_,_,_,h⟩,_⟩) _<;>simp[hl] at h
  ·rw[Gv]
   split
   ·rename_i ht
    simp only[Nat.zero_le,Nat.zero_add,true_and] at ht
    have hg:args[t]? =some args[t]:=List.getElem?_eq_getElem ht
    obtain⟨x,g1,g2⟩:=Ds hx' t _ hg
    have e1:args.getD (t-0) .un=args[t]:=by simp[ht]
    have hlt':t<vs.length:=by omega
    have e2:(vs.toArray++Array.replicate (fn.ntmps-vs.toArray.size) undef).getD t undef=x:=by
     rw[List.getElem?_eq_getElem hlt'] at g1
     simp at g1
     simp[Array.getD_eq_getD_getElem?,Array.getElem?_append_left,hlt',g1]
    rw[e1,e2];exact g2
   ·simp[Rep]
 have hw:=h σ.w.heap.size code hc τ _ ⟨hI,fun m hm=>hm.elim,trivial⟩
 refine callsIn_wide.1 (callsIn_of_wp_marks (n:=0) hf hb trivial (wpIn_mono hw ?_))
 rintro e a' w' ⟨σ',s',e',rfl,h2,h3,h4,h5⟩
 have h2:Evo τ σ':=h2
 have key:∀(s':St),At (Ctx.fn P S fn.ntmps σ.w.heap.size) σ' s' a'→F7 rvs r s'→LeavesInM Fence.wide 0 P fn a'.tmps (fun e w'=>∃v',e= .returned v'∧(∀(b:Nat) (o:Obj),σ.w.heap[b]? =some o→w'.heap[b]? =some o)∧SameO σ.w w'∧Cg r=true∧Rep (σ.at w') r v') a'.defers .returning σ'.w:=by
  rintro s' hA ⟨vc,xs,g1,g2,g3,g4,g5⟩
  refine GH a'.defers σ' (fun b hb=>⟨hA.1.h.ou b hb,fun hM=>hA.1.h.dis b hM hb⟩) (DOK.of' hA.1.df) fun ρ0 ko kO kb=> ?_
  have hI':Inv ρ0 s'.env s'.hp {a' with defers:=[]} fn.ntmps (σ.w.heap.size,false):=⟨hA.1.h.oth ko,hA.1.t.ev ko.ev,hA.1.sz,DOK.nil (Nat.le_trans hA.1.df.le ko.sz) (hA.1.df.gl.ev ko.ev)⟩
  obtain⟨us,k1,k2⟩:=Gt hI' hr g1 g2
  refine⟨_,Gu k1,_,rfl,fun b o hb=>kb b o (.inl (Array.getElem?_eq_some_iff.1 hb).1) (h2.fro b o hb (fun h=>h)).1,h2.io.trans ko.io,g5, ?_⟩
  have hone:Rep ρ0 (one xs) (if h:us.toArray.size=1 then us.toArray[0] else .tuple us.toArray):=by
   have hl':=Bz k2
   unfold one
   split
   ·rename_i x
    simp only[RepL] at k2
    obtain⟨y,ys,rfl,e2,rfl⟩:=k2
    simpa using e2
   ·rename_i hno
    have hne:us.toArray.size≠1:=by
     intro h1
     simp at h1
     rw[h1] at hl'
     cases xs with
     |nil=>simp at hl'
     |cons x xs=>cases xs with
      |nil=>exact hno x rfl
      |cons _ _=>simp at hl'
    rw[dif_neg hne]
    simp only[Rep]
    exact⟨us,rfl,k2⟩
  let ρ:Cf:={ρ0 with M:=fun _=>False}
  have e:Evo ρ0 ρ:=⟨fun _ h=>⟨h,rfl⟩,fun _ _ l h=>⟨l,h,Nat.le_refl _,fun _=>rfl⟩,fun _ _ h _=>⟨h,fun h=>h⟩,rfl,Nat.le_refl _,SameO.refl _⟩
  have h6:=Kw (τ:=ρ) hI'.h e rfl (fun _ h=>h) _ _ g3 hone
  have h7:=Hx _ _ _ g4 h6
  refine Rep.ofPure (σ:=ρ) (σ':=σ.at ρ0.w) (fun b hb=> ?_) (fun _ _=>rfl) r _ g5 h7
  have hO:ρ.O=τ.O:=kO.trans h2.out
  have hb1:=hb.2.1
  rw[hO] at hb1
  exact⟨fun h=>hb1 (.inl h),fun h=>hb1 (.inr h),hb.2.2⟩
 cases e with
 |normal=>simp[AE.of] at h4;subst h4;exact key s' h3 h5
 |ret=>simp[AE.of] at h4;subst h4;exact key s' h3 h5
 |exit i=>simp[AE.of] at h4;subst h4;exact h5.elim
 |goto l=>simp[AE.of] at h4
 |panic c=>obtain⟨v,rfl,rfl⟩:=AE.of_panic h4;exact h5.elim
 |outgrown=>simp[AE.of] at h4
def D4 (P:Program) (fn:Func):Option (AC×List RV):=
 match fn.body with
 |some b=>match cCode P fn.ntmps b,cRes P fn.results.toList with
  |some c,some r=>some (c,r)
  |_,_=>none
 |none=>none
theorem LD {S:Tab} (hS:TabOK P S) {f:Nat} {fn:Func} {c:AC} {rvs:List RV} {args:List AV} {r:AV} (nt:Nat) (hf:P.funcs[f]? =some fn) (hc:D4 P fn=some (c,rvs)) (hnt:fn.ntmps=nt)
  (hn:args.length≤nt) (h:∀hb,awp (Ctx.fn P S nt hb) c (B3 rvs r) ⟨Cj 0 args,[],0⟩):PCall P f args r:=by
 subst hnt
 unfold D4 at hc
 split at hc
 ·rename_i b hb
  split at hc
  ·rename_i c' r' h1 h2
   simp at hc
   obtain⟨rfl,rfl⟩:=hc
   exact X2 hS hf hb h1 h2 hn h
  ·simp at hc
 ·simp at hc
end
inductive Tch where
 |l (x:Loc)
 |b (n:Nm)
 deriving Inhabited
def cov:Tch→Loc→Prop
 | .l x,y=>x=y
 | .b n,y=>∃j,y= .c n j
def Hy (n:Nm):Nat→Nat→List Tch
 |_,0=>[]
 |o,k+1=> .l (.c n o)::Hy n (o+1) k
def NF:AV→List Tch
 | .own m _=>[.l (.a m)]
 | .mp m=>[.l (.c m 0)]
 |_=>[]
mutual
def rdV (hp:Hp):AV→List Tch
 | .own n _=>[.l (.a n)]
 | .elem n _ _ _ _=>[.l (.a n)]
 | .box n _=> .b n::(Cr hp n 0 40).flatMap NF
 | .agg cs=>rdL hp cs
 | .tup cs=>rdL hp cs
 | .clo _ xs ys=>rdL hp xs++rdL hp ys
 |_=>[]
def rdL (hp:Hp):List AV→List Tch
 |[]=>[]
 |c::cs=>rdV hp c++rdL hp cs
end
def Ui (sz:Nat):AV→List Tch
 | .box n o=>Hy n o sz
 | .elem n _ _ _ _=>[.l (.a n)]
 |_=>[]
def Uj (hp:Hp) (sz:Nat) (a x:AV):List Tch:=
 match a with
 | .box n o=>Hy n o sz
 | .elem n _ _ _ _=>[.l (.a n)]++(match x.cells with|some cs=>rdL hp cs|none=>[])
 |_=>[]
def rdM:AV→List Tch
 | .mp n=>[.l (.c n 0)]
 |_=>[]
def rdK (env:Env) (hp:Hp) (g:Bool):AK→List Tch
 | .ld sz _ x=>Ui sz (ung g (opv env x))
 | .st sz a x=>Uj hp sz (ung g (opv env a)) (ung g (opv env x))
 | .ia _ x _=>rdV hp (ung g (opv env x))
 | .len x=>rdV hp (ung g (opv env x))
 | .b2s x=>rdV hp (ung g (opv env x))
 | .app _ _ _ s x=>rdV hp (ung g (opv env s))++rdV hp (ung g (opv env x))
 | .slc _ x _ _ _=>rdV hp (ung g (opv env x))
 | .cap _| .appn _ _ _ _ _=>[]
 | .mkm| .rng _| .nxt _| .mks _ _ _ _ _| .ent _=>[]
 | .mlk _ _ m _=>rdM (ung g (opv env m))
 | .mup m _ x=>rdM (ung g (opv env m))++rdV hp (ung g (opv env x))
 | .bsl _ _ _ ps=>rdL hp ((ps.map fun(i,x)=>(i,ung g (opv env x))).map (·.2))
 | .call _ as=>rdL hp (as.map fun x=>ung g (opv env x))
 | .cv x as=>rdV hp (ung g (opv env x))++rdL hp (as.map fun x=>ung g (opv env x))
 | .allocB _| .pan _| .dfr _| .rcv| .pr _ _| .mv _| .pick _ _ _| .box _ _| .alloc _| .build _ _| .fa _ _| .fld _ _ _ _| .iaA _ _ _ _| .idxA _ _ _ _ _=>[]
 | .bin _ _ _ _| .un _ _| .ext _ _| .mm _ _| .mkf _ _ _| .nilc _| .cnv _ _| .nils _ _| .bad=>[]
def Ag (hp hp':Hp) (L:List Tch):Prop:=∀t∈L,∀l,cov t l→hl hp l=hl hp' l
theorem Ag.left {hp hp':Hp} {L M:List Tch} (h:Ag hp hp' (L++M)):Ag hp hp' L:=fun l hl=>h l (List.mem_append.2 (.inl hl))
theorem Ag.right {hp hp':Hp} {L M:List Tch} (h:Ag hp hp' (L++M)):Ag hp hp' M:=fun l hl=>h l (List.mem_append.2 (.inr hl))
theorem Ag.head {hp hp':Hp} {l:Loc} {L:List Tch} (h:Ag hp hp' (.l l::L)):hl hp l=hl hp' l:=h (.l l) (by simp) l rfl
theorem Ag.headb {hp hp':Hp} {n:Nm} {L:List Tch} (h:Ag hp hp' (.b n::L)) (j:Nat):hl hp (.c n j)=hl hp' (.c n j):=h (.b n) (by simp) _ ⟨j,rfl⟩
theorem Ag.tail {hp hp':Hp} {l:Tch} {L:List Tch} (h:Ag hp hp' (l::L)):Ag hp hp' L:=fun m hm=>h m (by simp[hm])
theorem OF {hp hp':Hp} {n:Nm}:∀{k o:Nat},Ag hp hp' (Hy n o k)→Ft hp n o k=Ft hp' n o k
 |0,_,_=>rfl
 |k+1,o,h=>by
  simp only[Hy] at h
  simp only[Ft,h.head,OF h.tail]
theorem OG {hp hp':Hp} {n:Nm}:∀{cs:List AV} {o:Nat},Ag hp hp' (Hy n o cs.length)→Jz hp n o cs=Jz hp' n o cs
 |[],_,_=>rfl
 |c::cs,o,h=>by
  simp only[List.length_cons,Hy] at h
  simp only[Jz,h.head,OG h.tail]
theorem Hz {hp hp':Hp} {n:Nm} (h:∀j,hl hp (.c n j)=hl hp' (.c n j)):∀{k o:Nat},Cr hp n o k=Cr hp' n o k
 |0,_=>rfl
 |k+1,o=>by simp only[Cr,h o,Hz h (k:=k) (o:=o+1)]
theorem Uk {hp hp':Hp} {c:AV} (h:Ag hp hp' (NF c)):Li hp c=Li hp' c∧Nz hp c=Nz hp' c:=by
 cases c with
 |own m l=>simp only[NF] at h;simp only[Li,Nz,h.head];exact⟨trivial,trivial⟩
 |_=>exact⟨rfl,rfl⟩
theorem Nt {hp hp':Hp}:∀{cs:List AV},Ag hp hp' (cs.flatMap NF)→cs.map (Li hp)=cs.map (Li hp')∧Kr hp cs=Kr hp' cs
 |[],_=>⟨rfl,rfl⟩
 |c::cs,h=>by
  simp only[List.flatMap_cons] at h
  obtain⟨h1,h2⟩:=Uk h.left
  obtain⟨h3,h4⟩:=Nt h.right
  simp only[List.map_cons,Kr,h1,h2,h3,h4];exact⟨trivial,trivial⟩
mutual
theorem Mo {hp hp':Hp}:∀{x:AV},Ag hp hp' (rdV hp x)→res hp x=res hp' x∧rvc hp x=rvc hp' x
 | .own n l,h=>by simp only[rdV] at h;simp only[res,rvc,h.head];exact⟨trivial,trivial⟩
 | .box n l,h=>by
  simp only[rdV] at h
  have e:=Hz h.headb (k:=40) (o:=0)
  obtain⟨h1,h2⟩:=Nt h.tail
  simp only[res,rvc,←e,h1,h2];exact⟨trivial,trivial⟩
 | .agg cs,h=>by
  simp only[rdV] at h
  obtain⟨h1,h2⟩:=F8 h
  simp only[res,rvc,h1,h2];exact⟨trivial,trivial⟩
 | .tup cs,h=>by
  simp only[rdV] at h
  obtain⟨h1,h2⟩:=F8 h
  simp only[res,rvc,h1,h2];exact⟨trivial,trivial⟩
 | .clo f xs ys,h=>by
  simp only[rdV] at h
  obtain⟨h1,h2⟩:=F8 h.left
  obtain⟨h3,h4⟩:=F8 h.right
  simp only[res,rvc,h1,h2,h3,h4];exact⟨trivial,trivial⟩
 | .v _,_=>⟨rfl,rfl⟩
 | .sl _ _ _ _,_=>⟨rfl,rfl⟩
 | .ro _ _,_=>⟨rfl,rfl⟩
 | .elem _ _ _ _ _,_=>⟨rfl,rfl⟩
 | .gd _ _,_=>⟨rfl,rfl⟩
 | .mp _,_=>⟨rfl,rfl⟩
 | .un,_=>⟨rfl,rfl⟩
theorem F8 {hp hp':Hp}:∀{xs:List AV},Ag hp hp' (rdL hp xs)→Ef hp xs=Ef hp' xs∧D3 hp xs=D3 hp' xs
 |[],_=>⟨rfl,rfl⟩
 |x::xs,h=>by
  simp only[rdL] at h
  obtain⟨h1,h2⟩:=Mo h.left
  obtain⟨h3,h4⟩:=F8 h.right
  simp only[Ef,D3,h1,h2,h3,h4];exact⟨trivial,trivial⟩
end
theorem KD {hp hp':Hp}:∀{ns:List Nm},(∀n∈ns,hl hp (.a n)=hl hp' (.a n))→frz hp ns=frz hp' ns
 |[],_=>rfl
 |n::ns,h=>by
  have ih:frz hp ns=frz hp' ns:=KD fun m hm=>h m (List.mem_cons_of_mem _ hm)
  simp only[frz,h n (List.mem_cons_self ..),ih]
mutual
theorem VI {hp:Hp} {n:Nm}:∀{x:AV},n∈ons x→Tch.l (.a n)∈rdV hp x
 | .own m l,h=>by simp[ons] at h;subst h;simp[rdV]
 | .agg cs,h=>by simp only[ons] at h;simp only[rdV];exact I4 h
 | .tup cs,h=>by simp only[ons] at h;simp only[rdV];exact I4 h
 | .clo f xs ys,h=>by
  simp only[ons,List.mem_append] at h
  simp only[rdV,List.mem_append]
  exact h.imp I4 I4
 | .box _ _,h=>by simp[ons] at h
 | .v _,h=>by simp[ons] at h
 | .sl _ _ _ _,h=>by simp[ons] at h
 | .ro _ _,h=>by simp[ons] at h
 | .elem _ _ _ _ _,h=>by simp[ons] at h
 | .gd _ _,h=>by simp[ons] at h
 | .mp _,h=>by simp[ons] at h
 | .un,h=>by simp[ons] at h
theorem I4 {hp:Hp} {n:Nm}:∀{xs:List AV},n∈B8 xs→Tch.l (.a n)∈rdL hp xs
 |[],h=>by simp[B8] at h
 |x::xs,h=>by
  simp only[B8,List.mem_append] at h
  simp only[rdL,List.mem_append]
  exact h.imp VI I4
end
theorem SM {hp hp':Hp} {sz:Nat} {x:AV} (h:Ag hp hp' (rdV hp x)):Lj hp sz x=Lj hp' sz x:=by
 cases x with
 |own n l=>simp only[rdV] at h;simp only[Lj,h.head]
 |v x=>
  cases x with
  |slice b n c=>cases n<;>rfl
  |_=>rfl
 |_=>rfl
theorem NG {hp:Hp} {n:Nm}:∀{xs:List AV},EA xs=some n→Tch.b n∈rdL hp xs
 |[],h=>by simp[EA] at h
 |c::cs,h=>by
  simp only[rdL,List.mem_append]
  cases c with
  |box m o=>simp only[EA,yE] at h;subst h;exact .inl (by simp[rdV])
  |_=>exact .inr (NG (by simpa [EA] using h))
theorem KU {hp hp':Hp} {X:AV} (h:Ag hp hp' (rdM X)):Iw hp X=Iw hp' X:=by
 cases X with
 |mp n=>simp only[rdM] at h;simp only[Iw,h.head]
 |v x=>
  cases x with
  |map r=>cases r<;>rfl
  |_=>rfl
 |_=>rfl
theorem VJ {hp hp':Hp} {c:AV} (h:Ag hp hp' (NF c)):qv1 hp c=qv1 hp' c:=by
 cases c with
 |mp m=>simp only[qv1,KU (X:= .mp m) h]
 |_=>rfl
theorem Ul {hp hp':Hp} {cs:List AV} (h:Ag hp hp' (cs.flatMap NF)):cs.map (qv1 hp)=cs.map (qv1 hp'):=
 List.map_congr_left fun c hc=>VJ fun t ht=>h t (List.mem_flatMap.2 ⟨c,hc,ht⟩)
theorem X3 {hp hp':Hp} {x:AV} (h:Ag hp hp' (rdV hp x)):qv hp x=qv hp' x:=by
 cases x with
 |box n o=>
  rw[rdV] at h
  have e:=Hz h.headb (k:=40) (o:=0)
  simp only[qv,←e,Ul h.tail]
 |_=>rfl
theorem Z2 {hp:Hp} {xs:List AV} {x:AV} (hx:x∈xs):∀t∈rdV hp x,t∈rdL hp xs:=by
 induction xs with
 |nil=>cases hx
 |cons y ys ih=>
  intro t ht
  rw[rdL]
  rcases List.mem_cons.1 hx with rfl|hx
  ·exact List.mem_append.2 (.inl ht)
  ·exact List.mem_append.2 (.inr (ih hx t ht))
theorem VK {hp hp':Hp} {xs:List AV} (h:Ag hp hp' (rdL hp xs)):xs.map (qv hp)=xs.map (qv hp'):=
 List.map_congr_left fun _ hx=>X3 fun t ht=>h t (Z2 hx t ht)
theorem Mp {S:Tab} {hp hp':Hp} {f:Nat} {xs:List AV} (h:Ag hp hp' (rdL hp xs)):Ix S hp f xs=Ix S hp' f xs:=by
 obtain⟨h1,h2⟩:=F8 h
 have h0:=VK h
 have h3:frz hp (B8 xs)=frz hp' (B8 xs):=KD fun n hn=>h _ (I4 hn) _ rfl
 have h4:∀n,EA xs=some n→∀j,hl hp (.c n j)=hl hp' (.c n j):=fun n hn j=>h (.b n) (NG hn) _ ⟨j,rfl⟩
 simp only[Ix,h0,h1,h2,h3]
 cases hb:EA xs with
 |none=>rfl
 |some n=>
  have h5:=h4 n hb
  have h6:Ie hp n=Ie hp' n:=by funext k;unfold Ie;simp only[h5]
  simp only[Hz h5,h6]
theorem Py {hp:Hp}:∀{xs ys:List AV},rdL hp (xs++ys)=rdL hp xs++rdL hp ys
 |[],ys=>rfl
 |x::xs,ys=>by simp only[List.cons_append,rdL,Py,List.append_assoc]
theorem AR {env env':Env} {x:Opd} (h:∀t∈Cu x,lk env t=lk env' t):opv env x=opv env' x:=by
 cases x with
 |t n=>exact h n (by simp[Cu])
 |k x=>rfl
theorem F9 {env env':Env} {g:Bool}:∀{xs:List Opd},(∀t∈HN xs,lk env t=lk env' t)→xs.map (fun x=>ung g (opv env x))=xs.map (fun x=>ung g (opv env' x))
 |[],_=>rfl
 |x::xs,h=>by
  simp only[HN,List.flatMap_cons,List.mem_append] at h
  simp only[List.map_cons]
  rw[AR fun t ht=>h t (.inl ht),F9 fun t ht=>h t (.inr ht)]
theorem Ti {S:Tab} {env env':Env} {hp:Hp} {nm:Nm} {g:Bool} {k:AK} (h:∀t∈akT k,lk env t=lk env' t):exK S env hp nm g k=exK S env' hp nm g k∧rdK env hp g k=rdK env' hp g k:=by
 cases k with
 |pr p xs=>simp only[exK,rdK,F9 (g:=g) h,and_self]
 |b2s x=>simp only[exK,rdK,AR h,and_self]
 |mv x=>simp only[exK,rdK,AR h,and_self]
 |pick c a b=>
  simp only[akT,List.mem_append] at h
  have h1:=AR fun t ht=>h t (.inl (.inl ht))
  have h2:=AR fun t ht=>h t (.inl (.inr ht))
  have h3:=AR fun t ht=>h t (.inr ht)
  simp only[exK,rdK,h1,h2,h3,and_self]
 |box n x=>simp only[exK,rdK,AR h,and_self]
 |alloc z=>exact⟨rfl,rfl⟩
 |build z ps=>
  have:ps.map (fun(o,s,x)=>(o,s,ung g (opv env x)))=ps.map (fun(o,s,x)=>(o,s,ung g (opv env' x))):=by
   apply List.map_congr_left
   rintro⟨o,s,x⟩ hm
   simp only[AR fun t ht=>h t (List.mem_flatMap.2 ⟨_,hm,ht⟩)]
  exact⟨congrArg (JV z) this,rfl⟩
 |bsl sz len z ps=>
  have:ps.map (fun(i,x)=>(i,ung g (opv env x)))=ps.map (fun(i,x)=>(i,ung g (opv env' x))):=by
   apply List.map_congr_left
   rintro⟨i,x⟩ hm
   simp only[AR fun t ht=>h t (List.mem_flatMap.2 ⟨_,hm,ht⟩)]
  exact⟨congrArg (Jf hp nm sz len z) this,by rw[rdK,rdK,this]⟩
 |ld sz ag x=>simp only[exK,rdK,AR h,and_self]
 |st sz a x=>
  simp only[akT,List.mem_append] at h
  have h1:=AR fun t ht=>h t (.inl ht)
  have h2:=AR fun t ht=>h t (.inr ht)
  simp only[exK,rdK,h1,h2,and_self]
 |fa o x=>simp only[exK,rdK,AR h,and_self]
 |fld o s ag x=>simp only[exK,rdK,AR h,and_self]
 |ia sz x i=>
  simp only[akT,List.mem_append] at h
  have h1:=AR fun t ht=>h t (.inl ht)
  have h2:=AR fun t ht=>h t (.inr ht)
  simp only[exK,rdK,h1,h2,and_self]
 |iaA n sz x i=>
  simp only[akT,List.mem_append] at h
  have h1:=AR fun t ht=>h t (.inl ht)
  have h2:=AR fun t ht=>h t (.inr ht)
  simp only[exK,rdK,h1,h2,and_self]
 |idxA n sz ag x i=>
  simp only[akT,List.mem_append] at h
  have h1:=AR fun t ht=>h t (.inl ht)
  have h2:=AR fun t ht=>h t (.inr ht)
  simp only[exK,rdK,h1,h2,and_self]
 |bin op tk x y=>
  simp only[akT,List.mem_append] at h
  have h1:=AR fun t ht=>h t (.inl ht)
  have h2:=AR fun t ht=>h t (.inr ht)
  cases tk<;>simp only[exK,rdK,h1,h2,and_self]
 |un op x=>simp only[exK,rdK,AR h,and_self]
 |ext x i=>simp only[exK,rdK,AR h,and_self]
 |call f as=>simp only[exK,rdK,F9 (g:=g) h,and_self]
 |cv x as=>
  simp only[akT,List.mem_append] at h
  have h1:=AR fun t ht=>h t (.inl ht)
  have h2:=F9 (g:=g) fun t ht=>h t (.inr ht)
  simp only[exK,rdK,h1,h2,and_self]
 |len x=>simp only[exK,rdK,AR h,and_self]
 |app sz by' z s x=>
  simp only[akT,List.mem_append] at h
  have h1:=AR fun t ht=>h t (.inl ht)
  have h2:=AR fun t ht=>h t (.inr ht)
  simp only[exK,rdK,h1,h2,and_self]
 |mm m xs=>simp only[exK,rdK,F9 (g:=g) h,and_self]
 |mkf f a b=>
  simp only[akT,List.mem_append] at h
  have h1:=F9 (g:=g) fun t ht=>h t (.inl ht)
  have h2:=F9 (g:=g) fun t ht=>h t (.inr ht)
  simp only[exK,rdK,h1,h2,and_self]
 |slc sz x l hh m=>
  simp only[akT,List.mem_append] at h
  have e1:=AR fun t ht=>h t (.inl (.inl (.inl ht)))
  have eo:∀y:Option Opd,(∀t∈HN y.toList,lk env t=lk env' t)→(y.map fun x=>ung g (opv env x))=(y.map fun x=>ung g (opv env' x)):=by
   intro y hy
   cases y with
   |none=>rfl
   |some y=>simp only[Option.map_some];rw[AR fun t ht=>hy t (by simpa [HN] using ht)]
  have e2:=eo l fun t ht=>h t (.inl (.inl (.inr ht)))
  have e3:=eo hh fun t ht=>h t (.inl (.inr ht))
  have e4:=eo m fun t ht=>h t (.inr ht)
  simp only[exK,rdK,e1,e2,e3,e4,and_self]
 |nilc x=>simp only[exK,rdK,AR h,and_self]
 |cnv k x=>simp only[exK,rdK,AR h,and_self]
 |nils n x=>simp only[exK,rdK,AR h,and_self]
 |cap x=>simp only[exK,rdK,AR h,and_self]
 |appn sz by' z s x=>
  simp only[akT,List.mem_append] at h
  have h1:=AR fun t ht=>h t (.inl ht)
  have h2:=AR fun t ht=>h t (.inr ht)
  simp only[exK,rdK,h1,h2,and_self]
 |pan x=>exact⟨rfl,rfl⟩
 |dfr x=>exact⟨rfl,rfl⟩
 |rcv=>exact⟨rfl,rfl⟩
 |allocB _=>exact⟨rfl,rfl⟩
 |mks sz by' z s x=>
  simp only[akT,List.mem_append] at h
  have h1:=AR fun t ht=>h t (.inl ht)
  have h2:=AR fun t ht=>h t (.inr ht)
  simp only[exK,rdK,h1,h2,and_self]
 |ent x=>exact⟨rfl,rfl⟩
 |mkm=>exact⟨rfl,rfl⟩
 |mlk zd ok m k=>
  simp only[akT,List.mem_append] at h
  have h1:=AR fun t ht=>h t (.inl ht)
  have h2:=AR fun t ht=>h t (.inr ht)
  simp only[exK,rdK,h1,h2,and_self]
 |mup m k x=>
  simp only[akT,List.mem_append] at h
  have h1:=AR fun t ht=>h t (.inl (.inl ht))
  have h2:=AR fun t ht=>h t (.inl (.inr ht))
  have h3:=AR fun t ht=>h t (.inr ht)
  simp only[exK,rdK,h1,h2,h3,and_self]
 |rng x=>exact⟨rfl,rfl⟩
 |nxt x=>exact⟨rfl,rfl⟩
 |bad=>exact⟨rfl,rfl⟩
theorem SN {hp hp':Hp} {zd X Y:AV} {ok:Bool} (h:Ag hp hp' (rdM X)):Kv hp zd ok X Y=Kv hp' zd ok X Y:=by
 unfold Kv;rw[KU h]
theorem SO {hp hp':Hp} {X Y Z:AV} (h:Ag hp hp' (rdM X++rdV hp Z)):Lk hp X Y Z=Lk hp' X Y Z:=by
 obtain⟨h2,h3⟩:=Mo h.right
 have h4:frz hp (ons Z)=frz hp' (ons Z):=KD fun n hn=>h.right _ (VI hn) _ rfl
 have h1:=KU h.left
 cases X with
 |mp n=>simp only[Lk,h1,h2,h3,h4]
 |_=>rfl
theorem SP {hp hp':Hp} {nm:Nm} {sz len:Nat} {z:List AV} {qs:List (Nat×AV)} (h2:D3 hp (qs.map (·.2))=D3 hp' (qs.map (·.2))) (h3:frz hp (B8 (qs.map (·.2)))=frz hp' (B8 (qs.map (·.2))))
  (h4:qs.map (fun(i,x)=>(i,res hp x))=qs.map (fun(i,x)=>(i,res hp' x))):Jf hp nm sz len z qs=Jf hp' nm sz len z qs:=by
 unfold Jf
 rw[h4,h2,h3]
theorem Z3 {hp hp':Hp} {xs:List AV} (h:Ag hp hp' (rdL hp xs)):∀x∈xs,res hp x=res hp' x:=by
 induction xs with
 |nil=>intro x hx;cases hx
 |cons y ys ih=>
  rw[rdL] at h
  intro x hx
  rcases List.mem_cons.1 hx with rfl|hx
  ·exact(Mo h.left).1
  ·exact ih h.right x hx
theorem X4 {f g:AV→AV} {qs:List (Nat×AV)} (h:∀x∈qs.map (·.2),f x=g x):qs.map (fun(i,x)=>(i,f x))=qs.map (fun(i,x)=>(i,g x)):=by
 apply List.map_congr_left
 rintro⟨i,x⟩ hx
 have:=h x (List.mem_map.2 ⟨_,hx,rfl⟩)
 simp only[this]
theorem VL {hp hp':Hp} {nm:Nm} {sz len:Nat} {z:List AV} {qs:List (Nat×AV)} (h:Ag hp hp' (rdL hp (qs.map (·.2)))):Jf hp nm sz len z qs=Jf hp' nm sz len z qs:=
 SP (F8 h).2 (KD fun n hn=>h _ (I4 hn) _ rfl) (X4 (Z3 h))
theorem VM {S:Tab} {env:Env} {hp hp':Hp} {nm:Nm} {g:Bool} {k:AK} (h:Ag hp hp' (rdK env hp g k)):exK S env hp nm g k=exK S env hp' nm g k:=by
 cases k with
 |ld sz ag x=>
  simp only[exK,rdK] at h⊢
  generalize ung g (opv env x)=X at h⊢
  cases X with
  |box n o=>simp only[Ui] at h;simp only[HZ,OF h]
  |elem n l z i o=>simp only[Ui] at h;simp only[HZ,h.head]
  |v X=>cases X with
   |pointer p=>cases p with
    |some ad=>obtain⟨_,_,sp⟩:=ad;cases sp<;>rfl
    |none=>rfl
   |_=>rfl
  |_=>rfl
 |st sz a x=>
  simp only[exK,rdK] at h⊢
  generalize ung g (opv env x)=X at h⊢
  generalize ung g (opv env a)=A at h⊢
  unfold Rb
  cases hc:X.cells with
  |none=>rfl
  |some cs=>
   simp only
   by_cases hl':cs.length=sz
   ·rw[if_pos hl',if_pos hl']
    cases A with
    |box n o=>simp only[Uj] at h;rw[←hl'] at h;simp only[OG h]
    |elem n l z i o=>
     simp only[Uj,hc] at h
     have h1:=h.head
     obtain⟨h2,h3⟩:=F8 h.tail
     simp only[h1,h2,h3]
    |_=>rfl
   ·rw[if_neg hl',if_neg hl']
 |ia sz x i=>
  simp only[exK,rdK] at h⊢
  generalize ung g (opv env x)=X at h⊢
  generalize ung g (opv env i)=I at h⊢
  cases X with
  |own n l=>
   simp only[rdV] at h
   cases I with
   |v q=>cases q<;>first|rfl|simp only[Pr,h.head]
   |_=>rfl
  |sl _ _ _ _=>
   cases I with
   |v q=>cases q<;>rfl
   |_=>rfl
  |_=>rfl
 |len x=>
  simp only[exK,rdK] at h⊢
  generalize ung g (opv env x)=X at h⊢
  cases X with
  |own n l=>simp only[rdV] at h;simp only[Ku,h.head]
  |_=>rfl
 |b2s x=>
  simp only[exK,rdK] at h⊢
  generalize ung g (opv env x)=X at h⊢
  cases X with
  |own n l=>simp only[rdV] at h;simp only[Kt,h.head]
  |_=>rfl
 |app sz by' z s x=>
  simp only[exK,rdK] at h⊢
  generalize ung g (opv env s)=X at h⊢
  generalize ung g (opv env x)=Y at h⊢
  unfold MS
  rw[SM h.right]
  cases X with
  |own n l=>have:=h.left;simp only[rdV] at this;simp only[this.head]
  |_=>rfl
 |slc sz x l hh m=>
  simp only[exK,rdK] at h⊢
  generalize ung g (opv env x)=X at h⊢
  have e1:∀lo hi mx,Ks hp sz X lo hi mx=Ks hp' sz X lo hi mx:=by
   intro lo hi mx
   unfold Ks
   cases X with
   |own n l'=>simp only[rdV] at h;simp only[h.head,frz]
   |_=>rfl
  have e2:∀lo hi mx,H0 hp nm sz X lo hi mx=H0 hp' nm sz X lo hi mx:=by
   intro lo hi mx
   cases X with
   |own n l'=>
    simp only[rdV] at h
    rcases lo with _|lo<;>rcases hi with _|hi<;>rcases mx with _|mx<;>try (simp only[H0,e1];done)
    all_goals (rcases hi with c|_|_|_|_|_|_|_|_|_|_<;>try (simp only[H0,e1];done))
    all_goals (cases c<;>first|(simp only[H0,e1];done)|simp only[H0,h.head])
   |_=>exact e1 lo hi mx
  simp only[e1,e2]
 |bsl sz len z ps=>
  simp only[exK]
  rw[rdK] at h
  exact VL h
 |call f as=>
  simp only[exK,rdK] at h⊢
  exact Mp h
 |cv x as=>
  simp only[exK,rdK] at h⊢
  generalize ung g (opv env x)=X at h⊢
  generalize (as.map fun x=>ung g (opv env x))=Y at h⊢
  unfold Rc
  cases X with
  |clo fn a b=>
   cases fn with
   |func f=>
    simp only[rdV] at h
    refine Mp ?_
    rw[Py,Py]
    intro l hl'
    simp only[List.mem_append] at hl'
    rcases hl' with(h1|h1)|h1
    ·exact h.left.left l h1
    ·exact h.right l h1
    ·exact h.left.right l h1
   |_=>rfl
  |_=>rfl
 |bin op tk x y=>cases tk<;>rfl
 |mlk zd ok m k=>
  simp only[exK,rdK] at h⊢
  exact SN h
 |mup m k x=>
  simp only[exK,rdK] at h⊢
  exact SO h
 |_=>rfl
def rdO (env:Env) (hp:Hp) (o:AOp):List Tch:=
 match EF env o.g with
 |some g=>rdK env hp g o.k
 |none=>[]
theorem LE {S:Tab} {nm:Nm} {env env':Env} {hp hp':Hp} {o:AOp} (ht:∀t∈J7 o,lk env t=lk env' t) (hh:Ag hp hp' (rdO env hp o)):Ig S nm env hp o=Ig S nm env' hp' o:=by
 have hk:∀g,exK S env hp nm g o.k=exK S env' hp nm g o.k:=fun g=>(Ti fun t h=>ht t (by simp[J7,h])).1
 have hrd:∀g,rdK env hp g o.k=rdK env' hp g o.k:=fun g=>(Ti (S:=S) (nm:=nm) fun t h=>ht t (by simp[J7,h])).2
 have hg:EF env o.g=EF env' o.g:=by
  cases hgo:o.g with
  |none=>rfl
  |some p=>
   obtain⟨t,w⟩:=p
   simp only[EF]
   rw[ht t (by simp[J7,hgo])]
 unfold Ig
 cases hgo:o.g with
 |none=>
  simp only
  have h2:EF env o.g=some true:=by rw[hgo];rfl
  simp only[rdO,h2] at hh
  rw[hk]
  rw[hrd] at hh
  exact VM hh
 |some p=>
  simp only
  rw[←hgo,←hg]
  cases hgv:EF env o.g with
  |none=>rfl
  |some g=>
   simp only
   simp only[rdO,hgv] at hh
   rw[hrd] at hh
   rw[hk g,VM hh]
theorem IH {o:Option (Prop×AV)} {vc:Prop} {r:AV} {ws:Hp} (h:vr o=some (vc,r,ws)):ws=[]:=by
 unfold vr at h
 split at h
 ·simp at h;exact h.2.2
 ·simp at h
theorem Tj {S:Tab} {env:Env} {hp:Hp} {nm:Nm} {g:Bool} {k:AK} {vc:Prop} {r:AV} {ws:Hp} (hk:hw k=false) (h:exK S env hp nm g k=some (vc,r,ws)):ws=[]:=by
 cases k with
 |box _ _=>simp[hw] at hk
 |alloc _=>simp[hw] at hk
 |bsl _ _ _ _=>simp[hw] at hk
 |st _ _ _=>simp[hw] at hk
 |call _ _=>simp[hw] at hk
 |cv _ _=>simp[hw] at hk
 |app _ _ _ _ _=>simp[hw] at hk
 |slc _ _ _ _ _=>simp[hw] at hk
 |appn _ _ _ _ _=>simp[hw] at hk
 |cap x=>
  simp only[exK] at h
  generalize ung g (opv env x)=X at h
  unfold Oc at h
  split at h<;>simp at h<;>exact h.2.2
 |pr p xs=>simp only[exK] at h;exact IH h
 |b2s x=>
  simp only[exK] at h
  generalize ung g (opv env x)=X at h
  unfold Kt at h
  split at h
  ·simp at h;exact h.2.2
  ·split at h<;>simp at h
   exact h.2.2
  ·simp at h
 |mv x=>simp[exK] at h;exact h.2.2
 |pick c a b=>
  simp only[exK,Mb] at h
  split at h
  ·split at h<;>simp at h<;>exact h.2.2
  ·simp at h
 |build z ps=>
  simp only[exK,JV] at h
  split at h<;>simp at h
  exact h.2.2
 |ld sz ag x=>
  simp only[exK] at h
  generalize ung g (opv env x)=X at h
  unfold HZ at h
  split at h
  ·exact IH h
  ·split at h
   ·exact IH h
   ·simp at h
  ·split at h
   ·exact IH h
   ·simp at h
  ·split at h
   ·split at h
    ·exact IH h
    ·simp at h
   ·simp at h
  ·simp at h
 |fa o x=>
  simp only[exK] at h
  generalize ung g (opv env x)=X at h
  unfold JA at h
  split at h<;>simp at h<;>exact h.2.2
 |fld o s ag x=>
  simp only[exK] at h
  generalize ung g (opv env x)=X at h
  unfold MT at h
  split at h
  ·split at h
   ·exact IH h
   ·simp at h
  ·simp at h
 |ia sz x i=>
  simp only[exK] at h
  generalize ung g (opv env x)=X at h
  generalize ung g (opv env i)=I at h
  unfold Pr at h
  split at h
  ·simp at h;exact h.2.2
  ·split at h<;>simp at h
   exact h.2.2
  ·simp at h
 |iaA n sz x i=>
  simp only[exK] at h
  generalize ung g (opv env x)=X at h
  generalize ung g (opv env i)=I at h
  unfold Od at h
  split at h<;>simp at h<;>exact h.2.2
 |idxA n sz ag x i=>
  simp only[exK] at h
  generalize ung g (opv env x)=X at h
  generalize ung g (opv env i)=I at h
  unfold Mc at h
  split at h
  ·split at h
   ·exact IH h
   ·simp at h
  ·simp at h
 |bin op tk x y=>
  cases tk with
  |cells n=>
   simp only[exK] at h
   generalize ung g (opv env x)=X at h
   generalize ung g (opv env y)=Y at h
   unfold Oe at h
   split at h
   ·split at h<;>simp at h<;>exact h.2.2
   ·simp at h
  |_=>simp only[exK] at h;exact IH h
 |un op x=>simp only[exK] at h;exact IH h
 |ext x i=>
  simp only[exK] at h
  generalize ung g (opv env x)=X at h
  unfold MU at h
  split at h
  ·split at h<;>simp at h
   exact h.2.2
  ·simp at h
 |len x=>
  simp only[exK] at h
  generalize ung g (opv env x)=X at h
  unfold Ku at h
  split at h
  ·simp at h;exact h.2.2
  ·split at h<;>simp at h
   exact h.2.2
  ·simp at h
 |mm m xs=>
  simp only[exK] at h
  generalize (xs.map fun x=>ung g (opv env x))=X at h
  unfold Ps at h
  split at h
  ·split at h<;>simp at h
   exact h.2.2
  ·simp at h
 |mkf f a b=>simp[exK] at h;exact h.2.2
 |nilc x=>
  simp only[exK] at h
  generalize ung g (opv env x)=X at h
  unfold Of at h
  split at h<;>simp at h<;>exact h.2.2
 |cnv k x=>
  simp only[exK] at h
  generalize ung g (opv env x)=X at h
  unfold Og at h
  split at h<;>simp at h
  exact h.2.2
 |nils n x=>
  simp only[exK] at h
  generalize ung g (opv env x)=X at h
  unfold Md at h
  split at h<;>simp at h<;>exact h.2.2
 |pan x=>simp[exK] at h
 |dfr x=>simp[exK] at h
 |rcv=>simp[exK] at h
 |allocB _=>simp[exK] at h
 |mkm=>simp[hw] at hk
 |mks _ _ _ _ _=>simp[hw] at hk
 |ent _=>simp[exK] at h
 |mup _ _ _=>simp[hw] at hk
 |rng _=>simp[exK] at h
 |nxt _=>simp[exK] at h
 |mlk zd ok m k=>
  simp only[exK] at h
  generalize ung g (opv env m)=X at h
  generalize ung g (opv env k)=Y at h
  unfold Kv at h
  split at h
  ·simp at h;exact h.2.2
  ·simp at h
 |bad=>simp[exK] at h
theorem NH {S:Tab} {env:Env} {hp:Hp} {nm:Nm} {o:AOp} {vc:Prop} {r:AV} {ws:Hp} (hk:hw o.k=false) (h:Ig S nm env hp o=some (vc,r,ws)):ws=[]:=by
 unfold Ig at h
 split at h
 ·exact Tj hk h
 ·split at h
  ·simp at h
  ·split at h
   ·simp at h;exact h.2.2
   ·simp at h;exact h.2.2
   ·rename_i he
    have:=Tj hk he
    simp at this
theorem M2 {env:Env} {hp:Hp} {o:AOp} (hk:ht o.k=false):rdO env hp o=[]:=by
 unfold rdO
 split
 ·cases hc:o.k<;>simp[hc,ht,hw] at hk<;>rfl
 ·rfl
structure Rec where
 d:Option Nat
 r:AV
 ws:Hp
 rd:List Tch
 deriving Inhabited
def LF (S:Tab) (ver:Nat):Nat→List AOp→Env→Hp→Option (Prop×Env×Hp×List Rec)
 |_,[],env,hp=>some (True,env,hp,[])
 |k,o::r,env,hp=>
  match Ig S (k,ver) env hp o with
  |none=>none
  |some (vc,x,ws)=>
   match LF S ver (k+1) r (BX o.d x env) (ws++hp) with
   |none=>none
   |some (vcs,e,h,rs)=>some (vc∧vcs,e,h,⟨o.d,x,ws,bif ht o.k then rdO env hp o else[]⟩::rs)
def Pz:Tch→Loc→Bool
 | .l x,y=>decide (x=y)
 | .b n,.c m _=>decide (n=m)
 | .b _,.a _=>false
theorem Tk {t:Tch} {l:Loc} (h:cov t l):Pz t l=true:=by
 cases t with
 |l x=>simpa [Pz,cov] using h
 |b n=>obtain⟨j,rfl⟩:=h;simp[Pz]
def GI (l:Loc) (ws:Hp):Bool:=ws.any fun p=>decide (p.1=l)
def PA (a b:Rec):Bool:=
 (a.ws.all fun p=>(b.rd.all fun t=> !Pz t p.1)&& !GI p.1 b.ws)&&b.ws.all fun p=>a.rd.all fun t=> !Pz t p.1
def LG (recs:List Rec):List (Nat×Nat)→Bool
 |[]=>true
 |(k,j)::r=>PA (recs.getD k default) (recs.getD j default)&&LG recs r
theorem Kb {B:List Nat}:∀{es:List Nat} {s k:Nat},(es.foldl (fun s e=>s|||2^e|||B.getD e 0) s).testBit k=true↔s.testBit k=true∨∃e∈es,k=e∨(B.getD e 0).testBit k=true
 |[],s,k=>by simp
 |e::es,s,k=>by
  rw[List.foldl_cons,Kb]
  simp only[Nat.testBit_or,Bool.or_eq_true,Nat.testBit_two_pow,decide_eq_true_eq,List.mem_cons,exists_eq_or_imp]
  constructor
  ·rintro((h|h)|h)
   ·rcases h with h|h
    ·exact .inl h
    ·exact .inr (.inl (.inl h.symm))
   ·exact .inr (.inl (.inr h))
   ·exact .inr (.inr h)
  ·rintro(h|(h|h)|h)
   ·exact .inl (.inl (.inl h))
   ·exact .inl (.inl (.inr h.symm))
   ·exact .inl (.inr h)
   ·exact .inr h
theorem JL {B:List Nat}:∀{l:List Oper} {j:Nat},M0 B j l=true→∀i o,l[i]? =some o→(∀e∈CY o,e<j+i)∧B.getD (j+i) 0=He B (CY o)
 |[],_,_,i,o,ho=>by simp at ho
 |p::r,j,h,i,o,ho=>by
  simp only[M0,Bool.and_eq_true,List.all_eq_true,decide_eq_true_eq,beq_iff_eq] at h
  cases i with
  |zero=>simp at ho;subst ho;exact h.1
  |succ i=>
   have:=JL h.2 i o (by simpa using ho)
   rw[show j+(i+1)=j+1+i by omega]
   exact this
theorem LH {a b:AOp} (h:HO a b=true):(∀t,a.d=some t→t∉J7 b∧b.d≠some t)∧∀t,b.d=some t→t∉J7 a:=by
 unfold HO at h
 simp only[Bool.and_eq_true] at h
 refine⟨fun t ht=> ?_,fun t ht=> ?_⟩
 ·have:=h.1;rw[ht] at this;simpa using this
 ·have:=h.2;rw[ht] at this;simpa using this
theorem JM {B:Nat} {o:AOp}:∀{l:List AOp} {k:Nat},Ox B o k l=true→∀i p,l[i]? =some p→B.testBit (k+i)=true∨HO p o=true
 |[],_,_,i,p,hp=>by simp at hp
 |q::r,k,h,i,p,hp=>by
  simp only[Ox,Bool.and_eq_true,Bool.or_eq_true] at h
  cases i with
  |zero=>simp at hp;subst hp;exact h.1
  |succ i=>
   have:=JM h.2 i p (by simpa using hp)
   rw[show k+(i+1)=k+1+i by omega]
   exact this
theorem JN {B j:Nat} {o:AOp}:∀{l:List AOp} {k:Nat},∀i p,l[i]? =some p→B.testBit (k+i)=true∨((hw p.k&&ht o.k)||(ht p.k&&hw o.k))=false∨(k+i,j)∈M1 B j o k l
 |[],_,i,p,hp=>by simp at hp
 |q::r,k,i,p,hp=>by
  simp only[M1]
  cases i with
  |zero=>
   simp at hp;subst hp
   rw[Nat.add_zero]
   cases h1:B.testBit k with
   |true=>exact .inl rfl
   |false=>
    right
    cases h2:((hw q.k&&ht o.k)||(ht q.k&&hw o.k)) with
    |false=>exact .inl rfl
    |true=>right;simp
  |succ i=>
   rcases JN (B:=B) (j:=j) (o:=o) (k:=k+1) i p (by simpa using hp) with h|h|h
   ·rw[show k+(i+1)=k+1+i by omega];exact .inl h
   ·exact .inr (.inl h)
   ·right;right
    rw[show k+(i+1)=k+1+i by omega]
    cases(!B.testBit k&&((hw q.k&&ht o.k)||(ht q.k&&hw o.k))) with
    |true=>exact List.mem_cons_of_mem _ h
    |false=>exact h
theorem LI {B:List Nat} {all:List AOp}:∀{l:List AOp} {j:Nat},tOK B all j l=true→∀i o,l[i]? =some o→Ox (B.getD (j+i) 0) o 0 (all.take (j+i))=true
 |[],_,_,i,o,ho=>by simp at ho
 |q::r,j,h,i,o,ho=>by
  simp only[tOK,Bool.and_eq_true] at h
  cases i with
  |zero=>simp at ho;subst ho;exact h.1
  |succ i=>
   have:=LI h.2 i o (by simpa using ho)
   rw[show j+(i+1)=j+1+i by omega]
   exact this
theorem LJ {B:List Nat} {all:List AOp}:∀{l:List AOp} {j:Nat},∀i o,l[i]? =some o→∀x∈M1 (B.getD (j+i) 0) (j+i) o 0 (all.take (j+i)),x∈unl B all j l
 |[],_,i,o,ho=>by simp at ho
 |q::r,j,i,o,ho=>by
  intro x hx
  simp only[unl,List.mem_append]
  cases i with
  |zero=>simp at ho;subst ho;exact .inl hx
  |succ i=>
   right
   refine LJ (all:=all) i o (by simpa using ho) x ?_
   rw[show j+(i+1)=j+1+i by omega] at hx
   exact hx
theorem Mq {recs:List Rec}:∀{u:List (Nat×Nat)},LG recs u=true→∀k j,(k,j)∈u→PA (recs.getD k default) (recs.getD j default)=true
 |[],_,k,j,h=>by simp at h
 |(a,b)::r,h,k,j,hm=>by
  simp only[LG,Bool.and_eq_true] at h
  rcases List.mem_cons.1 hm with e|e
  ·simp at e;obtain⟨rfl,rfl⟩:=e;exact h.1
  ·exact Mq h.2 k j e
theorem Mr {a b:Rec} (h:PA a b=true) (l:Loc):(GI l a.ws=true→(∀t∈b.rd,¬cov t l)∧GI l b.ws=false)∧(GI l b.ws=true→∀t∈a.rd,¬cov t l):=by
 simp only[PA,Bool.and_eq_true,List.all_eq_true,Bool.not_eq_true'] at h
 constructor
 ·intro hl
  simp only[GI,List.any_eq_true,decide_eq_true_eq] at hl
  obtain⟨p,hp,rfl⟩:=hl
  obtain⟨h1,h2⟩:=h.1 p hp
  exact⟨fun t ht hc=>by have:=h1 t ht;rw[Tk hc] at this;simp at this,h2⟩
 ·intro hl t ht hc
  simp only[GI,List.any_eq_true,decide_eq_true_eq] at hl
  obtain⟨p,hp,rfl⟩:=hl
  have:=h.2 p hp t ht
  rw[Tk hc] at this
  simp at this
def ED (rec:Nat→Rec) (env:Env):List Nat→Env
 |[]=>env
 |i::L=>BX (rec i).d (rec i).r (ED rec env L)
def hpL (rec:Nat→Rec) (hp:Hp):List Nat→Hp
 |[]=>hp
 |i::L=>(rec i).ws++hpL rec hp L
theorem OH {d:Option Nat} {x:AV} {env:Env} {t:Nat}:lk (BX d x env) t=if d=some t then x else lk env t:=by
 cases d with
 |none=>simp[BX]
 |some d=>simp[BX,lk]
theorem eN {ws h:Hp} {l:Loc} (hn:GI l ws=false):hl (ws++h) l=hl h l:=by
 induction ws with
 |nil=>rfl
 |cons w ws ih=>
  obtain⟨k,x⟩:=w
  simp only[GI,List.any_cons,Bool.or_eq_false_iff,decide_eq_false_iff_not] at hn
  simp only[List.cons_append,hl,if_neg hn.1]
  exact ih hn.2
theorem X5 {ws h h':Hp} {l:Loc} (e:hl h l=hl h' l):hl (ws++h) l=hl (ws++h') l:=by
 induction ws with
 |nil=>exact e
 |cons w ws ih=>obtain⟨k,x⟩:=w;simp only[List.cons_append,hl,ih]
theorem H4 {rec:Nat→Rec} {env:Env} {t:Nat}:∀(L:List Nat),lk (ED rec env L) t=lk (ED rec env (L.filter fun i=>decide ((rec i).d=some t))) t
 |[]=>rfl
 |i::L=>by
  rw[List.filter_cons]
  simp only[ED,OH]
  by_cases h:(rec i).d=some t
  ·simp[h,ED,OH]
  ·simp only[h,if_neg,not_false_eq_true,decide_false,yF,if_false]
   exact H4 L
theorem HP {rec:Nat→Rec} {hp:Hp} {l:Loc}:∀(L:List Nat),hl (hpL rec hp L) l=hl (hpL rec hp (L.filter fun i=>GI l (rec i).ws)) l
 |[]=>rfl
 |i::L=>by
  rw[List.filter_cons]
  simp only[hpL]
  cases h:GI l (rec i).ws with
  |true=>simp only[if_true,hpL];exact X5 (HP L)
  |false=>simp only[yF,if_false];rw[eN h];exact HP L
theorem Qe:∀{L M:List Nat},L.Pairwise (·>·)→M.Pairwise (·>·)→(∀i,i∈L↔i∈M)→L=M
 |[],[],_,_,_=>rfl
 |[],m::M,_,_,h=>by have:=(h m).2 (by simp);simp at this
 |l::L,[],_,_,h=>by have:=(h l).1 (by simp);simp at this
 |l::L,m::M,h1,h2,h=>by
  rw[List.pairwise_cons] at h1 h2
  have e:l=m:=by
   rcases List.mem_cons.1 ((h l).1 (by simp)) with e|e
   ·exact e
   ·rcases List.mem_cons.1 ((h m).2 (by simp)) with e'|e'
    ·exact e'.symm
    ·have:=h2.1 l e;have:=h1.1 m e';omega
  subst e
  rw[Qe h1.2 h2.2 fun i=> ?_]
  constructor
  ·intro hi
   rcases List.mem_cons.1 ((h i).1 (List.mem_cons_of_mem _ hi)) with e|e
   ·have:=h1.1 i hi;omega
   ·exact e
  ·intro hi
   rcases List.mem_cons.1 ((h i).2 (List.mem_cons_of_mem _ hi)) with e|e
   ·have:=h2.1 i hi;omega
   ·exact e
def Dt:Nat→List Nat
 |0=>[]
 |n+1=>n::Dt n
theorem Fv:∀{n i:Nat},i∈Dt n↔i<n
 |0,i=>by simp[Dt]
 |n+1,i=>by simp only[Dt,List.mem_cons,Fv];omega
theorem Nu:∀n,(Dt n).Pairwise (·>·)
 |0=> .nil
 |n+1=>List.pairwise_cons.2 ⟨fun i hi=>Fv.1 hi,Nu n⟩
theorem KE {p:Nat→Bool} {L:List Nat} {j:Nat} (hL:(L.filter p).Pairwise (·>·)) (hm:∀i,p i=true→(i∈L↔i<j)):L.filter p=(Dt j).filter p:=
 Qe hL ((Nu j).filter p) fun i=>by
  simp only[List.mem_filter,Fv]
  exact⟨fun h=>⟨(hm i h.2).1 h.1,h.2⟩,fun h=>⟨(hm i h.2).2 h.1,h.2⟩⟩
def Ib (X:Nat→Env→Hp→AOp→Option (Prop×AV×Hp)):Nat→List AOp→Env→Hp→Option (Prop×Env×Hp×List Rec)
 |_,[],env,hp=>some (True,env,hp,[])
 |k,o::r,env,hp=>
  match X k env hp o with
  |none=>none
  |some (vc,x,ws)=>
   match Ib X (k+1) r (BX o.d x env) (ws++hp) with
   |none=>none
   |some (vcs,e,h,rs)=>some (vc∧vcs,e,h,⟨o.d,x,ws,bif ht o.k then rdO env hp o else[]⟩::rs)
theorem RK {S:Tab} {ver:Nat}:∀(l:List AOp) (k:Nat) (e:Env) (h:Hp),LF S ver k l e h=Ib (fun i e h o=>Ig S (i,ver) e h o) k l e h
 |[],_,_,_=>rfl
 |o::l,k,e,h=>by simp only[LF,Ib,RK l]
theorem JO {X:Nat→Env→Hp→AOp→Option (Prop×AV×Hp)} {bs:Nat} {rec:Nat→Rec} {env0:Env} {hp0:Hp} {all:List AOp}:∀(l:List AOp) (k:Nat) (rs:List Rec) (vc:Prop) (e:Env) (h:Hp),
  (∀i,l[i]? =all[k+i]?)→Ib X (bs+k) l (ED rec env0 (Dt k)) (hpL rec hp0 (Dt k))=some (vc,e,h,rs)→vc→(∀i,i<l.length→rs[i]? =some (rec (k+i)))→
  e=ED rec env0 (Dt (k+l.length))∧h=hpL rec hp0 (Dt (k+l.length))∧
  ∀i o,l[i]? =some o→∃vc:Prop,vc∧X (bs+(k+i)) (ED rec env0 (Dt (k+i))) (hpL rec hp0 (Dt (k+i))) o=some (vc,(rec (k+i)).r,(rec (k+i)).ws)∧(rec (k+i)).d=o.d∧(rec (k+i)).rd=rdO (ED rec env0 (Dt (k+i))) (hpL rec hp0 (Dt (k+i))) o
 |[],k,rs,vc,e,h,_,hex,_,_=>by
  simp only[Ib,yE,Prod.mk.injEq] at hex
  obtain⟨_,rfl,rfl,rfl⟩:=hex
  simp
 |o::l,k,rs,vc,e,h,hl',hex,hvc,hrs=>by
  simp only[Ib] at hex
  split at hex
  ·simp at hex
  rename_i v1 r1 ws1 hex1
  split at hex
  ·simp at hex
  rename_i v2 e2 h2 rs2 hex2
  simp only[yE,Prod.mk.injEq] at hex
  obtain⟨rfl,rfl,rfl,rfl⟩:=hex
  have h0:=hrs 0 (by simp)
  simp only[List.getElem?_cons_zero,yE,Nat.add_zero] at h0
  have hd:(rec k).d=o.d:=by rw[←h0]
  have hr:(rec k).r=r1:=by rw[←h0]
  have hw':(rec k).ws=ws1:=by rw[←h0]
  have hrd:(rec k).rd=rdO (ED rec env0 (Dt k)) (hpL rec hp0 (Dt k)) o:=by
   rw[←h0]
   cases hk:ht o.k with
   |true=>rfl
   |false=>simp only[cond_false];exact(M2 hk).symm
  have ih:=JO (all:=all) (rec:=rec) (env0:=env0) (hp0:=hp0) l (k+1) rs2 v2 e2 h2 (fun i=>by have:=hl' (i+1);simpa [Nat.add_assoc,Nat.add_comm 1 i] using this)
   (by simp only[Dt,ED,hpL,hd,hr,hw'];exact hex2) hvc.2 (fun i hi=>by
    have:=hrs (i+1) (by simp;omega)
    simpa [Nat.add_assoc,Nat.add_comm 1 i] using this)
  obtain⟨i1,i2,i3⟩:=ih
  refine⟨by rw[i1];simp[Nat.add_assoc,Nat.add_comm 1],by rw[i2];simp[Nat.add_assoc,Nat.add_comm 1],fun i p hp=> ?_⟩
  cases i with
  |zero=>
   simp at hp;subst hp
   exact⟨v1,hvc.1,by rw[Nat.add_zero,hr,hw'];exact hex1,hd,hrd⟩
  |succ i=>
   have:=i3 i p (by simpa using hp)
   rw[show k+(i+1)=k+1+i by omega]
   exact this
structure Good (P:Program) (X:Nat→Env→Hp→Option (Prop×AV×Hp)) (nt n:Nat) (ops:Array Oper) (B:List Nat) (rec:Nat→Rec) (env0:Env) (hp0:Hp) (ao:Nat→AOp):Prop where
 cg:∀i env env' hp hp',(∀t∈J7 (ao i),lk env t=lk env' t)→Ag hp hp' (rdO env hp (ao i))→X i env hp=X i env' hp'
 sz:n≤ops.size
 bef:∀i o,ops[i]? =some o→(∀e∈CY o,e<i)∧B.getD i 0=He B (CY o)
 op:∀i o,ops[i]? =some o→cOp P nt ops o=some (ao i)
 run:∀i,i<n→∃vc:Prop,vc∧X i (ED rec env0 (Dt i)) (hpL rec hp0 (Dt i))=some (vc,(rec i).r,(rec i).ws)∧(rec i).d=(ao i).d∧(rec i).rd=rdO (ED rec env0 (Dt i)) (hpL rec hp0 (Dt i)) (ao i)
 tmp:∀k j,k<j→j<n→(B.getD j 0).testBit k=true∨HO (ao k) (ao j)=true
 mem:∀k j,k<j→j<n→(B.getD j 0).testBit k=true∨PA (rec k) (rec j)=true∨((rec k).ws=[]∧(rec j).ws=[])∨((rec j).ws=[]∧(rec j).rd=[])∨((rec k).ws=[]∧(rec k).rd=[])
structure Done (n:Nat) (B:List Nat) (L:List Nat):Prop where
 lt:∀i∈L,i<n
 cl:∀j∈L,∀k,(B.getD j 0).testBit k=true→k∈L
 pw:L.Pairwise fun a b=>a≠b∧¬(B.getD b 0).testBit a=true
section
variable {P:Program} {X:Nat→Env→Hp→Option (Prop×AV×Hp)} {nt n:Nat} {ops:Array Oper} {B:List Nat} {rec:Nat→Rec} {env0:Env} {hp0:Hp} {ao:Nat→AOp} {L:List Nat}
theorem Good.bit (G:Good P X nt n ops B rec env0 hp0 ao) {i k:Nat} {o:Oper} (ho:ops[i]? =some o):(B.getD i 0).testBit k=true↔∃e∈CY o,k=e∨(B.getD e 0).testBit k=true:=by
 rw[(G.bef i o ho).2,He,Kb]
 simp
theorem Good.all (G:Good P X nt n ops B rec env0 hp0 ao) {L:List Nat} (hD:Done n B L) {j:Nat} {o:Oper} (ho:ops[j]? =some o) (he:∀e∈CY o,e∈L):∀k,(B.getD j 0).testBit k=true→k∈L:=by
 intro k hk
 obtain⟨e,h1,h2⟩:=(G.bit ho).1 hk
 rcases h2 with rfl|h2
 ·exact he _ h1
 ·exact hD.cl e (he e h1) k h2
theorem Done.cons (hD:Done n B L) {j:Nat} (hj:j<n) (hn:j∉L) (ha:∀k,(B.getD j 0).testBit k=true→k∈L):Done n B (j::L) where
 lt i hi:=by rcases List.mem_cons.1 hi with rfl|h;exact hj;exact hD.lt i h
 cl i hi k hk:=by
  rcases List.mem_cons.1 hi with rfl|h
  ·exact List.mem_cons_of_mem _ (ha k hk)
  ·exact List.mem_cons_of_mem _ (hD.cl i h k hk)
 pw:=List.pairwise_cons.2 ⟨fun b hb=>⟨fun e=>hn (e▸hb),fun h=>hn (hD.cl b hb j h)⟩,hD.pw⟩
theorem Done.sorted (hD:Done n B L) {p:Nat→Bool} (hp:∀k j,k<j→j<n→p k=true→p j=true→(B.getD j 0).testBit k=true):(L.filter p).Pairwise (·>·):=by
 rw[List.pairwise_filter]
 refine hD.pw.imp_of_mem ?_
 intro a b ha hb ⟨h1,h2⟩ pa pb
 rcases Nat.lt_trichotomy a b with h|h|h
 ·exact absurd (hp a b h (hD.lt b hb) pa pb) h2
 ·exact absurd h h1
 ·exact h
theorem Good.env_pairs (G:Good P X nt n ops B rec env0 hp0 ao) (t:Nat):∀k j,k<j→j<n→decide ((rec k).d=some t)=true→decide ((rec j).d=some t)=true→(B.getD j 0).testBit k=true:=by
 intro k j hk hj h1 h2
 simp only[decide_eq_true_eq] at h1 h2
 obtain⟨_,_,_,d1,_⟩:=G.run k (by omega)
 obtain⟨_,_,_,d2,_⟩:=G.run j hj
 rcases G.tmp k j hk hj with h|h
 ·exact h
 ·exact absurd (d2▸h2) ((LH h).1 t (d1▸h1)).2
theorem Good.hp_pairs (G:Good P X nt n ops B rec env0 hp0 ao) (l:Loc):∀k j,k<j→j<n→GI l (rec k).ws=true→GI l (rec j).ws=true→(B.getD j 0).testBit k=true:=by
 intro k j hk hj h1 h2
 rcases G.mem k j hk hj with h|h|h|h|h
 ·exact h
 ·rw[((Mr h l).1 h1).2] at h2;simp at h2
 ·rw[h.1] at h1;simp[GI] at h1
 ·rw[h.1] at h2;simp[GI] at h2
 ·rw[h.1] at h1;simp[GI] at h1
theorem Good.same (G:Good P X nt n ops B rec env0 hp0 ao) {L:List Nat} (hD:Done n B L) {j:Nat} (hj:j<n) (hn:j∉L) (ha:∀k,(B.getD j 0).testBit k=true→k∈L):
  X j (ED rec env0 L) (hpL rec hp0 L)=X j (ED rec env0 (Dt j)) (hpL rec hp0 (Dt j)):=by
 symm
 refine G.cg j _ _ _ _ (fun t ht=> ?_) fun t ht l hl'=> ?_
 ·rw[H4 L,H4 (Dt j)]
  rw[KE (j:=j) (hD.sorted (G.env_pairs t)) fun i hi=> ?_]
  simp only[decide_eq_true_eq] at hi
  constructor
  ·intro hL
   rcases Nat.lt_trichotomy i j with h|h|h
   ·exact h
   ·subst h;exact absurd hL hn
   ·rcases G.tmp j i h (hD.lt i hL) with g|g
    ·exact absurd (hD.cl i hL j g) hn
    ·obtain⟨_,_,_,d1,_⟩:=G.run i (hD.lt i hL)
     exact absurd ht ((LH g).2 t (d1▸hi))
  ·intro h
   rcases G.tmp i j h hj with g|g
   ·exact ha i g
   ·obtain⟨_,_,_,d1,_⟩:=G.run i (by omega)
    exact absurd ht ((LH g).1 t (d1▸hi)).1
 ·obtain⟨_,_,_,_,hrd⟩:=G.run j hj
  rw[←hrd] at ht
  rw[HP L,HP (Dt j)]
  rw[KE (j:=j) (hD.sorted (G.hp_pairs l)) fun i hi=> ?_]
  constructor
  ·intro hL
   rcases Nat.lt_trichotomy i j with h|h|h
   ·exact h
   ·subst h;exact absurd hL hn
   ·rcases G.mem j i h (hD.lt i hL) with g|g|g|g|g
    ·exact absurd (hD.cl i hL j g) hn
    ·exact absurd hl' ((Mr g l).2 hi t ht)
    ·rw[g.2] at hi;simp[GI] at hi
    ·rw[g.1] at hi;simp[GI] at hi
    ·rw[g.2] at ht;simp at ht
  ·intro h
   rcases G.mem i j h hj with g|g|g|g|g
   ·exact ha i g
   ·exact absurd hl' (((Mr g l).1 hi).1 t ht)
   ·rw[g.1] at hi;simp[GI] at hi
   ·rw[g.2] at ht;simp at ht
   ·rw[g.1] at hi;simp[GI] at hi
theorem Good.fin (G:Good P X nt n ops B rec env0 hp0 ao) {L:List Nat} (hD:Done n B L) (hall:∀i,i<n→i∈L):
  (∀t,lk (ED rec env0 L) t=lk (ED rec env0 (Dt n)) t)∧∀l,hl (hpL rec hp0 L) l=hl (hpL rec hp0 (Dt n)) l:=by
 refine⟨fun t=> ?_,fun l=> ?_⟩
 ·rw[H4 L,H4 (Dt n)]
  rw[KE (j:=n) (hD.sorted (G.env_pairs t)) fun i _=>⟨hD.lt i,hall i⟩]
 ·rw[HP L,HP (Dt n)]
  rw[KE (j:=n) (hD.sorted (G.hp_pairs l)) fun i _=>⟨hD.lt i,hall i⟩]
theorem NI {nt t:Nat}:∀(L:List Nat),(∀i∈L,∀d,(rec i).d=some d→d<nt)→nt≤t→lk (ED rec env0 L) t=lk env0 t
 |[],_,_=>rfl
 |i::L,h,ht=>by
  simp only[ED]
  rw[FL (h i (by simp)) ht]
  exact NI L (fun j hj=>h j (by simp[hj])) ht
theorem Good.far (G:Good P X nt n ops B rec env0 hp0 ao) (i:Nat) (hi:i<n):∀d,(rec i).d=some d→d<nt:=by
 obtain⟨_,_,_,d1,_⟩:=G.run i hi
 rw[d1]
 have hs:i<ops.size:=Nat.lt_of_lt_of_le hi G.sz
 exact Fg (G.op i ops[i] (Array.getElem?_eq_getElem hs))
def left (L:List Nat):Nat→Nat
 |0=>0
 |n+1=>left L n+if n∈L then 0 else 1
theorem Mt {L:List Nat}:∀{n:Nat},left L n=0→∀i,i<n→i∈L
 |0,_,i,h=>by omega
 |n+1,h,i,hi=>by
  simp only[left] at h
  by_cases hn:n∈L
  ·rcases Nat.lt_or_ge i n with h'|h'
   ·exact Mt (by omega) i h'
   ·rw[show i=n by omega];exact hn
  ·rw[if_neg hn] at h;omega
theorem Mu {L:List Nat} {j:Nat}:∀{n:Nat},n≤j→left (j::L) n=left L n
 |0,_=>rfl
 |n+1,h=>by
  have:n≠j:=by omega
  have ih:left (j::L) n=left L n:=Mu (by omega)
  simp only[left,ih,List.mem_cons,this,false_or]
theorem Mv {L:List Nat} {j:Nat} (hn:j∉L):∀{n:Nat},j<n→left (j::L) n+1=left L n
 |0,h=>by omega
 |n+1,h=>by
  simp only[left]
  by_cases e:n=j
  ·subst e
   rw[Mu (Nat.le_refl _),if_pos (by simp),if_neg hn]
  ·have:=Mv hn (n:=n) (by omega)
   have e2:(n∈j::L)↔n∈L:=by simp[e]
   simp only[e2]
   omega
theorem LK:∀n,left [] n=n
 |0=>rfl
 |n+1=>by simp[left,LK n]
theorem Um (L:List Nat):∀n,(∀i,i<n→i∈L)∨∃j,j<n∧j∉L∧∀i,i<j→i∈L
 |0=> .inl fun i h=>by omega
 |n+1=>by
  rcases Um L n with h|⟨j,h1,h2⟩
  ·by_cases hn:n∈L
   ·left
    intro i hi
    rcases Nat.lt_or_ge i n with h'|h'
    ·exact h i h'
    ·rw[show i=n by omega];exact hn
   ·exact .inr ⟨n,by omega,hn,h⟩
  ·exact .inr ⟨j,by omega,h2⟩
theorem GS {listed:Array Bool} {L:List Nat} (hsz:listed.size=ops.size) (hli:∀i,i<ops.size→(listed.getD i true=true↔i∈L)∧(listed.getD i false=true↔i∈L)) (hb:∀i o,ops[i]? =some o→∀e∈CY o,e<i) (i:Nat):
  i∈Region.ready .any ops listed↔i<ops.size∧i∉L∧∃o,ops[i]? =some o∧∀e∈CY o,e∈L:=by
 unfold Region.ready
 rw[List.mem_filter,List.mem_range]
 constructor
 ·rintro⟨h1,h2⟩
  have ho:ops[i]? =some ops[i]:=Array.getElem?_eq_getElem h1
  rw[ho] at h2
  simp only[Option.map_some,Option.getD_some,Bool.and_eq_true,Bool.not_eq_true',Array.all_eq_true'] at h2
  refine⟨h1,fun h=> ?_,ops[i],ho,fun e he=> ?_⟩
  ·rw[((hli i h1).1).2 h] at h2;simp at h2
  ·have hlt:=hb i _ ho e he
   simp only[CY,List.mem_map,List.mem_filter] at he
   obtain⟨x,⟨hx,hbx⟩,rfl⟩:=he
   have:=h2.2 x (by simpa using hx)
   rw[hbx] at this
   simp only[Bool.not_true,Bool.false_or] at this
   exact((hli x.on (by omega)).2).1 this
 ·rintro⟨h1,h2,o,ho,h3⟩
  refine⟨h1, ?_⟩
  rw[ho]
  simp only[Option.map_some,Option.getD_some,Bool.and_eq_true,Bool.not_eq_true',Array.all_eq_true']
  refine⟨?_,fun x hx=> ?_⟩
  ·cases hc:listed.getD i true with
   |false=>rfl
   |true=>exact absurd (((hli i h1).1).1 hc) h2
  ·cases hbx:Region.binds .any x with
   |false=>simp
   |true=>
    have hm:x.on∈CY o:=by
     simp only[CY,List.mem_map,List.mem_filter]
     exact⟨x,⟨by simpa using hx,hbx⟩,rfl⟩
    have:=hb i o ho _ hm
    simp only[Bool.not_true,Bool.false_or]
    exact((hli x.on (by omega)).2).2 (h3 _ hm)
variable {Γ:Ctx} {cnt bs:Nat} {Q:AE→St→Prop}
theorem Inv.congr {σ:Cf} {env env':Env} {hp hp':Hp} {a:Act} {nt:Nat} {hb:HB} (h:Inv σ env hp a nt hb) (he:∀t,lk env t=lk env' t) (hh:∀l,hl hp l=hl hp' l):Inv σ env' hp' a nt hb where
 h:=
  {ln:=fun n=>by rw[h.h.ln n];simp only[lenOf,hh]
   cel:=fun n j c hc=>h.h.cel n j c (by rw[hh];exact hc)
   arr:=fun n sz live rows d hc=>h.h.arr n sz live rows d (by rw[hh];exact hc)
   inj:=fun p q b hp hq=>h.h.inj p q b (by simpa only[Owns,hh] using hp) (by simpa only[Owns,hh] using hq)
   lt:=h.h.lt
   ou:=h.h.ou
   dis:=h.h.dis}
 t:=fun t=>by rw[←he];exact h.t t
 sz:=h.sz
 df:=(by rw[←he (dk nt)];exact h.df)
theorem Tl (stop:Nat→Prop) (G:Good Γ.P X Γ.nt n ops B rec env0 hp0 ao) (hz:ops.size=n) (hQ:(∀i,i<n→¬stop i)→Q .n ⟨ED rec env0 (Dt n),hpL rec hp0 (Dt n),cnt+1⟩) {σ0:Cf} (hG:Γ.G env0 σ0)
  (hop:∀(i:Nat) (o:Oper) (L:List Nat) (σ:Cf) (a:Act) (K:Act→World→Prop),i<n→i∉L→(∀j∈L,¬stop j)→Done n B L→(∀k,(B.getD i 0).testBit k=true→k∈L)→ops[i]? =some o→Evo σ0 σ→Inv σ (ED rec env0 L) (hpL rec hp0 L) a Γ.nt Γ.hb→
   (∀m,σ.al m→m.2≤cnt∨∃i∈L,m=(bs+i,cnt+1))→(¬stop i→∀a' σ',Evo σ σ'→Inv σ' (BX (ao i).d (rec i).r (ED rec env0 L)) ((rec i).ws++hpL rec hp0 L) a' Γ.nt Γ.hb→(∀m,σ'.al m→σ.al m∨m=(bs+i,cnt+1))→K a' σ'.w)→
   wpOpIn Γ.F 0 Γ.P ops (lift Γ σ0 Q) i K a σ.w):∀(fuel:Nat) (L:List Nat) (listed:Array Bool) (σ:Cf) (a:Act),
  (∀j∈L,¬stop j)→Done n B L→listed.size=ops.size→(∀i,i<ops.size→(listed.getD i true=true↔i∈L)∧(listed.getD i false=true↔i∈L))→left L n=fuel→Evo σ0 σ→Inv σ (ED rec env0 L) (hpL rec hp0 L) a Γ.nt Γ.hb→
  (∀m,σ.al m→m.2≤cnt∨∃i∈L,m=(bs+i,cnt+1))→wpAnyIn Γ.F 0 Γ.P .any ops (lift Γ σ0 Q) fuel listed a σ.w:=by
 intro fuel
 have fin:∀(L:List Nat) (listed:Array Bool) (σ:Cf) (a:Act),(∀j∈L,¬stop j)→Done n B L→listed.size=ops.size→(∀i,i<ops.size→(listed.getD i true=true↔i∈L)∧(listed.getD i false=true↔i∈L))→Evo σ0 σ→Inv σ (ED rec env0 L) (hpL rec hp0 L) a Γ.nt Γ.hb→
   (∀m,σ.al m→m.2≤cnt∨∃i∈L,m=(bs+i,cnt+1))→(∀i,i<n→i∈L)→lift Γ σ0 Q .normal a σ.w:=by
  intro L listed σ a hst hD h1 h2 he hI hal hall
  obtain⟨e1,e2⟩:=G.fin hD hall
  refine⟨σ,_,.n,rfl,Γ.ofE he,⟨hI.congr e1 e2,fun m hm=> ?_,Γ.g hG he fun t ht=> .inr (NI (Dt n) (fun i hi=>G.far i (Fv.1 hi)) ht)⟩,rfl,hQ fun i hi=>hst i (hall i hi)⟩
  rcases hal m hm with h|⟨i,_,rfl⟩
  ·exact Nat.le_succ_of_le h
  ·exact Nat.le_refl _
 have none:∀(L:List Nat) (listed:Array Bool),listed.size=ops.size→(∀i,i<ops.size→(listed.getD i true=true↔i∈L)∧(listed.getD i false=true↔i∈L))→Region.ready .any ops listed=[]→∀i,i<n→i∈L:=by
  intro L listed h1 h2 hr
  rcases Um L n with h|⟨j,h3,h4,h5⟩
  ·exact h
  ·exfalso
   have hj:j<ops.size:=by rw[hz];exact h3
   have ho:ops[j]? =some ops[j]:=Array.getElem?_eq_getElem hj
   have:j∈Region.ready .any ops listed:=(GS h1 h2 (fun i o ho=>(G.bef i o ho).1) j).2 ⟨hj,h4,_,ho,fun e he=>h5 e ((G.bef j _ ho).1 e he)⟩
   rw[hr] at this
   simp at this
 induction fuel with
 |zero=>
  intro L listed σ a hst hD h1 h2 hf he hI hal
  have hall:=Mt hf
  refine⟨?_,fin L listed σ a hst hD h1 h2 he hI hal hall⟩
  cases hr:Region.ready .any ops listed with
  |nil=>rfl
  |cons x xs=>
   exfalso
   have hx:x∈Region.ready .any ops listed:=by rw[hr];simp
   obtain⟨g1,g2,_⟩:=(GS h1 h2 (fun i o ho=>(G.bef i o ho).1) x).1 hx
   exact g2 (hall x (by rw[←hz];exact g1))
 |succ fuel ih=>
  intro L listed σ a hst hD h1 h2 hf he hI hal
  refine⟨fun hr=>fin L listed σ a hst hD h1 h2 he hI hal (none L listed h1 h2 hr),fun i hi=> ?_⟩
  obtain⟨g1,g2,o,ho,g3⟩:=(GS h1 h2 (fun i o ho=>(G.bef i o ho).1) i).1 hi
  have hin:i<n:=by rw[←hz];exact g1
  have ha:=G.all hD ho g3
  obtain⟨_,_,_,hd,_⟩:=G.run i hin
  refine hop i o L σ a _ hin g2 hst hD ha ho he hI hal fun hs a' σ' e' hI' hal'=> ?_
  refine ih (i::L) _ σ' a' (fun j hj=>by rcases List.mem_cons.1 hj with rfl|hj;exact hs;exact hst j hj) (hD.cons hin g2 ha) (by simp[h1]) (fun k hk=> ?_) ?_ (he.trans e') ?_ fun m hm=> ?_
  ·by_cases e:i=k
   ·subst e
    have:i<listed.size:=by omega
    simp[Array.getD,this]
   ·have hk':k<listed.size:=by omega
    have q1:(listed.setIfInBounds i true).getD k true=listed.getD k true:=by simp[Array.getD,hk',Array.getElem_setIfInBounds,e]
    have q2:(listed.setIfInBounds i true).getD k false=listed.getD k false:=by simp[Array.getD,hk',Array.getElem_setIfInBounds,e]
    have q3:k∈i::L↔k∈L:=by
     rw[List.mem_cons]
     exact⟨fun h=>h.resolve_left fun h=>e h.symm,.inr⟩
    rw[q1,q2,q3]
    exact h2 k hk
  ·have:=Mv g2 hin
   omega
  ·simp only[ED,hpL,hd];exact hI'
  ·rcases hal' m hm with h|rfl
   ·rcases hal m h with h|⟨k,hk,e⟩
    ·exact .inl h
    ·exact .inr ⟨k,List.mem_cons_of_mem _ hk,e⟩
   ·exact .inr ⟨i,by simp,rfl⟩
end
theorem IJ {X:Nat→Env→Hp→AOp→Option (Prop×AV×Hp)}:∀{l:List AOp} {k:Nat} {env:Env} {hp:Hp} {vc:Prop} {e:Env} {h:Hp} {rs:List Rec},Ib X k l env hp=some (vc,e,h,rs)→rs.length=l.length
 |[],_,_,_,_,_,_,_,hex=>by simp[Ib] at hex;simp[hex.2.2.2]
 |o::l,k,env,hp,vc,e,h,rs,hex=>by
  simp only[Ib] at hex
  split at hex
  ·simp at hex
  split at hex
  ·simp at hex
  rename_i hex2
  simp only[yE,Prod.mk.injEq] at hex
  obtain⟨_,_,_,rfl⟩:=hex
  simp[IJ hex2]
theorem Ea {P:Program} {nt:Nat} {ops:Array Oper}:∀{l:List Oper} {xs:List AOp},FS P nt ops l=some xs→xs.length=l.length∧∀(i:Nat) (o:Oper),l[i]? =some o→∃x,xs[i]? =some x∧cOp P nt ops o=some x
 |[],xs,h=>by simp[FS] at h;subst h;simp
 |p::l,xs,h=>by
  simp only[FS] at h
  split at h
  ·rename_i x ys hx hys
   simp at h;subst h
   obtain⟨h1,h2⟩:=Ea hys
   refine⟨by simp[h1],fun i o ho=> ?_⟩
   cases i with
   |zero=>simp at ho;subst ho;exact⟨x,rfl,hx⟩
   |succ i=>exact h2 i o (by simpa using ho)
  ·simp at h
theorem LL {ops:Array Oper} {l:List AOp} {un:List (Nat×Nat)} (h:Oz ops l=some un):∃B,M0 B 0 ops.toList=true∧tOK B l 0 l=true∧un=unl B l 0 l:=by
 unfold Oz at h
 rw[Qc] at h
 generalize (CheckFast.beforeF ops).toList=B at h
 refine⟨B, ?_⟩
 cases h1:M0 B 0 ops.toList<;>cases h2:tOK B l 0 l<;>simp[h1,h2] at h
 exact⟨rfl,rfl,h.symm⟩
theorem Uo {k:AK} (h:ht k=false):hw k=false:=by cases k<;>simp[ht,hw] at h⊢
theorem At.drawn {Γ:Ctx} {σ:Cf} {s:St} {a:Act} (h:At Γ σ s a) (d:Nat):∃σ',σ'.w={σ.w with drawn:=d}∧Evo σ σ'∧At Γ σ' s a:=by
 obtain⟨⟨h1,h2,h3,h4⟩,h5,h6⟩:=h
 let τ:Cf:={σ with w:={σ.w with drawn:=d}}
 have e:Evo σ τ:=⟨fun _ h=>⟨h,rfl⟩,fun _ _ l h=>⟨l,h,Nat.le_refl _,fun _=>rfl⟩,fun _ _ h h'=>⟨h,h'⟩,rfl,Nat.le_refl _,⟨rfl,rfl⟩⟩
 refine⟨τ,rfl,e,⟨⟨h1.ln,fun n j c hc=> ?_,fun n sz live rows d hc=> ?_,h1.inj,h1.lt,h1.ou,h1.dis⟩, ?_,h3,h4.mono e⟩,h5,Γ.g h6 e fun _ _=> .inr rfl⟩
 ·have kk:=h1.cel n j c hc
  exact kk.keep e kk.2.1 rfl
 ·exact(h1.arr n sz live rows d hc).keep e rfl fun _ _ _ _ _ _ hM=>⟨hM,rfl⟩
 ·exact fun t=>(h2 t).mono e
variable {Γ:Ctx}
theorem Tm (hΓ:Γ.OK) {rid:Nat} {ops:List AOp} {un:List (Nat×Nat)} {Q:AE→St→Prop} {s:St} {vc:Prop} {env:Env} {hp:Hp} {recs:List Rec} (hex:LF Γ.S (s.cnt+1) (100*rid) ops s.env s.hp=some (vc,env,hp,recs)) (hvc:vc) (hun:LG recs un=true)
  (hQ:Q .n ⟨env,hp,s.cnt+1⟩):awp Γ (.drw rid ops un) Q s:=by
 intro code hc σ a hA
 cases code with
 |region id ops' d=>
  simp only[cCode] at hc
  obtain⟨l,hx,⟨_,e⟩|⟨rfl,hf,un',hu,e⟩⟩:=Ca hc
  ·cases e
  ·cases e
   refine wpIn_region_any hf ?_
   obtain⟨B,b1,b2,rfl⟩:=LL hu
   obtain⟨c1,c2⟩:=Ea hx
   have hlen:ops.length=ops'.size:=by simpa using c1
   rw[RK] at hex
   have hrl:=IJ hex
   have hop:∀i o,ops'[i]? =some o→∃x,ops[i]? =some x∧cOp Γ.P Γ.nt ops' o=some x:=fun i o ho=>c2 i o (by simpa using ho)
   have hao:∀i x,ops[i]? =some x→ops.getD i default=x:=fun i x h=>by simp[List.getD_eq_getElem?_getD,h]
   have hsp:=JO (rec:=fun i=>recs.getD i default) (env0:=s.env) (hp0:=s.hp) (all:=ops) (bs:=100*rid) ops 0 recs vc env hp (fun i=>by simp) hex hvc (fun i hi=>by
    have:i<recs.length:=by omega
    simp[List.getD_eq_getElem?_getD,this])
   simp only[Nat.zero_add] at hsp
   obtain⟨e1,e2,run⟩:=hsp
   have get:∀i,i<ops.length→ops[i]? =some (ops.getD i default):=fun i hi=>by simp[List.getD_eq_getElem?_getD,hi]
   have hws:∀i,i<ops.length→hw (ops.getD i default).k=false→(recs.getD i default).ws=[]:=fun i hi h=>by
    obtain⟨_,_,g,_⟩:=run i _ (get i hi)
    exact NH h g
   have hrd:∀i,i<ops.length→ht (ops.getD i default).k=false→(recs.getD i default).rd=[]:=fun i hi h=>by
    obtain⟨_,_,_,_,g⟩:=run i _ (get i hi)
    rw[g];exact M2 h
   have G:Good Γ.P (fun i e h=>Ig Γ.S (100*rid+i,s.cnt+1) e h (ops.getD i default)) Γ.nt ops.length ops' B (fun i=>recs.getD i default) s.env s.hp fun i=>ops.getD i default:=
    {cg:=fun i e e' h h' ht hh=>LE ht hh
     sz:=Nat.le_of_eq hlen
     bef:=fun i o ho=>by
      have:=JL b1 i o (by simpa using ho)
      simpa using this
     op:=fun i o ho=>by
      obtain⟨x,h1,h2⟩:=hop i o ho
      simp only[hao i x h1];exact h2
     run:=fun i hi=>run i _ (get i hi)
     tmp:=fun k j hk hj=>by
      have h1:=LI b2 j _ (get j hj)
      rw[Nat.zero_add] at h1
      have h2:=JM h1 k (ops.getD k default) (by rw[List.getElem?_take,if_pos hk];exact get k (by omega))
      rwa [Nat.zero_add] at h2
     mem:=fun k j hk hj=>by
      have h2:=JN (B:=B.getD j 0) (j:=j) (o:=ops.getD j default) (l:=ops.take j) (k:=0) k (ops.getD k default) (by rw[List.getElem?_take,if_pos hk];exact get k (by omega))
      rw[Nat.zero_add] at h2
      rcases h2 with h|h|h
      ·exact .inl h
      ·right;right
       simp only[Bool.or_eq_false_iff,Bool.and_eq_false_iff] at h
       have hk':k<ops.length:=by omega
       rcases h.1 with g1|g1
       ·rcases h.2 with g2|g2
        ·exact .inr (.inr ⟨hws k hk' g1,hrd k hk' g2⟩)
        ·exact .inl ⟨hws k hk' g1,hws j hj g2⟩
       ·exact .inr (.inl ⟨hws j hj (Uo g1),hrd j hj g1⟩)
      ·exact .inr (.inl (Mq hun k j (LJ (all:=ops) (j:=0) j _ (get j hj) _ (by rw[Nat.zero_add];exact h))))}
   obtain⟨σ',w1,w2,w3⟩:=hA.drawn (σ.w.drawn+1)
   rw[←w1]
   refine Tl (bs:=100*rid) (fun _=>False) G hlen.symm (fun _=>by rw[←e1,←e2];exact hQ) hA.2.2 (fun i o L σ1 a1 K hin g2 _ hD ha ho _ hI hal hK=> ?_) ops'.size [] _ σ' a (by simp) ⟨by simp,by simp,.nil⟩ (by simp) (fun i hi=> ?_) (by rw[LK,hlen]) w2 w3.1 fun m hm=> .inl (w3.2.1 m hm)
   ·obtain⟨vc,hvc,hex,hd,_⟩:=G.run i hin
    rw[←G.same hD hin g2 ha] at hex
    refine IG hΓ.S hΓ.F ho (G.op i o ho) hI ⟨fun h=> ?_,s.cnt+1,fun m hm=>by rcases hal m hm with h|⟨k,_,rfl⟩;exact Nat.le_succ_of_le h;exact Nat.le_refl _⟩ hex hvc (hK not_false)
    rcases hal _ h with h|⟨k,hk,e⟩
    ·exact absurd h (Nat.not_succ_le_self s.cnt)
    ·simp only[Prod.mk.injEq,Nat.add_left_cancel_iff,and_true] at e
     exact g2 (e▸hk)
   ·simp[Array.getD,hi]
 |seq x y=>simp only[cCode] at hc;split at hc<;>simp at hc
 |cond c x y=>simp only[cCode] at hc;split at hc<;>simp at hc
 |rangeFunc f ps x y=>simp only[cCode] at hc;split at hc<;>simp at hc
 |_=>simp[cCode] at hc
theorem By (hΓ:Γ.OK) {rid:Nat} {ops:List AOp} {un:List (Nat×Nat)} {Q:AE→St→Prop} {e e':Env} {h h':Hp} {c:Nat} {vc:Prop} {recs:List Rec} (hex:LF Γ.S (c+1) (100*rid) ops e h=some (vc,e',h',recs)) (hun:LG recs un=true) (hvc:vc)
  (hQ:Q .n ⟨e',h',c+1⟩):awp Γ (.drw rid ops un) Q ⟨e,h,c⟩:=Tm hΓ hex hvc hun hQ
theorem Bb (hΓ:Γ.OK) {rid:Nat} {ops:List AOp} {un:List (Nat×Nat)} {b:AC} {Q:AE→St→Prop} {e e':Env} {h h':Hp} {c:Nat} {vc:Prop} {recs:List Rec} (hex:LF Γ.S (c+1) (100*rid) ops e h=some (vc,e',h',recs)) (hun:LG recs un=true) (hvc:vc)
  (hQ:awp Γ b Q ⟨e',h',c+1⟩):awp Γ (.seq (.drw rid ops un) b) Q ⟨e,h,c⟩:=Ay (Tm hΓ hex hvc hun hQ)
end Go.Proofs.YtciphecegkfaiaaGreat.Am
