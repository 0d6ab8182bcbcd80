import Derived.Test.YtdabfcbelkjmgaaGreatDoorA2
import Derived.RangeFuncRecord
namespace Go.Proofs.YtdabfcbelkjmgaaGreatDoor.Am
set_option linter.unusedSimpArgs false
set_option linter.unusedVariables false
open Go
def Wide (F:Fence):Prop:=F=Fence.wide∨∃l,F=Fence.wide.inRound l
theorem Wide.fn {F:Fence} (h:Wide F) (f:FuncId):F.fn f:=by
 rcases h with rfl|⟨l,rfl⟩<;>trivial
theorem Wide.depth {F:Fence} (h:Wide F):F.depth=none:=by
 rcases h with rfl|⟨l,rfl⟩<;>rfl
theorem Wide.calls {F:Fence} (h:Wide F) {n:Nat} {P:Program} {f:FuncId} {args:Array Value} {w:World} {R:Ending→World→Prop} (hc:Calls P f args w R):CallsIn F n P f args w R:=by
 rcases h with rfl|⟨l,rfl⟩
 ·exact callsIn_wide.2 hc
 ·exact(callsIn_wide.2 hc:CallsIn Fence.wide n P f args w R)
section
variable {P:Program} {F:Fence} {S:Tab}
theorem Ex (hF:Wide F) {n:Nat} {ops:Array Oper} {Q:Exit→Act→World→Prop} {i:Nat} {K:Act→World→Prop} {o:Oper} {a:Act} {σ:Cf} {nm:Nm} {hp':Hp} {r:AV} (hi:ops[i]? =some o) (hno:∀c,o.op≠.defer c)
  (hw:Region.wanted o (yielded ops a.tmps)=true) (hst:Step P o a σ nm hp' r) (hK:∀v σ',Next σ nm hp' σ'.w σ'→Rep σ' r v→K (a.put o.dst v) σ'.w):wpOpIn F n P ops Q i K a σ.w:=by
 unfold wpOpIn
 simp only[hi,hw,if_true]
 refine⟨fun f _=>hF.fn f, ?_⟩
 rw[Oper.semAt_eq F.round a.eval o hno]
 rcases hst with⟨v,w',σ',hr,hn,hv⟩|⟨f,args,hr,hc⟩
 ·have:=hn.w;subst this
  rcases hr with hr|⟨hr,rfl⟩
  ·rw[hr];exact hK v σ' hn hv
  ·rw[hr];exact hK undef σ' hn hv
 ·rw[hr]
  refine⟨fun h=>by simp[hF.depth] at h,hF.calls (hc.mono ?_)⟩
  rintro e w' ⟨v,σ',rfl,hn,hv⟩
  have:=hn.w;subst this
  exact hK v σ' hn hv
abbrev HB:=Nat×Bool
def Mark (n:Nat) (σ:Cf) (d:Deferred):Prop:=∃r,d={target:= .collected r,args:= #[]}∧n≤r∧σ.w.heap[r]? =some (.deferred (some []))∧¬σ.M r∧¬σ.O r
def DfK (σ:Cf) (b:Bool) (x:AV) (ms dd:List Deferred):Prop:=
 (b=false→dd=[])∧(b=true→x= .gd false (.tup [])→dd=[])∧(b=true→∀f ys,x= .gd false (.clo (.func f) [] ys)→∃vs,RepL σ ys vs∧dd=[{target:= .fn (.func f) vs.toArray,args:= #[]}])∧(b=true→ms=[])
def dk (nt:Nat):Nat:=nt+2000000
theorem I4 {t nt:Nat} {x:AV} {e:Env} (h:t<nt):lk ((t,x)::e) (dk nt)=lk e (dk nt):=by
 have hne:¬t=dk nt:=fun e=>absurd (e▸h:dk nt<nt) (Nat.not_lt.2 (Nat.le_add_right _ _))
 simp only[lk,if_neg hne]
structure DOK (hb:HB) (σ:Cf) (x:AV) (ds:List Deferred):Prop where
 sp:∃ms dd,ds=ms++dd∧(∀d∈ms,Mark hb.1 σ d)∧ms.Pairwise (fun a b=>a.target≠b.target)∧DfK σ hb.2 x ms dd
 le:hb.1≤σ.w.heap.size
 gl:Gl σ
theorem DOK.all {hb:HB} {σ:Cf} {x:AV} {ds:List Deferred} (h:DOK hb σ x ds) (hn:hb.2=false):∀d∈ds,∃r,d={target:= .collected r,args:= #[]}∧hb.1≤r∧σ.w.heap[r]? =some (.deferred (some []))∧¬σ.M r∧¬σ.O r:=by
 obtain⟨ms,dd,rfl,h2,_,h3,_⟩:=h.sp
 rw[h3 hn,List.append_nil]
 exact h2
theorem DOK.nd {hb:HB} {σ:Cf} {x:AV} {ds:List Deferred} (h:DOK hb σ x ds) (hn:hb.2=false):ds.Pairwise fun a b=>a.target≠b.target:=by
 obtain⟨ms,dd,rfl,_,h3,h4,_⟩:=h.sp
 rw[h4 hn,List.append_nil]
 exact h3
theorem DOK.of {hb:HB} {σ:Cf} {x:AV} {ds:List Deferred} (hn:hb.2=false) (h1:∀d∈ds,∃r,d={target:= .collected r,args:= #[]}∧hb.1≤r∧σ.w.heap[r]? =some (.deferred (some []))∧¬σ.M r∧¬σ.O r)
  (h2:ds.Pairwise fun a b=>a.target≠b.target) (h3:hb.1≤σ.w.heap.size) (h4:Gl σ):DOK hb σ x ds:=⟨⟨ds,[],by rw[List.append_nil],h1,h2,fun _=>rfl,fun _ _=>rfl,fun e=>(by rw[hn] at e;cases e),fun e=>(by rw[hn] at e;cases e)⟩,h3,h4⟩
theorem DOK.of' {n:Nat} {σ:Cf} {x y:AV} {ds:List Deferred} (h:DOK (n,false) σ y ds):DOK (n,false) σ x ds:=DOK.of rfl (h.all rfl) (h.nd rfl) h.le h.gl
theorem DOK.un {hb:HB} {σ:Cf} {x y:AV} {ds:List Deferred} (h:DOK hb σ y ds) (hx:x= .un∨x=y):DOK hb σ x ds:=by
 rcases hx with rfl|rfl
 ·obtain⟨ms,dd,h1,h2,h3,h4,_,_,h5⟩:=h.sp
  exact⟨⟨ms,dd,h1,h2,h3,h4,fun _ e=>(by cases e),fun _ _ _ e=>(by cases e),h5⟩,h.le,h.gl⟩
 ·exact h
theorem Mark.mono {n:Nat} {σ σ':Cf} {d:Deferred} (h:Mark n σ d) (e:Evo σ σ'):Mark n σ' d:=by
 obtain⟨r,h1,h2,h3,h4,h5⟩:=h
 obtain⟨g1,g2⟩:=e.fro r _ h3 h4
 exact⟨r,h1,h2,g1,g2,by rw[e.out];exact h5⟩
theorem DfK.map {σ σ':Cf} {b:Bool} {x:AV} {ms dd:List Deferred} (h:DfK σ b x ms dd) (hr:∀ys vs,RepL σ ys vs→RepL σ' ys vs):DfK σ' b x ms dd:=
 ⟨h.1,h.2.1,fun hb f ys e=>let ⟨vs,h1,h2⟩:=h.2.2.1 hb f ys e;⟨vs,hr _ _ h1,h2⟩,h.2.2.2⟩
theorem DOK.mono {hb:HB} {σ σ':Cf} {x:AV} {ds:List Deferred} (h:DOK hb σ x ds) (e:Evo σ σ'):DOK hb σ' x ds where
 sp:=by obtain⟨ms,dd,h1,h2,h3,h4⟩:=h.sp;exact⟨ms,dd,h1,fun d hd=>(h2 d hd).mono e,h3,h4.map fun ys vs=>RepL.mono e ys vs⟩
 le:=Nat.le_trans h.le e.sz
 gl:=h.gl.mono e
theorem DOK.nil {n:Nat} {σ:Cf} {x:AV} (h:n≤σ.w.heap.size) (g:Gl σ):DOK (n,false) σ x []:=DOK.of rfl (by simp) .nil h g
structure Inv (σ:Cf) (env:Env) (hp:Hp) (a:Act) (nt:Nat) (hb:HB):Prop where
 h:HInv σ hp
 t:TInv σ env a
 sz:a.tmps.size=nt
 df:DOK hb σ (lk env (dk nt)) a.defers
theorem Act.size_put (a:Act) (d:Option Tmp) (v:Value):(a.put d v).tmps.size=a.tmps.size:=by
 cases d<;>simp[Act.put]
theorem Act.defers_put (a:Act) (d:Option Tmp) (v:Value):(a.put d v).defers=a.defers:=by
 cases d<;>rfl
theorem DI (hS:TabOK P S) (hF:Wide F) {n nt:Nat} {hb:HB} {ops:Array Oper} {Q:Exit→Act→World→Prop} {i:Nat} {K:Act→World→Prop} {o:Oper} {ao:AOp} {a:Act} {σ:Cf} {nm:Nm} {env:Env} {hp ws:Hp} {r:AV} {vc:Prop}
  (hi:ops[i]? =some o) (hc:cOp P nt ops o=some ao) (hI:Inv σ env hp a nt hb) (hnm:¬σ.al nm) (hex:Dw S nm env hp ao=some (vc,r,ws)) (hvc:vc)
  (hK:∀a' σ',Evo σ σ'→Inv σ' (AX ao.d r env) (ws++hp) a' nt hb→(∀m,σ'.al m→σ.al m∨m=nm)→K a' σ'.w):wpOpIn F n P ops Q i K a σ.w:=by
 unfold cOp at hc
 split at hc
 ·simp at hc
 rename_i g hg
 have hd:dOK nt o.dst=true∧ao=⟨o.dst,g,cK P o.op⟩:=by
  split at hc
  ·rename_i hd
   simp at hc
   exact⟨hd,hc.symm⟩
  ·simp at hc
 obtain⟨hd,rfl⟩:=hd
 have hno:∀{env':Env} {hp':Hp} {nm':Nm} {g':Bool} {x:Prop×AV×Hp},exK S env' hp' nm' g' (cK P o.op)=some x→∀c,o.op≠.defer c:=by
  intro env' hp' nm' g' x he c e
  rw[e] at he
  simp only[cK] at he
  split at he<;>simp[exK] at he
 have hdk:∀r',lk (AX o.dst r' env) (dk nt)=lk env (dk nt):=fun r'=>by
  cases ho:o.dst with
  |none=>rfl
  |some k=>
   rw[ho] at hd
   have:k<nt:=by simpa [dOK] using hd
   have hne:¬k=dk nt:=fun e=>absurd (e▸this:dk nt<nt) (Nat.not_lt.2 (Nat.le_add_right _ _))
   simp only[AX,lk,if_neg hne]
 simp only at hK
 have hput:∀k,o.dst=some k→k<a.tmps.size:=by
  intro k hk
  rw[hk] at hd
  rw[hI.sz]
  simpa [dOK] using hd
 have fin:∀(v:Value) (σ':Cf) (r':AV) (hp':Hp),Evo σ σ'→HInv σ' hp'→Rep σ' r' v→Inv σ' (AX o.dst r' env) hp' (a.put o.dst v) nt hb:=fun v σ' r' hp' e h hr=>
  ⟨h,(hI.t.mono e).put hput hr,by rw[Act.size_put];exact hI.sz,by rw[Act.defers_put,hdk];exact hI.df.mono e⟩
 unfold Dw at hex
 cases g with
 |none=>
  simp only at hex
  have hw:Region.wanted o (yielded ops a.tmps)=true:=BH (ao:=none) hI.t hg rfl
  refine Ex hF hi (hno hex) hw (F5 hS hI.df.gl hI.h hI.t hnm rfl hex hvc) fun v σ' hn hv=> ?_
  exact hK _ σ' hn.evo (fin v σ' r _ hn.evo hn.inv hv) hn.al
 |some tw=>
  simp only at hex
  split at hex
  ·simp at hex
  rename_i g hgv
  have hw:=BH hI.t hg hgv
  have skip:g=false→∀r',Rep σ r' undef→r'=r→ws=[]→wpOpIn F n P ops Q i K a σ.w:=by
   intro hg0 r' hr e1 e2
   subst hg0 e1 e2
   unfold wpOpIn
   simp only[hi,hw,if_false,yF]
   exact⟨fun f _=>hF.fn f,hK _ σ (Evo.refl σ) (fin undef σ r' _ (Evo.refl σ) hI.h hr) fun m hm=> .inl hm⟩
  split at hex
  ·simp only[yE,Prod.mk.injEq] at hex
   obtain⟨rfl,rfl,rfl⟩:=hex
   exact skip hvc _ (by simp[Rep]) rfl rfl
  ·rename_i vc' r' hk
   simp only[yE,Prod.mk.injEq] at hex
   obtain⟨rfl,rfl,rfl⟩:=hex
   cases hgb:g with
   |false=>subst hgb;exact skip rfl _ (by simp[Rep]) rfl rfl
   |true=>
    subst hgb
    refine Ex hF hi (hno hk) hw (F5 hS hI.df.gl hI.h hI.t hnm rfl hk (hvc rfl)) fun v σ' hn hv=> ?_
    exact hK _ σ' hn.evo (fin v σ' _ _ hn.evo hn.inv (by simp only[Rep];exact⟨fun _=>hv,by simp⟩)) hn.al
  ·rename_i vc' r' w0 ws' hk
   simp only[yE,Prod.mk.injEq] at hex
   obtain⟨rfl,rfl,rfl⟩:=hex
   obtain⟨rfl,hvc'⟩:=hvc
   refine Ex hF hi (hno hk) hw (F5 hS hI.df.gl hI.h hI.t hnm rfl hk hvc') fun v σ' hn hv=> ?_
   exact hK _ σ' hn.evo (fin v σ' _ _ hn.evo hn.inv hv) hn.al
inductive AC where
 |nop
 |reg (rid:Nat) (ops:List AOp)
 |drw (rid:Nat) (ops:List AOp) (un:List (Nat×Nat))
 |seq (a b:AC)
 |cond (c:Opd) (a b:AC)
 |block (id:Nat) (a:AC)
 |loop (a:AC)
 |scp (a:AC)
 |rfun (f:Opd) (ps:List Nat) (asg body:AC)
 |exit (id:Nat)
 |ret
 deriving Inhabited
def BO (P:Program) (nt:Nat) (ops:Array Oper):List Oper→Option (List AOp)
 |[]=>some []
 |o::r=>match cOp P nt ops o,BO P nt ops r with
  |some x,some xs=>some (x::xs)
  |_,_=>none
def K5 (P:Program) (nt:Nat) (id:Nat) (ops:Array Oper) (d:Bool):Option AC:=
 match BO P nt ops ops.toList with
 |none=>none
 |some l=>match d with
  |false=>some (.reg id l)
  |true=>if P.follows .mixedOrders=true then(HE ops l).map fun un=> .drw id l un else none
theorem AW {P:Program} {nt id:Nat} {ops:Array Oper} {d:Bool} {c:AC} (h:K5 P nt id ops d=some c):∃l,BO P nt ops ops.toList=some l∧((d=false∧c= .reg id l)∨(d=true∧P.follows .mixedOrders=true∧∃un,HE ops l=some un∧c= .drw id l un)):=by
 unfold K5 at h
 split at h
 ·simp at h
 ·rename_i l hl
  refine⟨l,hl, ?_⟩
  cases d with
  |false=>simp at h;exact .inl ⟨rfl,h.symm⟩
  |true=>
   simp only at h
   split at h
   ·rename_i hf
    cases hc:HE ops l with
    |none=>simp[hc] at h
    |some un=>simp[hc] at h;exact .inr ⟨rfl,hf,un,rfl,h.symm⟩
   ·simp at h
def cCode (P:Program) (nt:Nat):Code→Option AC
 | .skip=>some .nop
 | .label _=>some .nop
 | .region id ops d=>K5 P nt id ops d
 | .seq a b=>match cCode P nt a,cCode P nt b with
  |some x,some y=>some (.seq x y)
  |_,_=>none
 | .cond c a b=>match cCode P nt a,cCode P nt b with
  |some x,some y=>some (.cond (opd c) x y)
  |_,_=>none
 | .block id a=>(cCode P nt a).map (.block id)
 | .loop a=>(cCode P nt a).map .loop
 | .scope a=>(cCode P nt a).map .scp
 | .rangeFunc f ps a b=>match cCode P nt a,cCode P nt b with
  |some x,some y=>some (.rfun (opd f) ps.toList x y)
  |_,_=>none
 | .exit id=>some (.exit id)
 | .ret=>some .ret
 |_=>none
structure St where
 env:Env
 hp:Hp
 cnt:Nat
inductive AE where
 |n
 |x (id:Nat)
 |r
 |p (v:Value)
def AE.of:Exit→Option AE
 | .normal=>some .n
 | .exit id=>some (.x id)
 | .ret=>some .r
 | .panic [⟨v,false,false⟩]=>some (.p v)
 |_=>none
theorem AE.of_panic {c:List PanicEntry} {e:AE} (h:AE.of (.panic c)=some e):∃v,c=[⟨v,false,false⟩]∧e= .p v:=by
 unfold AE.of at h
 split at h
 ·rename_i h';cases h'
 ·rename_i h';cases h'
 ·rename_i h';cases h'
 ·rename_i v h'
  cases h'
  simp at h
  exact⟨v,rfl,h.symm⟩
 ·simp at h
structure Ctx where
 P:Program
 F:Fence
 S:Tab
 nt:Nat
 hb:HB
 R:Cf→Cf→Prop
 G:Env→Cf→Prop
 ofE:∀{σ σ':Cf},Evo σ σ'→R σ σ'
 tr:∀{a b c:Cf},R a b→R b c→R a c
 g:∀{σ σ':Cf} {e e':Env},G e σ→Evo σ σ'→(∀t,nt≤t→lk e' t= .un∨lk e' t=lk e t)→G e' σ'
structure Ctx.OK (Γ:Ctx):Prop where
 S:TabOK Γ.P Γ.S
 F:Wide Γ.F
def Ctx.fn (P:Program) (S:Tab) (nt hb:Nat):Ctx:={P:=P,F:=Fence.wide,S:=S,nt:=nt,hb:=(hb,false),R:=Evo,G:=fun _ _=>True,ofE:=id,tr:=Evo.trans,g:=fun _ _ _=>trivial}
theorem Ctx.fn_ok {P:Program} {S:Tab} {nt hb:Nat} (h:TabOK P S):(Ctx.fn P S nt hb).OK:=⟨h,.inl rfl⟩
def At (Γ:Ctx) (σ:Cf) (s:St) (a:Act):Prop:=Inv σ s.env s.hp a Γ.nt Γ.hb∧(∀m,σ.al m→m.2≤s.cnt)∧Γ.G s.env σ
def lift (Γ:Ctx) (σ:Cf) (Q:AE→St→Prop):Exit→Act→World→Prop:=fun e a w=>
 ∃σ' s' e',σ'.w=w∧Γ.R σ σ'∧At Γ σ' s' a∧AE.of e=some e'∧Q e' s'
def awp (Γ:Ctx) (c:AC) (Q:AE→St→Prop) (s:St):Prop:=
 ∀code,cCode Γ.P Γ.nt code=some c→∀σ a,At Γ σ s a→code.wpIn Γ.F 0 Γ.P (lift Γ σ Q) a σ.w
variable {Γ:Ctx}
theorem Ctx.rfl (Γ:Ctx) (σ:Cf):Γ.R σ σ:=Γ.ofE (Evo.refl σ)
theorem lift.mono {σ σ':Cf} {Q:AE→St→Prop} (h:Γ.R σ σ') {e:Exit} {a:Act} {w:World} (k:lift Γ σ' Q e a w):lift Γ σ Q e a w:=by
 obtain⟨τ,s',e',h1,h2,h3⟩:=k
 exact⟨τ,s',e',h1,Γ.tr h h2,h3⟩
def Ed (Γ:Ctx) (b:AC) (Q:AE→St→Prop):AE→St→Prop
 | .n,s=>awp Γ b Q s
 |e,s=>Q e s
def Df (id:Nat) (Q:AE→St→Prop):AE→St→Prop
 | .x i,s=>if i=id then Q .n s else Q (.x i) s
 |e,s=>Q e s
theorem Ae {Q:AE→St→Prop} {s:St} (h:Q .n s):awp Γ .nop Q s:=by
 intro code hc σ a hA
 have fin:lift Γ σ Q .normal a σ.w:=⟨σ,s,.n,rfl,Γ.rfl σ,hA,rfl,h⟩
 cases code with
 |skip=>exact wpIn_skip fin
 |label l=>exact wpIn_label fin
 |region id ops d=>
  simp only[cCode] at hc
  obtain⟨_,_,⟨_,e⟩|⟨_,_,_,_,e⟩⟩:=AW hc<;>cases e
 |seq x y=>simp only[cCode] at hc;split at hc<;>simp at hc
 |cond c x y=>simp only[cCode] at hc;split at hc<;>simp at hc
 |rangeFunc f ps x y=>simp only[cCode] at hc;split at hc<;>simp at hc
 |_=>simp[cCode] at hc
theorem Ac {id:Nat} {Q:AE→St→Prop} {s:St} (h:Q (.x id) s):awp Γ (.exit id) Q s:=by
 intro code hc σ a hA
 cases code with
 |exit i=>
  simp[cCode] at hc;subst hc
  exact wpIn_exit ⟨σ,s,.x i,rfl,Γ.rfl σ,hA,rfl,h⟩
 |region id ops d=>
  simp only[cCode] at hc
  obtain⟨_,_,⟨_,e⟩|⟨_,_,_,_,e⟩⟩:=AW hc<;>cases e
 |seq x y=>simp only[cCode] at hc;split at hc<;>simp at hc
 |cond c x y=>simp only[cCode] at hc;split at hc<;>simp at hc
 |rangeFunc f ps x y=>simp only[cCode] at hc;split at hc<;>simp at hc
 |_=>simp[cCode] at hc
theorem Af {Q:AE→St→Prop} {s:St} (h:Q .r s):awp Γ .ret Q s:=by
 intro code hc σ a hA
 cases code with
 |ret=>exact wpIn_ret ⟨σ,s,.r,rfl,Γ.rfl σ,hA,rfl,h⟩
 |region id ops d=>
  simp only[cCode] at hc
  obtain⟨_,_,⟨_,e⟩|⟨_,_,_,_,e⟩⟩:=AW hc<;>cases e
 |seq x y=>simp only[cCode] at hc;split at hc<;>simp at hc
 |cond c x y=>simp only[cCode] at hc;split at hc<;>simp at hc
 |rangeFunc f ps x y=>simp only[cCode] at hc;split at hc<;>simp at hc
 |_=>simp[cCode] at hc
theorem Ad {x y:AC} {Q:AE→St→Prop} {s:St} (h:awp Γ x (Ed Γ y Q) s):awp Γ (.seq x y) Q s:=by
 intro code hc σ a hA
 cases code with
 |seq c d=>
  simp only[cCode] at hc
  split at hc
  ·rename_i x' y' hx hy
   simp at hc
   obtain⟨rfl,rfl⟩:=hc
   refine wpIn_seq (wpIn_mono (h c hx σ a hA) ?_)
   rintro e a' w' ⟨σ',s',e',rfl,h2,h3,h4,h5⟩
   cases e with
   |normal=>
    simp[AE.of] at h4;subst h4
    exact wpIn_mono (h5 d hy σ' a' h3) fun e a w k=>k.mono h2
   |exit id=>simp[AE.of] at h4;subst h4;exact⟨σ',s',_,rfl,h2,h3,rfl,h5⟩
   |ret=>simp[AE.of] at h4;subst h4;exact⟨σ',s',_,rfl,h2,h3,rfl,h5⟩
   |goto l=>simp[AE.of] at h4
   |panic c=>obtain⟨v,rfl,rfl⟩:=AE.of_panic h4;exact⟨σ',s',_,rfl,h2,h3,rfl,h5⟩
   |outgrown=>simp[AE.of] at h4
  ·simp at hc
 |region id ops d=>
  simp only[cCode] at hc
  obtain⟨_,_,⟨_,e⟩|⟨_,_,_,_,e⟩⟩:=AW hc<;>cases e
 |cond c x y=>simp only[cCode] at hc;split at hc<;>simp at hc
 |rangeFunc f ps x y=>simp only[cCode] at hc;split at hc<;>simp at hc
 |_=>simp[cCode] at hc
theorem Ab {id:Nat} {x:AC} {Q:AE→St→Prop} {s:St} (h:awp Γ x (Df id Q) s):awp Γ (.block id x) Q s:=by
 intro code hc σ a hA
 cases code with
 |block i c=>
  simp only[cCode] at hc
  cases hx:cCode Γ.P Γ.nt c with
  |none=>simp[hx] at hc
  |some x'=>
   simp[hx] at hc
   obtain⟨rfl,rfl⟩:=hc
   refine wpIn_block (wpIn_mono (h c hx σ a hA) ?_)
   rintro e a' w' ⟨σ',s',e',rfl,h2,h3,h4,h5⟩
   cases e with
   |normal=>simp[AE.of] at h4;subst h4;exact⟨σ',s',_,rfl,h2,h3,rfl,h5⟩
   |exit j=>
    simp[AE.of] at h4;subst h4
    simp only[Df] at h5
    simp only[Exit.inBlock]
    split
    ·rename_i e;rw[if_pos e] at h5;exact⟨σ',s',_,rfl,h2,h3,rfl,h5⟩
    ·rename_i e;rw[if_neg e] at h5;exact⟨σ',s',_,rfl,h2,h3,rfl,h5⟩
   |ret=>simp[AE.of] at h4;subst h4;exact⟨σ',s',_,rfl,h2,h3,rfl,h5⟩
   |goto l=>simp[AE.of] at h4
   |panic c=>obtain⟨v,rfl,rfl⟩:=AE.of_panic h4;exact⟨σ',s',_,rfl,h2,h3,rfl,h5⟩
   |outgrown=>simp[AE.of] at h4
 |region id ops d=>
  simp only[cCode] at hc
  obtain⟨_,_,⟨_,e⟩|⟨_,_,_,_,e⟩⟩:=AW hc<;>cases e
 |seq x y=>simp only[cCode] at hc;split at hc<;>simp at hc
 |cond c x y=>simp only[cCode] at hc;split at hc<;>simp at hc
 |rangeFunc f ps x y=>simp only[cCode] at hc;split at hc<;>simp at hc
 |_=>simp[cCode] at hc
theorem Ey {c:Opd} {x y:AC} {Q:AE→St→Prop} {s:St} {b:Bool} (hb:ung true (opv s.env c)= .v (.bool b)) (ht:b=true→awp Γ x Q s) (hf:b=false→awp Γ y Q s):awp Γ (.cond c x y) Q s:=by
 intro code hc σ a hA
 cases code with
 |cond cc c1 c2=>
  simp only[cCode] at hc
  split at hc
  ·rename_i x' y' hx hy
   simp at hc
   obtain⟨rfl,rfl,rfl⟩:=hc
   have hr:=BC (g:=true) rfl hA.1.t cc
   rw[hb] at hr
   have hev:a.eval cc= .bool b:=by simpa [Rep] using hr
   exact wpIn_cond_split hev (fun e=>ht e c1 hx σ a hA) (fun e=>hf e c2 hy σ a hA)
  ·simp at hc
 |region id ops d=>
  simp only[cCode] at hc
  obtain⟨_,_,⟨_,e⟩|⟨_,_,_,_,e⟩⟩:=AW hc<;>cases e
 |seq x y=>simp only[cCode] at hc;split at hc<;>simp at hc
 |rangeFunc f ps x y=>simp only[cCode] at hc;split at hc<;>simp at hc
 |_=>simp[cCode] at hc
theorem CL {P:Program} {b:Frame} {a:Act} {k:List Item} {cs:List Frame} {w:World} {c:Code}:step P (lone (b.atR a (.code (.scope c)::k)) cs w)= .next (lone (b.atR a (.code c:: .inScope c::k)) cs w):=
 step_lone_go (by simp[stepG,stepG.exec,Frame.atR])
theorem I0 {P:Program} {b:Frame} {a:Act} {k:List Item} {cs:List Frame} {w:World} {c:Code}:step P (lone (b.atR a (.inScope c::k)) cs w)= .next (lone (b.atR a k) cs w):=
 step_lone_go (by simp[stepG,stepG.exec,Frame.atR])
theorem K6 {F:Fence} {n:Nat} {P:Program} {c:Code} {Q:Exit→Act→World→Prop} {a:Act} {w:World} (h:c.wpIn F n P Q a w) (hg:∀l a w,¬Q (.goto l) a w):(Code.scope c).wpIn F n P Q a w:=by
 intro b k cs hro hb hr
 have h0:(lone (b.atR a (.code (.scope c)::k)) cs w).fenced P F:=fenced_calm hb hr rfl
 obtain⟨e,a₁,w₁,hq,harr⟩:=h b (.inScope c::k) cs hro hb hr
 cases e with
 |normal=>exact⟨.normal,a₁,w₁,hq,.head h0 CL (StepsIn.trans harr (.one (fenced_calm hb hr rfl) I0))⟩
 |exit id=>
  have hx:exitTo id (.inScope c::k)=exitTo id k:=by simp[exitTo]
  exact⟨.exit id,a₁,w₁,hq,fun k' hk=> .head h0 CL (harr.1 k' (by rw[hx];exact hk)),
   fun hr' hk=>let ⟨k₁,h1,h2⟩:=harr.2 hr' (by rw[hx];exact hk);⟨k₁,h1,.head h0 CL h2⟩⟩
 |goto l=>exact(hg l a₁ w₁ hq).elim
 |ret=>exact⟨_,a₁,w₁,hq,.of_steps (.one h0 CL) harr⟩
 |panic ch=>exact⟨_,a₁,w₁,hq,.of_steps (.one h0 CL) harr⟩
 |outgrown=>exact⟨_,a₁,w₁,hq,.of_steps (.one h0 CL) harr⟩
theorem Ah {x:AC} {Q:AE→St→Prop} {s:St} (h:awp Γ x Q s):awp Γ (.scp x) Q s:=by
 intro code hc σ a hA
 cases code with
 |scope c=>
  simp only[cCode] at hc
  cases hx:cCode Γ.P Γ.nt c with
  |none=>simp[hx] at hc
  |some x'=>
   simp[hx] at hc
   subst hc
   refine K6 (h c hx σ a hA) ?_
   rintro l a w ⟨_,_,_,_,_,_,h4,_⟩
   simp[AE.of] at h4
 |region id ops d=>
  simp only[cCode] at hc
  obtain⟨_,_,⟨_,e⟩|⟨_,_,_,_,e⟩⟩:=AW hc<;>cases e
 |seq x y=>simp only[cCode] at hc;split at hc<;>simp at hc
 |cond c x y=>simp only[cCode] at hc;split at hc<;>simp at hc
 |rangeFunc f ps x y=>simp only[cCode] at hc;split at hc<;>simp at hc
 |_=>simp[cCode] at hc
def leE:Env→Env→Prop
 |[],_=>True
 |(t,x)::r,e=>lk e t=x∧leE r e
def leH:Hp→Hp→Prop
 |[],_=>True
 |(l,x)::r,h=>hl h l=some x∧leH r h
structure Le (s' s:St):Prop where
 e:leE s'.env s.env
 h:leH s'.hp s.hp
 c:s.cnt≤s'.cnt
theorem HF:∀{e' e:Env} (_:leE e' e) (t:Nat),lk e' t= .un∨lk e' t=lk e t
 |[],_,_,t=> .inl rfl
 |(k,x)::r,e,h,t=>by
  simp only[leE] at h
  simp only[lk]
  by_cases hk:k=t
  ·rw[if_pos hk];subst hk;exact .inr h.1.symm
  ·rw[if_neg hk];exact HF h.2 t
theorem Jv:∀{e' e:Hp} (_:leH e' e) (l:Loc) (x:AV),hl e' l=some x→hl e l=some x
 |[],_,_,l,x,hx=>by simp[hl] at hx
 |(k,y)::r,e,h,l,x,hx=>by
  simp only[leH] at h
  simp only[hl] at hx
  by_cases hk:k=l
  ·rw[if_pos hk] at hx;simp at hx;subst hx hk;exact h.1
  ·rw[if_neg hk] at hx;exact Jv h.2 l x hx
theorem At.leM {σ:Cf} {s s':St} {a:Act} (h:At Γ σ s a) (k:Le s' s):Evo σ {σ with ln:=lenOf s'.hp}∧At Γ {σ with ln:=lenOf s'.hp} s' a:=by
 obtain⟨⟨h1,h2,h3,h4⟩,h5,h6⟩:=h
 let τ:Cf:={σ with ln:=lenOf s'.hp}
 have hsub:=Jv k.h
 have e:Evo σ τ:=by
  refine⟨fun _ h=>⟨h,rfl⟩,fun n _ l' hl'=> ?_,fun _ _ h h'=>⟨h,h'⟩,rfl,Nat.le_refl _,SameO.refl _⟩
  have hl2:lenOf s'.hp n=some l':=hl'
  refine⟨l', ?_,Nat.le_refl _,fun _=>rfl⟩
  rw[h1.ln n]
  unfold lenOf at hl2⊢
  split at hl2
  ·rename_i sz live rows d hn
   rw[hsub _ _ hn];exact hl2
  ·simp at hl2
 have hown:∀p b,Owns τ s'.hp p b→Owns σ s.hp p b:=by
  rintro p b (⟨g1,g2,j,c,g3⟩|⟨g1,⟨sz,rows,d,g2⟩,o,cap,g3,g4⟩)
  ·exact .inl ⟨g1,g2,j,c,hsub _ _ g3⟩
  ·exact .inr ⟨g1,⟨sz,rows,d,hsub _ _ g2⟩,o,cap,g3,g4⟩
 refine⟨e,⟨⟨fun _=>rfl,fun n j c hc=> ?_,fun n sz live rows d hc=> ?_,fun p q b hp hq=>h1.inj p q b (hown p b hp) (hown q b hq),h1.lt,h1.ou,h1.dis⟩, ?_,h3,(h4.mono e).un (HF k.e _)⟩,fun m hm=>Nat.le_trans (h5 m hm) k.c,Γ.g h6 e fun t _=>HF k.e t⟩
 ·have kk:=h1.cel n j c (hsub _ _ hc)
  exact kk.keep e kk.2.1 rfl
 ·exact(h1.arr n sz live rows d (hsub _ _ hc)).keep e rfl fun _ _ _ _ _ _ hM=>⟨hM,rfl⟩
 ·intro t
  rcases HF k.e t with h|h
  ·rw[h];simp[Rep]
  ·rw[h];exact(h2 t).mono e
theorem At.le {σ:Cf} {s s':St} {a:Act} (h:At Γ σ s a) (k:Le s' s):∃σ',σ'.w=σ.w∧Evo σ σ'∧At Γ σ' s' a:=⟨{σ with ln:=lenOf s'.hp},rfl,h.leM k⟩
theorem Pi {c:AC} {Q:AE→St→Prop} {s s':St} (k:Le s' s) (h:awp Γ c Q s'):awp Γ c Q s:=by
 intro code hc σ a hA
 obtain⟨σ',h1,h2,h3⟩:=hA.le k
 rw[←h1]
 exact wpIn_mono (h code hc σ' a h3) fun e a w k=>k.mono (Γ.ofE h2)
def Dr {X:Type} (I:X→St) (Pre:X→Prop) (μ:X→Nat) (n:Nat) (Q:AE→St→Prop):AE→St→Prop
 | .n,s=>∃x,Pre x∧μ x<n∧Le (I x) s
 |e,s=>Q e s
theorem K7 {F:Fence} {n:Nat} {P:Program} {X:Type} {c:Code} {Q:Exit→Act→World→Prop} (I:X→Act→World→Prop) (μ:X→Nat) {x:X} {a:Act} {w:World} (h₀:I x a w)
  (round:∀x a w,I x a w→c.wpIn F n P (Exit.then (fun a' w'=>∃x',I x' a' w'∧μ x'<μ x) Q) a w):(Code.loop c).wpIn F n P Q a w:=by
 intro b k cs hro hb hr
 have key:∀j x a w,μ x=j→I x a w→
   ∃e a' w',Q e a' w'∧ArrivesIn (Machine.fenced P F) P (lone (b.atR a (.code c:: .inLoop c::k)) cs w) b k cs e a' w':=by
  intro j
  induction j using Nat.strongRecOn with
  |_ j ih=>
   intro x a w hn hI
   obtain⟨e,a₁,w₁,hq,harr⟩:=round x a w hI b (.inLoop c::k) cs hro hb hr
   cases e with
   |normal=>
    obtain⟨x',hI₁,hlt⟩:=hq
    obtain⟨e₂,a₂,w₂,hq₂,harr₂⟩:=ih (μ x') (hn▸hlt) x' a₁ w₁ rfl hI₁
    exact⟨e₂,a₂,w₂,hq₂,.of_steps (StepsIn.trans harr (.one (fenced_calm hb hr rfl) stepR_inLoop)) harr₂⟩
   |exit id=>exact⟨_,a₁,w₁,hq,.pass (x:= .inLoop c) rfl (fun _ _=> .inl (by simp)) harr⟩
   |goto l=>exact⟨_,a₁,w₁,hq,.pass (x:= .inLoop c) rfl (fun _ _=> .inl (by simp)) harr⟩
   |ret=>exact⟨_,a₁,w₁,hq,.pass (x:= .inLoop c) rfl (fun _ _=> .inl (by simp)) harr⟩
   |panic ch=>exact⟨_,a₁,w₁,hq,.pass (x:= .inLoop c) rfl (fun _ _=> .inl (by simp)) harr⟩
   |outgrown=>exact⟨_,a₁,w₁,hq,.pass (x:= .inLoop c) rfl (fun _ _=> .inl (by simp)) harr⟩
 obtain⟨e,a',w',hq,harr⟩:=key _ x a w rfl h₀
 exact⟨e,a',w',hq,.of_steps (.one (fenced_calm hb hr rfl) stepR_loop) harr⟩
theorem Ez {X:Type} (I:X→St) (Pre:X→Prop) (μ:X→Nat) (x0:X) {b:AC} {Q:AE→St→Prop} {s:St} (h0:Pre x0) (hs:Le (I x0) s)
  (body:∀x,Pre x→awp Γ b (Dr I Pre μ (μ x) Q) (I x)):awp Γ (.loop b) Q s:=by
 intro code hc σ a hA
 cases code with
 |loop c=>
  simp only[cCode] at hc
  cases hx:cCode Γ.P Γ.nt c with
  |none=>simp[hx] at hc
  |some x'=>
   simp[hx] at hc
   subst hc
   obtain⟨σ0,g1,g2,g3⟩:=hA.le hs
   refine K7 (fun x a w=>∃σ',σ'.w=w∧Γ.R σ σ'∧Pre x∧At Γ σ' (I x) a) μ (x:=x0) ⟨σ0,g1,Γ.ofE g2,h0,g3⟩ ?_
   rintro x a w ⟨σ',rfl,k2,k3,k4⟩
   refine wpIn_mono (body x k3 c hx σ' a k4) ?_
   rintro e a' w' ⟨τ,s',e',rfl,h2,h3,h4,h5⟩
   cases e with
   |normal=>
    simp[AE.of] at h4;subst h4
    obtain⟨x',p1,p2,p3⟩:=h5
    obtain⟨τ',q1,q2,q3⟩:=h3.le p3
    exact⟨x',⟨τ',q1,Γ.tr (Γ.tr k2 h2) (Γ.ofE q2),p1,q3⟩,p2⟩
   |exit j=>simp[AE.of] at h4;subst h4;exact⟨τ,s',_,rfl,Γ.tr k2 h2,h3,rfl,h5⟩
   |ret=>simp[AE.of] at h4;subst h4;exact⟨τ,s',_,rfl,Γ.tr k2 h2,h3,rfl,h5⟩
   |goto l=>simp[AE.of] at h4
   |panic c=>obtain⟨v,rfl,rfl⟩:=AE.of_panic h4;exact⟨τ,s',_,rfl,Γ.tr k2 h2,h3,rfl,h5⟩
   |outgrown=>simp[AE.of] at h4
 |region id ops d=>
  simp only[cCode] at hc
  obtain⟨_,_,⟨_,e⟩|⟨_,_,_,_,e⟩⟩:=AW hc<;>cases e
 |seq x y=>simp only[cCode] at hc;split at hc<;>simp at hc
 |cond c x y=>simp only[cCode] at hc;split at hc<;>simp at hc
 |rangeFunc f ps x y=>simp only[cCode] at hc;split at hc<;>simp at hc
 |_=>simp[cCode] at hc
theorem B3 {P:Program} {nt:Nat} {ops:Array Oper} {o:Oper} {x:AOp} (h:cOp P nt ops o=some x):∀d,x.d=some d→d<nt:=by
 unfold cOp at h
 split at h
 ·simp at h
 split at h
 ·rename_i hd
  simp at h
  subst h
  intro d he
  simp only at he
  rw[he] at hd
  simpa [dOK] using hd
 ·simp at h
theorem Cu {nt:Nat} {d:Option Nat} {x:AV} {env:Env} {t:Nat} (hd:∀k,d=some k→k<nt) (ht:nt≤t):lk (AX d x env) t=lk env t:=by
 cases d with
 |none=>rfl
 |some k=>
  have:=hd k rfl
  simp only[AX,lk]
  rw[if_neg (by omega)]
theorem CS (hΓ:Γ.OK) {ops:Array Oper} {Q:AE→St→Prop} {cnt:Nat} (bs:Nat) (e0:Env) (σ0:Cf) (hG:Γ.G e0 σ0):∀(l:List Oper) (k:Nat) (aops:List AOp) (σ:Cf) (env env':Env) (hp hp':Hp) (a:Act) (vc:Prop),
  (∀t,Γ.nt≤t→lk env t=lk e0 t)→(∀j,l[j]? =ops[k+j]?)→l.length+k=ops.size→BO Γ.P Γ.nt ops l=some aops→AM Γ.S (cnt+1) (bs+k) aops env hp=some (vc,env',hp')→vc→Evo σ0 σ→Inv σ env hp a Γ.nt Γ.hb→(∀m,σ.al m→m.2≤cnt∨(m.2=cnt+1∧m.1<bs+k))→
  Q .n ⟨env',hp',cnt+1⟩→wpOpsIn Γ.F 0 Γ.P ops (lift Γ σ0 Q) (List.range' k l.length) a σ.w
 |[],k,aops,σ,env,env',hp,hp',a,vc,hgl,hl,hs,hc,hex,hvc,he,hI,hal,hQ=>by
  simp[BO] at hc;subst hc
  simp only[AM,yE,Prod.mk.injEq] at hex
  obtain⟨_,rfl,rfl⟩:=hex
  simp only[List.length_nil,List.range'_zero,wpOpsIn]
  exact⟨σ,_,_,rfl,Γ.ofE he,⟨hI,fun m hm=>by rcases hal m hm with h|h<;>simp<;>omega,Γ.g hG he fun t ht=> .inr (hgl t ht)⟩,rfl,hQ⟩
 |o::l,k,aops,σ,env,env',hp,hp',a,vc,hgl,hl,hs,hc,hex,hvc,he,hI,hal,hQ=>by
  simp only[BO] at hc
  split at hc
  ·rename_i x xs hx hxs
   simp at hc;subst hc
   simp only[AM] at hex
   split at hex
   ·simp at hex
   rename_i v1 r1 ws1 hex1
   split at hex
   ·simp at hex
   rename_i v2 e2 h2 hex2
   simp only[yE,Prod.mk.injEq] at hex
   obtain⟨rfl,rfl,rfl⟩:=hex
   have ho:ops[k]? =some o:=by have:=hl 0;simpa using this.symm
   have hnm:¬σ.al (bs+k,cnt+1):=by
    intro h
    rcases hal _ h with h|h
    ·simp at h;omega
    ·simp at h
   have:=DI hΓ.S hΓ.F (n:=0) (Q:=lift Γ σ0 Q) (K:=wpOpsIn Γ.F 0 Γ.P ops (lift Γ σ0 Q) (List.range' (k+1) l.length)) ho hx hI hnm hex1 hvc.1 (fun a' σ' e' hI' hal'=>by
    refine CS hΓ bs e0 σ0 hG l (k+1) xs σ' _ _ _ _ a' v2 (fun t ht=>(Cu (B3 hx) ht).trans (hgl t ht)) (fun j=> ?_) (by simp at hs⊢;omega) hxs hex2 hvc.2 (he.trans e') hI' (fun m hm=> ?_) hQ
    ·have:=hl (j+1)
     simpa [Nat.add_assoc,Nat.add_comm 1 j] using this
    ·rcases hal' m hm with h|rfl
     ·rcases hal m h with h|h<;>omega
     ·right;simp)
   simp only[List.length_cons,List.range'_succ]
   simp only[wpOpIn,ho] at this
   simp only[wpOpsIn,ho]
   exact this
  ·simp at hc
theorem Ku (hΓ:Γ.OK) {rid:Nat} {ops:List AOp} {Q:AE→St→Prop} {s:St} {vc:Prop} {env:Env} {hp:Hp} (hex:AM Γ.S (s.cnt+1) (100*rid) ops s.env s.hp=some (vc,env,hp)) (hvc:vc)
  (hQ:Q .n ⟨env,hp,s.cnt+1⟩):awp Γ (.reg rid ops) Q s:=by
 intro code hc σ a hA
 cases code with
 |region id ops' d=>
  simp only[cCode] at hc
  obtain⟨l,hx,⟨rfl,e⟩|⟨_,_,_,_,e⟩⟩:=AW hc
  ·cases e
   refine wpIn_region ?_
   have:=CS hΓ (ops:=ops') (Q:=Q) (cnt:=s.cnt) (100*rid) s.env σ hA.2.2 ops'.toList 0 ops σ _ _ _ _ a vc (fun _ _=>rfl) (fun j=>by simp) (by simp) hx hex hvc (Evo.refl σ) hA.1 (fun m hm=> .inl (hA.2.1 m hm)) hQ
   simpa [List.range_eq_range'] using this
  ·cases e
 |seq x y=>simp only[cCode] at hc;split at hc<;>simp at hc
 |cond c x y=>simp only[cCode] at hc;split at hc<;>simp at hc
 |rangeFunc f ps x y=>simp only[cCode] at hc;split at hc<;>simp at hc
 |_=>simp[cCode] at hc
theorem Qj (hΓ:Γ.OK) {rid:Nat} {ops:List AOp} {Q:AE→St→Prop} {e e':Env} {h h':Hp} {c:Nat} {vc:Prop} (hex:AM Γ.S (c+1) (100*rid) ops e h=some (vc,e',h')) (hvc:vc)
  (hQ:Q .n ⟨e',h',c+1⟩):awp Γ (.reg rid ops) Q ⟨e,h,c⟩:=Ku hΓ hex hvc hQ
theorem Pj (hΓ:Γ.OK) {rid:Nat} {ops:List AOp} {b:AC} {Q:AE→St→Prop} {e e':Env} {h h':Hp} {c:Nat} {vc:Prop} (hex:AM Γ.S (c+1) (100*rid) ops e h=some (vc,e',h')) (hvc:vc)
  (hQ:awp Γ b Q ⟨e',h',c+1⟩):awp Γ (.seq (.reg rid ops) b) Q ⟨e,h,c⟩:=Ad (Ku hΓ hex hvc hQ)
theorem Ap {b:AC} {Q:AE→St→Prop} {s:St} (hQ:awp Γ b Q s):awp Γ (.seq .nop b) Q s:=Ad (Ae hQ)
theorem Aq {b:AC} {Q:AE→St→Prop} {s:St} (h:awp Γ b Q s):Ed Γ b Q .n s:=h
theorem Ar {b:AC} {Q:AE→St→Prop} {s:St} (h:Q .r s):Ed Γ b Q .r s:=h
theorem As {b:AC} {Q:AE→St→Prop} {s:St} {i:Nat} (h:Q (.x i) s):Ed Γ b Q (.x i) s:=h
theorem Au {id:Nat} {Q:AE→St→Prop} {s:St} (h:Q .n s):Df id Q .n s:=h
theorem Av {id:Nat} {Q:AE→St→Prop} {s:St} (h:Q .r s):Df id Q .r s:=h
theorem Aw {id:Nat} {Q:AE→St→Prop} {s:St} (h:Q .n s):Df id Q (.x id) s:=by simpa [Df] using h
theorem Ax {id i:Nat} {Q:AE→St→Prop} {s:St} (hi:(i==id)=false) (h:Q (.x i) s):Df id Q (.x i) s:=by
 have:¬i=id:=by simpa using hi
 simpa [Df,this] using h
theorem Ai {X:Type} {I:X→St} {Pre:X→Prop} {μ:X→Nat} {n i:Nat} {Q:AE→St→Prop} {s:St} (h:Q (.x i) s):Dr I Pre μ n Q (.x i) s:=h
theorem Aj {X:Type} {I:X→St} {Pre:X→Prop} {μ:X→Nat} {n:Nat} {Q:AE→St→Prop} {s:St} (h:Q .r s):Dr I Pre μ n Q .r s:=h
theorem Fb {X:Type} {I:X→St} {Pre:X→Prop} {μ:X→Nat} {n:Nat} {Q:AE→St→Prop} {s:St} (x:X) (h:Pre x) (hm:μ x<n) (hl:Le (I x) s):Dr I Pre μ n Q .n s:=⟨x,h,hm,hl⟩
theorem Qk {b:Bool} {cc:Opd} {x y:AC} {Q:AE→St→Prop} {e:Env} {h:Hp} {c:Nat} (hb:ung true (opv e cc)= .v (.bool b)) (ht:b=true→awp Γ x Q ⟨e,h,c⟩) (hf:b=false→awp Γ y Q ⟨e,h,c⟩):awp Γ (.cond cc x y) Q ⟨e,h,c⟩:=
 Ey hb ht hf
theorem Pk {p:Prop} [Decidable p] {cc:Opd} {x y:AC} {Q:AE→St→Prop} {e:Env} {h:Hp} {c:Nat} (hb:ung true (opv e cc)= .v (.bool (decide p))) (ht:p→awp Γ x Q ⟨e,h,c⟩) (hf:¬p→awp Γ y Q ⟨e,h,c⟩):awp Γ (.cond cc x y) Q ⟨e,h,c⟩:=
 Ey hb (fun h=>ht (of_decide_eq_true h)) (fun h=>hf (of_decide_eq_false h))
theorem D9 {cc:Opd} {x y:AC} {Q:AE→St→Prop} {e:Env} {h:Hp} {c:Nat} (hb:ung true (opv e cc)= .v (.bool true)) (ht:awp Γ x Q ⟨e,h,c⟩):awp Γ (.cond cc x y) Q ⟨e,h,c⟩:=
 Ey hb (fun _=>ht) (fun h=>by cases h)
theorem Fc {cc:Opd} {x y:AC} {Q:AE→St→Prop} {e:Env} {h:Hp} {c:Nat} (hb:ung true (opv e cc)= .v (.bool false)) (hf:awp Γ y Q ⟨e,h,c⟩):awp Γ (.cond cc x y) Q ⟨e,h,c⟩:=
 Ey hb (fun h=>by cases h) (fun _=>hf)
end
structure Ev (σ σ':Cf):Prop where
 box:∀n,σ.al n→σ'.al n∧σ'.rb n=σ.rb n
 arr:∀n,σ.al n→∀l',σ'.ln n=some l'→∃l,σ.ln n=some l∧l≤l'∧(l=l'→σ'.ra n=σ.ra n)
 fz:∀b,Fz σ b→Fz σ' b
 cell:∀b o x,Fz σ b→σ.w.cell? ⟨b,o,none⟩=some x→σ'.w.cell? ⟨b,o,none⟩=some x
theorem Evo.ev {σ σ':Cf} (h:Evo σ σ'):Ev σ σ':=⟨h.box,h.arr,fun _ hb=>h.fz hb,fun _ _ _ hb hc=>h.cell hb.1 hc⟩
theorem Gl.ev {σ σ':Cf} (h:Gl σ) (e:Ev σ σ'):Gl σ':=fun b j hj=>⟨e.fz b (h b j hj).1,e.cell b _ _ (h b j hj).1 (h b j hj).2⟩
theorem Ev.refl (σ:Cf):Ev σ σ:=(Evo.refl σ).ev
theorem Ev.trans {a b c:Cf} (h:Ev a b) (k:Ev b c):Ev a c where
 box n hn:=⟨(k.box n (h.box n hn).1).1,((k.box n (h.box n hn).1).2).trans (h.box n hn).2⟩
 arr n hn l' hl':=by
  obtain⟨l,h1,h2,h3⟩:=k.arr n (h.box n hn).1 l' hl'
  obtain⟨m,g1,g2,g3⟩:=h.arr n hn l h1
  refine⟨m,g1,Nat.le_trans g2 h2,fun e=> ?_⟩
  have e1:m=l:=by omega
  have e2:l=l':=by omega
  rw[h3 e2,g3 e1]
 fz b hb:=k.fz b (h.fz b hb)
 cell b o x hb hc:=k.cell b o x (h.fz b hb) (h.cell b o x hb hc)
mutual
theorem Rep.monoE {σ σ':Cf} (h:Ev σ σ'):∀(a:AV) (v:Value),Rep σ a v→Rep σ' a v
 | .v x,v,hr=>by simpa [Rep] using hr
 | .sl sz full rows _,v,hr=>by
  simp only[Rep] at hr⊢
  obtain⟨base,cap,h1,h2,h3,hp,h4⟩:=hr
  refine⟨base,cap,h1,h2,h3,hp, ?_⟩
  rcases h4 with h4|⟨b,o,h5,h6,h7⟩
  ·exact .inl h4
  ·exact .inr ⟨b,o,h5,h.fz b h6,RepRows.monoE h sz b h6 rows o h7⟩
 | .ro cells off,v,hr=>by
  simp only[Rep] at hr⊢
  obtain⟨b,o,h1,h2,hp,h3⟩:=hr
  exact⟨b,o,h1,h.fz b h2,hp,RepCells.monoE h b h2 cells o h3⟩
 | .agg cs,v,hr=>by
  simp only[Rep] at hr⊢
  obtain⟨xs,h1,h2,h3⟩:=hr
  exact⟨xs,h1,h2,RepL.monoE h cs xs h3⟩
 | .tup cs,v,hr=>by
  simp only[Rep] at hr⊢
  obtain⟨xs,h1,h3⟩:=hr
  exact⟨xs,h1,RepL.monoE h cs xs h3⟩
 | .clo fn first caps,v,hr=>by
  simp only[Rep] at hr⊢
  obtain⟨xs,ys,h1,h2,h3⟩:=hr
  exact⟨xs,ys,h1,RepL.monoE h first xs h2,RepL.monoE h caps ys h3⟩
 | .box n off,v,hr=>by
  simp only[Rep] at hr⊢
  obtain⟨h1,h2⟩:=h.box n hr.1
  exact⟨h1,by rw[h2];exact hr.2⟩
 | .own n len,v,hr=>by
  simp only[Rep] at hr⊢
  refine⟨(h.box n hr.1).1,hr.2.1,fun l' hl'=> ?_⟩
  obtain⟨l,g1,g2,g3⟩:=h.arr n hr.1 l' hl'
  obtain⟨k1,k2⟩:=hr.2.2 l g1
  refine⟨by omega,fun e=> ?_⟩
  have e1:l=l':=by omega
  rw[g3 e1];exact k2 (by omega)
 | .elem n len sz i off,v,hr=>by
  simp only[Rep] at hr⊢
  refine⟨(h.box n hr.1).1,hr.2.1,fun l' hl'=> ?_⟩
  obtain⟨l,g1,g2,g3⟩:=h.arr n hr.1 l' hl'
  obtain⟨k1,k2⟩:=hr.2.2 l g1
  refine⟨by omega,fun e=> ?_⟩
  have e1:l=l':=by omega
  rw[g3 e1];exact k2 (by omega)
 | .gd b x,v,hr=>by
  simp only[Rep] at hr⊢
  exact⟨fun hb=>Rep.monoE h x v (hr.1 hb),hr.2⟩
 | .un,_,_=>by simp[Rep]
theorem RepCells.monoE {σ σ':Cf} (h:Ev σ σ') (b:Nat) (hM:Fz σ b):∀(cs:List AV) (o:Nat),RepCells σ b o cs→RepCells σ' b o cs
 |[],_,_=>by simp[RepCells]
 |c::cs,o,hr=>by
  simp only[RepCells] at hr⊢
  obtain⟨⟨x,h1,h2,h3⟩,h4⟩:=hr
  exact⟨⟨x,h.cell b _ _ hM h1,h2,Rep.monoE h c x h3⟩,RepCells.monoE h b hM cs (o+1) h4⟩
theorem RepRows.monoE {σ σ':Cf} (h:Ev σ σ') (sz b:Nat) (hM:Fz σ b):∀(rs:List (List AV)) (o:Nat),RepRows σ sz b o rs→RepRows σ' sz b o rs
 |[],_,_=>by simp[RepRows]
 |r::rs,o,hr=>by
  simp only[RepRows] at hr⊢
  exact⟨hr.1,RepCells.monoE h b hM r o hr.2.1,RepRows.monoE h sz b hM rs (o+sz) hr.2.2⟩
theorem RepL.monoE {σ σ':Cf} (h:Ev σ σ'):∀(cs:List AV) (xs:List Value),RepL σ cs xs→RepL σ' cs xs
 |[],xs,hr=>by simpa [RepL] using hr
 |c::cs,xs,hr=>by
  simp only[RepL] at hr⊢
  obtain⟨y,ys,h1,h2,h3⟩:=hr
  exact⟨y,ys,h1,Rep.monoE h c y h2,RepL.monoE h cs ys h3⟩
end
theorem RepCells.keepE {σ σ':Cf} (h:Ev σ σ') {b o:Nat} {cs:List AV} (hc:RepCells σ b o cs)
  (hm:∀j x,j<cs.length→σ.w.cell? ⟨b,o+j,none⟩=some x→σ'.w.cell? ⟨b,o+j,none⟩=some x):RepCells σ' b o cs:=
 BJ fun j c hj=>by
  obtain⟨x,h1,h2,h3⟩:=DF hc j c hj
  exact⟨x,hm j x (List.getElem?_eq_some_iff.1 hj).1 h1,h2,h3.monoE h⟩
theorem RepRows.keepE {σ σ':Cf} (h:Ev σ σ') {sz b o:Nat} {rs:List (List AV)} (hc:RepRows σ sz b o rs)
  (hm:∀j x,j<rs.length*sz→σ.w.cell? ⟨b,o+j,none⟩=some x→σ'.w.cell? ⟨b,o+j,none⟩=some x):RepRows σ' sz b o rs:=
 C2 fun i r hi=>by
  obtain⟨h1,h2⟩:=BK hc i r hi
  refine⟨h1,h2.keepE h fun j x hj hx=> ?_⟩
  have hi':=(List.getElem?_eq_some_iff.1 hi).1
  have hlt:i*sz+j<rs.length*sz:=by
   have:(i+1)*sz≤rs.length*sz:=Nat.mul_le_mul_right _ (by omega)
   rw[Nat.succ_mul] at this
   omega
  have:=hm (i*sz+j) x hlt (by rwa [←Nat.add_assoc])
  rwa [←Nat.add_assoc] at this
theorem CelF.keepE {σ σ':Cf} (h:Ev σ σ') {n:Nm} {j:Nat} {c:AV} (k:CelF σ n j c) (hM:σ'.M (σ.rb n)) (hw:σ'.w.heap[σ.rb n]? =σ.w.heap[σ.rb n]?):CelF σ' n j c:=by
 obtain⟨h1,h2,cs,T,x,h3,h4,h5,h6⟩:=k
 obtain⟨g1,g2⟩:=h.box n h1
 refine⟨g1,by rw[g2];exact hM,cs,T,x,by rw[g2,hw];exact h3,h4,h5,h6.monoE h⟩
theorem ArrF.keepE {σ σ':Cf} (h:Ev σ σ') {n:Nm} {sz:Nat} {live:Bool} {rows:List (List AV)} (k:ArrF σ n sz live rows) (hra:σ'.ra n=σ.ra n)
  (hM:live=true→∀b o cap,σ.ra n=(some ⟨b,o,none⟩,cap)→0<cap→σ.M b→σ'.M b∧σ'.w.heap[b]? =σ.w.heap[b]?):ArrF σ' n sz live rows:=by
 obtain⟨h1,h2,hp,h3⟩:=k
 refine⟨(h.box n h1).1,h2,hp, ?_⟩
 rcases h3 with⟨a,h3,h4⟩|⟨b,o,cap,h3,h4,h5,h6,h7,h8⟩
 ·exact .inl ⟨a,by rw[hra];exact h3,h4⟩
 ·refine .inr ⟨b,o,cap,by rw[hra];exact h3,h4,h5, ?_, ?_,fun e=>h.fz _ (h8 e)⟩
  ·cases live with
   |true=>
    obtain⟨g1,_⟩:=h7 rfl
    exact h6.keepE h fun j x _ hx=>by rw[cell_of_heap (hM rfl b o cap h3 h4 g1).2];exact hx
   |false=>exact h6.monoE h _ _ (h8 rfl)
  ·intro e
   obtain⟨g1,cs,T,g2,g3⟩:=h7 e
   obtain⟨k1,k2⟩:=hM e b o cap h3 h4 g1
   exact⟨k1,cs,T,by rw[k2];exact g2,g3⟩
structure Oth (σ σ':Cf):Prop where
 rb:σ'.rb=σ.rb
 ra:σ'.ra=σ.ra
 ln:σ'.ln=σ.ln
 al:σ'.al=σ.al
 M:σ'.M=σ.M
 ou:∀b,σ'.O b→b<σ'.w.heap.size∧¬σ.M b∧¬Fz σ b
 sz:σ.w.heap.size≤σ'.w.heap.size
 mem:∀b,σ.M b→σ'.w.heap[b]? =σ.w.heap[b]?
 fro:∀b o x,Fz σ b→σ.w.cell? ⟨b,o,none⟩=some x→σ'.w.cell? ⟨b,o,none⟩=some x
 io:SameO σ.w σ'.w
theorem Oth.ev {σ σ':Cf} (h:Oth σ σ'):Ev σ σ' where
 box n hn:=by rw[h.al,h.rb];exact⟨hn,rfl⟩
 arr n hn l hl':=by rw[h.ln] at hl';rw[h.ra];exact⟨l,hl',Nat.le_refl _,fun _=>rfl⟩
 fz b hb:=⟨by rw[h.M];exact hb.1,fun hO=>(h.ou b hO).2.2 hb,Nat.lt_of_lt_of_le hb.2.2 h.sz⟩
 cell:=h.fro
theorem HInv.oth {σ σ':Cf} {hp:Hp} (h:HInv σ hp) (k:Oth σ σ'):HInv σ' hp where
 ln n:=by rw[k.ln];exact h.ln n
 cel n j c hc:=by
  have kk:=h.cel n j c hc
  exact kk.keepE k.ev (by rw[k.M];exact kk.2.1) (k.mem _ kk.2.1)
 arr n sz live rows d hc:=(h.arr n sz live rows d hc).keepE k.ev (by rw[k.ra]) fun _ b _ _ _ _ hM=>⟨by rw[k.M];exact hM,k.mem b hM⟩
 inj p q b hp hq:=h.inj p q b (by simpa only[Owns,k.rb,k.ra] using hp) (by simpa only[Owns,k.rb,k.ra] using hq)
 lt b hb:=by rw[k.M] at hb;exact Nat.lt_of_lt_of_le (h.lt b hb) k.sz
 ou b hb:=(k.ou b hb).1
 dis b hb hO:=(k.ou b hO).2.1 (by rw[k.M] at hb;exact hb)
theorem TInv.ev {σ σ':Cf} {env:Env} {a:Act} (h:TInv σ env a) (k:Ev σ σ'):TInv σ' env a:=fun t=>(h t).monoE k
inductive RV where
 |t (n:Nat)
 |c (n sz:Nat) (ag:Bool)
 deriving Inhabited
def cRV (P:Program):ResultVar→Option RV
 | .tmp t=>some (.t t)
 | .cell a t=>match P.underlying t,P.info? t with
  |some d,some i=>some (.c a i.size (AU d))
  |_,_=>none
def cRes (P:Program):List ResultVar→Option (List RV)
 |[]=>some []
 |r::rs=>match cRV P r,cRes P rs with
  |some x,some xs=>some (x::xs)
  |_,_=>none
def K8 (env:Env) (hp:Hp):RV→Option (Prop×AV)
 | .t n=>some (True,ung true (lk env n))
 | .c n sz ag=>match De hp sz ag (ung true (lk env n)) with
  |some (vc,r,_)=>some (vc,r)
  |none=>none
def BD (env:Env) (hp:Hp):List RV→Option (Prop×List AV)
 |[]=>some (True,[])
 |r::rs=>match K8 env hp r,BD env hp rs with
  |some (v,x),some (vs,xs)=>some (v∧vs,x::xs)
  |_,_=>none
def one:List AV→AV
 |[x]=>x
 |xs=> .tup xs
mutual
def wk:AV→AV→Prop
 | .sl z f rows _,.sl z' f' rows' _=>rows=rows'∧(z=z'∨rows=[])∧(f'=true→f=true)
 | .agg a,.agg b=>wkL a b
 | .tup a,.tup b=>wkL a b
 |x,y=>x=y
def wkL:List AV→List AV→Prop
 |[],[]=>True
 |x::xs,y::ys=>wk x y∧wkL xs ys
 |_,_=>False
end
mutual
theorem DS {σ:Cf}:∀(x y:AV) (v:Value),wk x y→Rep σ x v→Rep σ y v
 | .sl z f rows d,y,v,h,hr=>by
  cases y with
  |sl z' f' rows' d'=>
   simp only[wk] at h
   obtain⟨rfl,h2,h3⟩:=h
   simp only[Rep] at hr⊢
   obtain⟨base,cap,e1,e2,e3,e4,e5⟩:=hr
   refine⟨base,cap,e1,e2,fun e=>e3 (h3 e),e4, ?_⟩
   rcases e5 with e5|e5
   ·exact .inl e5
   ·rcases h2 with rfl|h2
    ·exact .inr e5
    ·exact .inl h2
  |_=>simp only[wk] at h;cases h
 | .agg a,y,v,h,hr=>by
  cases y with
  |agg b=>
   simp only[wk] at h
   simp only[Rep] at hr⊢
   obtain⟨xs,e1,e2,e3⟩:=hr
   exact⟨xs,e1,e2,ET a b xs h e3⟩
  |_=>simp only[wk] at h;cases h
 | .tup a,y,v,h,hr=>by
  cases y with
  |tup b=>
   simp only[wk] at h
   simp only[Rep] at hr⊢
   obtain⟨xs,e1,e3⟩:=hr
   exact⟨xs,e1,ET a b xs h e3⟩
  |_=>simp only[wk] at h;cases h
 | .v x,y,v,h,hr=>by simp only[wk] at h;rw[←h];exact hr
 | .ro _ _,y,v,h,hr=>by simp only[wk] at h;rw[←h];exact hr
 | .clo _ _ _,y,v,h,hr=>by simp only[wk] at h;rw[←h];exact hr
 | .box _ _,y,v,h,hr=>by simp only[wk] at h;rw[←h];exact hr
 | .own _ _,y,v,h,hr=>by simp only[wk] at h;rw[←h];exact hr
 | .elem _ _ _ _ _,y,v,h,hr=>by simp only[wk] at h;rw[←h];exact hr
 | .gd _ _,y,v,h,hr=>by simp only[wk] at h;rw[←h];exact hr
 | .un,y,v,h,hr=>by simp only[wk] at h;rw[←h];exact hr
theorem ET {σ:Cf}:∀(xs ys:List AV) (vs:List Value),wkL xs ys→RepL σ xs vs→RepL σ ys vs
 |[],[],vs,_,h=>h
 |x::xs,y::ys,vs,h,hr=>by
  simp only[wkL] at h
  simp only[RepL] at hr⊢
  obtain⟨u,us,e1,e2,e3⟩:=hr
  exact⟨u,us,e1,DS x y u h.1 e2,ET xs ys us h.2 e3⟩
 |[],_::_,vs,h,_=>by simp[wkL] at h
 |_::_,[],vs,h,_=>by simp[wkL] at h
end
def B4 (rvs:List RV) (r:AV) (s:St):Prop:=
 ∃vc xs,BD s.env s.hp rvs=some (vc,xs)∧vc∧rvc s.hp (one xs)∧wk (res s.hp (one xs)) r∧A4 r=true
def Ee (rvs:List RV) (r:AV):AE→St→Prop
 | .n,s=>B4 rvs r s
 | .r,s=>B4 rvs r s
 | .x _,_=>False
 | .p _,_=>False
theorem Fd {rvs:List RV} {r:AV} {e:Env} {h:Hp} {c:Nat} {vc:Prop} {xs:List AV} (h1:BD e h rvs=some (vc,xs)) (h2:vc) (h3:rvc h (one xs)) (h4:wk (res h (one xs)) r) (h5:A4 r=true):Ee rvs r .r ⟨e,h,c⟩:=⟨vc,xs,h1,h2,h3,h4,h5⟩
theorem Fe {rvs:List RV} {r:AV} {e:Env} {h:Hp} {c:Nat} {vc:Prop} {xs:List AV} (h1:BD e h rvs=some (vc,xs)) (h2:vc) (h3:rvc h (one xs)) (h4:wk (res h (one xs)) r) (h5:A4 r=true):Ee rvs r .n ⟨e,h,c⟩:=⟨vc,xs,h1,h2,h3,h4,h5⟩
section
variable {P:Program}
def rv1 (tmps:Array Value):ResultVar→Sem Value
 | .tmp t=>pure (tmps.getD t undef)
 | .cell k t=>do loadVar t (←asAddr (tmps.getD k undef))
theorem Nl {tmps:Array Value} {k:Nat} {t:TypeId} {ad:Addr} {u:Value} {w:World} (h1:tmps.getD k undef= .pointer (some ad)) (h2:(loadVar t ad).run P w= .ok u w):(rv1 tmps (.cell k t)).run P w= .ok u w:=by
 simp only[rv1,Sem.run_bind,h1,asAddr,Sem.run_pure,Result.andThen,h2]
theorem Cj {σ:Cf} {s:St} {a:Act} {nt:Nat} {hb:HB} (hI:Inv σ s.env s.hp a nt hb):∀{rs:List ResultVar} {rvs:List RV} {vc:Prop} {xs:List AV},cRes P rs=some rvs→BD s.env s.hp rvs=some (vc,xs)→vc→
  ∃vs,(rs.mapM (rv1 a.tmps)).run P σ.w= .ok vs σ.w∧RepL σ xs vs
 |[],rvs,vc,xs,hc,hex,hvc=>by
  simp[cRes] at hc;subst hc
  simp[BD] at hex
  obtain⟨_,rfl⟩:=hex
  exact⟨[],by simp,by simp[RepL]⟩
 |r::rs,rvs,vc,xs,hc,hex,hvc=>by
  simp only[cRes] at hc
  split at hc
  ·rename_i rv rvs' h1 h2
   simp at hc;subst hc
   simp only[BD] at hex
   split at hex
   ·rename_i v1 x1 v2 xs2 g1 g2
    simp only[yE,Prod.mk.injEq] at hex
    obtain⟨rfl,rfl⟩:=hex
    obtain⟨vs,k1,k2⟩:=Cj hI h2 g2 hvc.2
    cases r with
    |tmp t=>
     simp[cRV] at h1;subst h1
     simp only[K8,yE,Prod.mk.injEq] at g1
     obtain⟨_,rfl⟩:=g1
     refine⟨a.tmps.getD t undef::vs, ?_,_,_,rfl,DB rfl (hI.t t),k2⟩
     rw[List.mapM_cons]
     simp only[Sem.run_bind,Sem.run_pure,Result.andThen,k1,rv1]
    |cell k t=>
     simp only[cRV] at h1
     split at h1
     ·rename_i d i hd hi
      simp at h1;subst h1
      simp only[K8] at g1
      split at g1
      ·rename_i vc' r' ws' hex'
       simp only[yE,Prod.mk.injEq] at g1
       obtain⟨rfl,rfl⟩:=g1
       obtain⟨_,b,kk,u,e1,e2,e3⟩:=LG (P:=P) hI.df.gl hI.h hd hi (DB rfl (hI.t k)) hex' hvc.1
       refine⟨u::vs, ?_,_,_,rfl,e3,k2⟩
       rw[List.mapM_cons]
       simp only[Sem.run_bind,Sem.run_pure,Result.andThen,k1,Nl e1 e2]
      ·simp at g1
     ·simp at h1
   ·simp at hex
  ·simp at hc
theorem Ck {fn:Func} {tmps:Array Value} {w:World} {vs:List Value} (h:(fn.results.toList.mapM (rv1 tmps)).run P w= .ok vs w):
  (results fn tmps).run P w= .ok (if h:vs.toArray.size=1 then vs.toArray[0] else .tuple vs.toArray) w:=by
 have hm:fn.results.mapM (rv1 tmps)=List.toArray<$>fn.results.toList.mapM (rv1 tmps):=by
  rw[Array.mapM_eq_mapM_toList]
 show(do let vs←fn.results.mapM (rv1 tmps);pure (if h:vs.size=1 then vs[0] else .tuple vs):Sem Value).run P w=_
 rw[hm]
 simp only[Sem.run_bind,Sem.run_map,h,Result.andThen,Sem.run_pure]
def A1:Nat→List AV→Env
 |_,[]=>[]
 |k,x::xs=>(k,x)::A1 (k+1) xs
theorem Cl:∀(xs:List AV) (k t:Nat),lk (A1 k xs) t=if k≤t∧t<k+xs.length then xs.getD (t-k) .un else .un
 |[],k,t=>by simp[A1,lk]
 |x::xs,k,t=>by
  simp only[A1,lk]
  by_cases h:k=t
  ·subst h;simp
  ·rw[if_neg h,Cl xs (k+1) t]
   by_cases h2:k+1≤t∧t<k+1+xs.length
   ·rw[if_pos h2,if_pos (by simp;omega),show t-k=(t-(k+1))+1 from by omega]
    simp
   ·rw[if_neg h2,if_neg (by simp;omega)]
theorem Oth.refl {σ:Cf} (h:∀b,σ.O b→b<σ.w.heap.size∧¬σ.M b):Oth σ σ:=
 ⟨rfl,rfl,rfl,rfl,rfl,fun b hb=>⟨(h b hb).1,(h b hb).2,fun hf=>hf.2.1 hb⟩,Nat.le_refl _,fun _ _=>rfl,fun _ _ _ _ h=>h,SameO.refl _⟩
theorem Oth.trans {a b c:Cf} (h:Oth a b) (k:Oth b c):Oth a c where
 rb:=k.rb.trans h.rb
 ra:=k.ra.trans h.ra
 ln:=k.ln.trans h.ln
 al:=k.al.trans h.al
 M:=k.M.trans h.M
 ou x hx:=⟨(k.ou x hx).1,by have:=(k.ou x hx).2.1;rw[h.M] at this;exact this,fun hf=>(k.ou x hx).2.2 (h.ev.fz x hf)⟩
 sz:=Nat.le_trans h.sz k.sz
 mem x hx:=(k.mem x (by rw[h.M];exact hx)).trans (h.mem x hx)
 fro x o y hf hc:=k.fro x o y (h.ev.fz x hf) (h.fro x o y hf hc)
 io:=h.io.trans k.io
theorem FA {F:Fence} {n hb:Nat} {dd:List Deferred} {u:FrameMode} (hu:u≠.run) {fn:Func} {tmps:Array Value} {R:Ending→World→Prop}:∀(ds:List Deferred) (σ:Cf),(∀b,σ.O b→b<σ.w.heap.size∧¬σ.M b)→DOK (hb,false) σ .un ds→
  (∀τ,Oth σ τ→τ.O=σ.O→(∀(b:Nat) (o:Obj),b<hb∨σ.O b→σ.w.heap[b]? =some o→τ.w.heap[b]? =some o)→LeavesInM F n P fn tmps R dd u τ.w)→LeavesInM F n P fn tmps R (ds++dd) u σ.w
 |[],σ,hO,_,h=>h σ (Oth.refl hO) rfl fun _ _ _ h=>h
 |d::ds,σ,hO,hd,h=>by
  obtain⟨r,h1,h2,h3,h4,h5⟩:=hd.all rfl d (by simp)
  have hnd:=hd.nd rfl
  rw[List.pairwise_cons] at hnd
  let τ:Cf:={σ with w:=σ.w.putObj r (.deferred none)}
  have hsz:τ.w.heap.size=σ.w.heap.size:=World.putObj_size
  have k:Oth σ τ:=
   {rb:=rfl,ra:=rfl,ln:=rfl,al:=rfl,M:=rfl
    ou:=fun b hb=>⟨by rw[hsz];exact(hO b hb).1,(hO b hb).2,fun hf=>hf.2.1 hb⟩
    sz:=by rw[hsz];exact Nat.le_refl _
    mem:=fun b hb=>World.putObj_heap_other (by rintro rfl;exact h4 hb)
    fro:=fun b o x _ hc=>by
     by_cases e:b=r
     ·subst e;simp[World.cell?,h3] at hc
     ·simp only[World.cell?,show τ.w.heap[b]? =σ.w.heap[b]? from World.putObj_heap_other e]
      exact hc
    io:=⟨rfl,rfl⟩}
  refine⟨hu,.inl ⟨r,τ.w,by rw[h1],run_takeDeferred h3, ?_⟩⟩
  refine FA hu ds τ (fun b hb=>by rw[hsz];exact hO b hb) (DOK.of rfl (fun d' hd'=> ?_) hnd.2 (by rw[hsz];exact hd.le) (hd.gl.ev k.ev)) fun ρ k2 hO2 k3=>h ρ (k.trans k2) hO2 fun b o hb hc=>k3 b o hb ?_
  ·obtain⟨r',g1,g2,g3,g4,g5⟩:=hd.all rfl d' (by simp[hd'])
   have hne:r'≠r:=by
    rintro rfl
    exact hnd.1 d' hd' (by rw[h1,g1])
   exact⟨r',g1,g2,(World.putObj_heap_other hne).trans g3,g4,g5⟩
  ·refine(World.putObj_heap_other ?_).trans hc
   rcases hb with hb|hb
   ·simp only at h2;omega
   ·rintro rfl;exact h5 hb
theorem Cv {F:Fence} {n hb:Nat} {fn:Func} {tmps:Array Value} {R:Ending→World→Prop} (ds:List Deferred) (σ:Cf) (hO:∀b,σ.O b→b<σ.w.heap.size∧¬σ.M b) (hd:DOK (hb,false) σ .un ds)
  (h:∀τ,Oth σ τ→τ.O=σ.O→(∀(b:Nat) (o:Obj),b<hb∨σ.O b→σ.w.heap[b]? =some o→τ.w.heap[b]? =some o)→∃v,(results fn tmps).run P τ.w= .ok v τ.w∧R (.returned v) τ.w):LeavesInM F n P fn tmps R ds .returning σ.w:=by
 have:=FA (dd:=[]) (u:= .returning) (F:=F) (n:=n) (P:=P) (fn:=fn) (tmps:=tmps) (R:=R) (by simp) ds σ hO hd fun τ a b c=>h τ a b c
 rwa [List.append_nil] at this
def Cf.fresh (σ:Cf):Cf:={rb:=fun _=>0,ra:=fun _=>(none,0),M:=fun _=>False,O:=fun b=>σ.M b∨σ.O b,ln:=fun _=>none,al:=fun _=>False,w:=σ.w}
theorem Nn {S:Tab} (hS:TabOK P S) {f:Nat} {fn:Func} {code:Code} {c:AC} {rvs:List RV} {args:List AV} {r:AV} (hf:P.funcs[f]? =some fn) (hb:fn.body=some code) (hc:cCode P fn.ntmps code=some c) (hr:cRes P fn.results.toList=some rvs)
  (hn:args.length≤fn.ntmps) (h:∀hb,awp (Ctx.fn P S fn.ntmps hb) c (Ee rvs r) ⟨A1 0 args,[],0⟩):PCall P f args r:=by
 intro σ vs hgl hlt hp hx
 have hlen:=AP hx
 let τ:=σ.fresh
 have hgt:Gl τ:=fun b j hj=>⟨⟨fun h=>h,by rintro(h|h);exact(hgl b j hj).1.1 h;exact(hgl b j hj).1.2.1 h,(hgl b j hj).1.2.2⟩,(hgl b j hj).2⟩
 have hx':RepL τ args vs:=RepL.ofPure (σ:=σ) (σ':=τ) (fun b hb=>⟨fun h=>h,by rintro(h|h);exact hb.1 h;exact hb.2.1 h,hb.2.2⟩) (fun _ _=>rfl) args vs hp hx
 have hI:Inv τ (A1 0 args) [] {tmps:=vs.toArray++Array.replicate (fn.ntmps-vs.toArray.size) undef,defers:=[]} fn.ntmps (σ.w.heap.size,false):=by
  refine⟨⟨fun n=>rfl,fun n j c h=>by simp[hl] at h,fun n sz live rows d h=>by simp[hl] at h, ?_,fun b h=>h.elim,hlt,fun b h=>h.elim⟩,fun t=> ?_,by simp;omega,DOK.nil (Nat.le_refl _) hgt⟩
  ·rintro p q b (⟨_,_,j,c,h⟩|⟨_,⟨_,_,_,h⟩,_⟩) _<;>simp[hl] at h
  ·rw[Cl]
   split
   ·rename_i ht
    simp only[Nat.zero_le,Nat.zero_add,true_and] at ht
    have hg:args[t]? =some args[t]:=List.getElem?_eq_getElem ht
    obtain⟨x,g1,g2⟩:=Bc hx' t _ hg
    have e1:args.getD (t-0) .un=args[t]:=by simp[ht]
    have hlt':t<vs.length:=by omega
    have e2:(vs.toArray++Array.replicate (fn.ntmps-vs.toArray.size) undef).getD t undef=x:=by
     rw[List.getElem?_eq_getElem hlt'] at g1
     simp at g1
     simp[Array.getD_eq_getD_getElem?,Array.getElem?_append_left,hlt',g1]
    rw[e1,e2];exact g2
   ·simp[Rep]
 have hw:=h σ.w.heap.size code hc τ _ ⟨hI,fun m hm=>hm.elim,trivial⟩
 refine callsIn_wide.1 (callsIn_of_wp_marks (n:=0) hf hb trivial (wpIn_mono hw ?_))
 rintro e a' w' ⟨σ',s',e',rfl,h2,h3,h4,h5⟩
 have h2:Evo τ σ':=h2
 have key:∀(s':St),At (Ctx.fn P S fn.ntmps σ.w.heap.size) σ' s' a'→B4 rvs r s'→LeavesInM Fence.wide 0 P fn a'.tmps (fun e w'=>∃v',e= .returned v'∧(∀(b:Nat) (o:Obj),σ.w.heap[b]? =some o→w'.heap[b]? =some o)∧SameO σ.w w'∧A4 r=true∧Rep (σ.at w') r v') a'.defers .returning σ'.w:=by
  rintro s' hA ⟨vc,xs,g1,g2,g3,g4,g5⟩
  refine Cv a'.defers σ' (fun b hb=>⟨hA.1.h.ou b hb,fun hM=>hA.1.h.dis b hM hb⟩) (DOK.of' hA.1.df) fun ρ0 ko kO kb=> ?_
  have hI':Inv ρ0 s'.env s'.hp {a' with defers:=[]} fn.ntmps (σ.w.heap.size,false):=⟨hA.1.h.oth ko,hA.1.t.ev ko.ev,hA.1.sz,DOK.nil (Nat.le_trans hA.1.df.le ko.sz) (hA.1.df.gl.ev ko.ev)⟩
  obtain⟨us,k1,k2⟩:=Cj hI' hr g1 g2
  refine⟨_,Ck k1,_,rfl,fun b o hb=>kb b o (.inl (Array.getElem?_eq_some_iff.1 hb).1) (h2.fro b o hb (fun h=>h)).1,h2.io.trans ko.io,g5, ?_⟩
  have hone:Rep ρ0 (one xs) (if h:us.toArray.size=1 then us.toArray[0] else .tuple us.toArray):=by
   have hl':=AP k2
   unfold one
   split
   ·rename_i x
    simp only[RepL] at k2
    obtain⟨y,ys,rfl,e2,rfl⟩:=k2
    simpa using e2
   ·rename_i hno
    have hne:us.toArray.size≠1:=by
     intro h1
     simp at h1
     rw[h1] at hl'
     cases xs with
     |nil=>simp at hl'
     |cons x xs=>cases xs with
      |nil=>exact hno x rfl
      |cons _ _=>simp at hl'
    rw[dif_neg hne]
    simp only[Rep]
    exact⟨us,rfl,k2⟩
  let ρ:Cf:={ρ0 with M:=fun _=>False}
  have e:Evo ρ0 ρ:=⟨fun _ h=>⟨h,rfl⟩,fun _ _ l h=>⟨l,h,Nat.le_refl _,fun _=>rfl⟩,fun _ _ h _=>⟨h,fun h=>h⟩,rfl,Nat.le_refl _,SameO.refl _⟩
  have h6:=EO (τ:=ρ) hI'.h e rfl (fun _ h=>h) _ _ g3 hone
  have h7:=DS _ _ _ g4 h6
  refine Rep.ofPure (σ:=ρ) (σ':=σ.at ρ0.w) (fun b hb=> ?_) (fun _ _=>rfl) r _ g5 h7
  have hO:ρ.O=τ.O:=kO.trans h2.out
  have hb1:=hb.2.1
  rw[hO] at hb1
  exact⟨fun h=>hb1 (.inl h),fun h=>hb1 (.inr h),hb.2.2⟩
 cases e with
 |normal=>simp[AE.of] at h4;subst h4;exact key s' h3 h5
 |ret=>simp[AE.of] at h4;subst h4;exact key s' h3 h5
 |exit i=>simp[AE.of] at h4;subst h4;exact h5.elim
 |goto l=>simp[AE.of] at h4
 |panic c=>obtain⟨v,rfl,rfl⟩:=AE.of_panic h4;exact h5.elim
 |outgrown=>simp[AE.of] at h4
def Bl (P:Program) (fn:Func):Option (AC×List RV):=
 match fn.body with
 |some b=>match cCode P fn.ntmps b,cRes P fn.results.toList with
  |some c,some r=>some (c,r)
  |_,_=>none
 |none=>none
theorem Jw {S:Tab} (hS:TabOK P S) {f:Nat} {fn:Func} {c:AC} {rvs:List RV} {args:List AV} {r:AV} (nt:Nat) (hf:P.funcs[f]? =some fn) (hc:Bl P fn=some (c,rvs)) (hnt:fn.ntmps=nt)
  (hn:args.length≤nt) (h:∀hb,awp (Ctx.fn P S nt hb) c (Ee rvs r) ⟨A1 0 args,[],0⟩):PCall P f args r:=by
 subst hnt
 unfold Bl at hc
 split at hc
 ·rename_i b hb
  split at hc
  ·rename_i c' r' h1 h2
   simp at hc
   obtain⟨rfl,rfl⟩:=hc
   exact Nn hS hf hb h1 h2 hn h
  ·simp at hc
 ·simp at hc
end
end Go.Proofs.YtdabfcbelkjmgaaGreatDoor.Am
