import Derived.Test.YtciphecegkfaiaaGreatA19
set_option linter.unusedSimpArgs false
set_option linter.unusedVariables false
namespace Go.Proofs.YtciphecegkfaiaaGreat.Am
open Go
inductive TyK where
 |i (k:IntKind)|b|s|fc|pt|mp (k e:Nat)|sl (e:Nat)|ar (n e:Nat)|st (fs:List (Nat×Nat))|x
structure TyI where
 k:TyK
 ag:Bool
 sz:Nat
 bt:Nat
 z:List AV
 ks:List Bool
abbrev RN:=Nat->TyI
def wE(pf:Nat->Nat×Nat)(l:List (Nat×Operand)):List (Nat×Nat×Opd):=l.map λp=>((pf p.1).1,(pf p.1).2,Aq p.2)
def gPl(T:RN)(t:Nat)(j:Nat):Nat×Nat:=match(T t).k with
 |.st fs=>match fs[j]? with|some (o,u)=>(o,(T u).sz)|none=>(0,0)
 |.ar _ e=>(j*(T e).sz,(T e).sz)
 |_=>(0,0)
def Aa7(op:BinOp)(x y:Opd):AK:=match op with|.shl=>.pr (.shf .shl) [x,y]|.shr=>.pr (.shf .shr) [x,y]|.and=>.pr (.bits .and) [x,y]|.or=>.pr (.bits .or) [x,y]|.xor=>.pr (.bits .xor) [x,y]|.andNot=>.pr (.bits .andNot) [x,y]|op=>.bin op .int x y
def AcG(T:RN)(op:BinOp)(t:Nat)(x y:Opd):AK:=match(T t).k with
 |.i _=>Aa7 op x y
 |.b=>.bin op .bool x y
 |.s=>Kb op x y
 |.fc=>Kc op x y
 |.pt=>Kd op x y
 |.st _=>.bin op (.cells (T t).ks) x y
 |.ar _ _=>.bin op (.cells (T t).ks) x y
 |.sl _=>match op with|.eql=>.nils false x|_=>.nils true x
 |.mp _ _=>.bad
 |.x=>.bad
def Aa8(T:RN)(c:Call):AK:=match c.callee with
 |.value (.func f)=>.call f (c.args.toList.map Aq)
 |.value x=>.cv (Aq x) (c.args.toList.map Aq)
 |.builtin .len=>match c.args.toList,c.argTypes.toList with
  |[x],[t]=>match(T t).k with|.s=>.pr .slen [Aq x]|_=>.len (Aq x)
  |_,_=>.bad
 |.builtin .append=>match c.args.toList,c.argTypes.toList with
  |[s,x],[t,t']=>match(T t).k with|.sl e=>bif Nat.beq t t' then .app (T e).sz (T e).bt (T e).z (Aq s) (Aq x)else .appn (T e).sz (T e).bt (T e).z (Aq s) (Aq x)|_=>.bad
  |_,_=>.bad
 |.builtin .cap=>match c.args.toList with|[x]=>.cap (Aq x)|_=>.bad
 |.builtin .recover=>.rcv
 |.builtin .max=>.mm true (c.args.toList.map Aq)
 |.builtin .min=>.mm false (c.args.toList.map Aq)
 |_=>.bad
def gK(T:RN)(op:Op):AK:=match op with
 |.move x=>.mv (Aq x)
 |.assign x=>.mv (Aq x)
 |.pick c a b=>.pick (Aq c) (Aq a) (Aq b)
 |.alloc t=>bif YX (T t).z then .allocB t else .alloc (T t).z
 |.box t x=>.box (T t).sz (Aq x)
 |.build t parts=>.build (T t).z (wE (gPl T t) parts.toList)
 |.buildSlice t len parts=>match(T t).k with|.sl e=>.bsl (T e).sz len (T e).z (parts.toList.map λp=>(p.1,Aq p.2))|_=>.bad
 |.load t x=>.ld (T t).sz (T t).ag (Aq x)
 |.store t a x=>.st (T t).sz (Aq a) (Aq x)
 |.fieldAddr s x f=>.fa (gPl T s f).1 (Aq x)
 |.field t x f=>match(T t).k with
  |.st fs=>match fs[f]? with|some (o,u)=>.fld o (T u).sz (T u).ag (Aq x)|none=>.bad
  |_=>.bad
 |.indexAddr t x ix=>match(T t).k with|.sl e=>.ia (T e).sz (Aq x) (Aq ix)|.ar n e=>.iaA n (T e).sz (Aq x) (Aq ix)|_=>.bad
 |.index t x ix=>match(T t).k with|.ar n e=>.idxA n (T e).sz (T e).ag (Aq x) (Aq ix)|_=>.pr .sidx [Aq x,Aq ix]
 |.binOp op t x y _=>AcG T op t (Aq x) (Aq y)
 |.unOp op _ x=>.un op (Aq x)
 |.extract x i=>.ext (Aq x) i
 |.call c=>Aa8 T c
 |.makeFunc fn a b=>.mkf fn (a.toList.map Aq) (b.toList.map Aq)
 |.slice t x lo hi mx=>match(T t).k with|.sl e=>.slc (T e).sz (Aq x) (lo.map Aq) (hi.map Aq) (mx.map Aq)|_=>match lo,hi with|none,none=>.pr (.ssl false false) [Aq x]|some l,none=>.pr (.ssl true false) [Aq x,Aq l]|none,some h=>.pr (.ssl false true) [Aq x,Aq h]|some l,some h=>.pr (.ssl true true) [Aq x,Aq l,Aq h]
 |.nilCheck x=>.nilc (Aq x)
 |.convert src dst x=>match(T src).k,(T dst).k with|.i .i64,.i .i64=>.cnv .i64 (Aq x)|.i _,.i k=>.pr (.cvw k) [Aq x]|.sl _,_=>.b2s (Aq x)|_,_=>.bad
 |.panic x=>.pan (Aq x)
 |.defer c=>match c.callee with|.value x=>.dfr (Aq x)|_=>.bad
 |.makeInterface t x=>match(T t).k with|.st _=>.pr (.mkI t) [Aq x]|_=>.bad
 |.typeAssert x _ t _=>.pr (.tas t) [Aq x]
 |.makeMap _ _=>.mkm
 |.makeSlice t n c=>match(T t).k with|.sl e=>.mks (T e).sz (T e).bt (T e).z (Aq n) (Aq c)|_=>.bad
 |.entry x=>.ent (Aq x)
 |.lookup t m k ok=>match(T t).k with|.mp _ e=>.mlk (bif (T e).ag then .agg (T e).z else(T e).z.headD .un) ok (Aq m) (Aq k)|_=>.bad
 |.mapUpdate _ m k x=>.mup (Aq m) (Aq k) (Aq x)
 |.insert _ m k x=>.mup (Aq m) (Aq k) (Aq x)
 |.range _ x=>.rng (Aq x)
 |.next x _=>.nxt (Aq x)
 |_=>.bad
def gG(ops:Array Oper):Option (Nat×Bool)->Option (Nat×Bool)|none=>none|some (j,want)=>match(ops[j]?).bind (·.dst)with|some d=>some (d,want)|none=>none
def kF(T:RN)(ops:Array Oper):List Oper->List AOp|[]=>[]|o::r=>⟨o.dst,gG ops o.guard,gK T o.op⟩::kF T ops r
abbrev nW:=List (List (Nat×Nat))
def K4(T:RN):Code->nW->AC×nW
 |.skip,u=>(.nop,u)
 |.label _,u=>(.nop,u)
 |.region id ops false,u=>(.reg id (kF T ops ops.toList),u)
 |.region id ops true,u=>(.drw id (kF T ops ops.toList) (u.headD []),u.tail)
 |.seq a b,u=>match K4 T a u with|(x,u)=>match K4 T b u with|(y,u)=>(.seq x y,u)
 |.cond c a b,u=>match K4 T a u with|(x,u)=>match K4 T b u with|(y,u)=>(.cond (Aq c) x y,u)
 |.block id a,u=>match K4 T a u with|(x,u)=>(.block id x,u)
 |.loop a,u=>match K4 T a u with|(x,u)=>(.loop x,u)
 |.scope a,u=>match K4 T a u with|(x,u)=>(.scp x,u)
 |.rangeFunc f ps a b,u=>match K4 T a u with|(x,u)=>match K4 T b u with|(y,u)=>(.rfun (Aq f) ps.toList x y,u)
 |.exit id,u=>(.exit id,u)
 |.ret,u=>(.ret,u)
 |_,u=>(.nop,u)
def gRV(T:RN):ResultVar->RV|.tmp t=>.t t|.cell a t=>.c a (T t).sz (T t).ag
def AcH(T:RN)(fn:Func)(u:nW):AC×List RV:=match fn.body with|some b=>((K4 T b u).1,fn.results.toList.map (gRV T))|none=>(.nop,[])
structure FnX(P:Program)(f:Nat) where
 fn:Func
 c:AC
 rv:List RV
 nt:Nat
 hf:P.funcs[f]? =some fn
 hc:E0 P fn=some (c,rv)
 hn:fn.ntmps=nt
 ok:FU P f
noncomputable def Al{P:Program}{f:Nat}{fn:Func}(T:RN)(hf:P.funcs[f]? =some fn)(u:nW)(x:{x:AC×List RV//AcH T fn u=x}:=by exact⟨_,by conv=>lhs;cbv⟩)(h:E0 P fn=some x.1:=by kernel_rfl)(n:{n:Nat//fn.ntmps=n}:=by exact⟨_,by conv=>lhs;cbv⟩)(a:fn.body.isNone=false:=by kernel_rfl)(b:(fn.name== "runtime.NumGoroutine")=false:=by kernel_rfl):FnX P f:=⟨fn,x.1.1,x.1.2,n.1,hf,h,n.2,fn,hf,a,b⟩
theorem DE(l:List UInt8):ByteArray.mk (Array.mk l)=sB l:=rfl
attribute [local irreducible] As Cn B6 BK CA BJ Bv Cl Cv Dx
theorem XC{E J:Type}(f:E->J)(l:List E)(n:Nat):(l.map f).take n=(l.take n).map f:=List.map_take.symm
theorem XD{E J:Type}(f:E->J)(l:List E)(n:Nat):(l.map f).drop n=(l.drop n).map f:=List.map_drop.symm
structure Rw(E:Type) where
 n:Nat
 e:E->List AV
 d:List AV->E
 z:List AV
abbrev FW:=List (List AV)->Option (Prop×AV)
def Vk(p:Prop):Option (Prop×AV)->Option (Prop×AV)|some (q,x)=>some (p/\q,x)|none=>none
theorem N1{p vc:Prop}{o:Option (Prop×AV)}{r:AV}(h:Vk p o=some (vc,r)):∃q,o=some (q,r)/\vc=(p/\q):=by
 cases o with
 |none=>cases h
 |some x=>obtain⟨q,x⟩:=x;simp only[Vk,yE,Wt]at h;exact⟨q,by rw[h.2],h.1.symm⟩
def p0(K:FW):Spec:=λargs=>K [args]
def pG(K:FW):FW|(.agg cs::r)::st=>K (cs::r::st)|_=>none
def pO(K:FW):FW|(.ro cs 0::r)::st=>K (cs::r::st)|_=>none
def pL(f:Nat)(K:FW):FW|(.clo (.func g) [] ros::r)::st=>if g=f then K (ros::r::st)else none|_=>none
def pE(K:FW):FW|[]::st=>K st|_=>none
def pI(K:Int->FW):FW|(.v (.int .i64 n)::r)::st=>K n (r::st)|_=>none
def pK(k:IntKind)(K:Int->FW):FW|(.v (.int k' n)::r)::st=>Vk (k'=k) (K n (r::st))|_=>none
def pB(K:Bool->FW):FW|(.v (.bool n)::r)::st=>K n (r::st)|_=>none
def pT(K:List UInt8->FW):FW|(.v (.string n)::r)::st=>K (bL n) (r::st)|_=>none
def pS{E:Type}(R:Rw E)(K:List E->FW):FW
 |(.sl y _ s _::r)::st=>Vk ((y=R.n\/s=[])/\s=(s.map R.d).map R.e) (K (s.map R.d) (r::st))
 |_=>none
def pD{E:Type}(R:Rw E)(K:List E->FW):FW
 |(.sl y _ s _::r)::st=>Vk ((y=R.n\/s=[])/\J0 s ((s.map R.d).map R.e)) (K (s.map R.d) (r::st))
 |_=>none
def pR{E:Type}(R:Rw E)(K:List E->FW):FW
 |(.sl y f s d::r)::st=>Vk (((y=R.n/\f=false)/\d=R.z)/\s=(s.map R.d).map R.e) (K (s.map R.d) (r::st))
 |_=>none
def pF{J:Type}(o:Option J)(z:J)(g:J->AV):FW
 |[]=>some (o.isSome=true,g (o.getD z))
 |_=>none
def pV(v:AV):FW|[]=>some (True,v)|_=>none
def XE:List (List AV)->List (List AV)->Prop|[],[]=>True|x::xs,y::ys=>JP x y/\XE xs ys|_,_=>False
theorem wkD_self:∀x:AV,Js x x
 |.sl _ _ _ _=>⟨L5 _,.inl rfl,λh=>h⟩
 |.agg a=>wkDL_self a
 |.tup a=>wkDL_self a
 |.v _=>rfl
 |.ro _ _=>rfl
 |.clo _ _ _=>rfl
 |.box _ _=>rfl
 |.own _ _=>rfl
 |.elem _ _ _ _ _=>rfl
 |.gd _ _=>rfl
 |.mp _=>rfl
 |.un=>rfl
where wkDL_self:∀xs:List AV,JP xs xs
 |[]=>trivial
 |x::xs=>⟨wkD_self x,wkDL_self xs⟩
theorem QO:∀xs:List (List AV),XE xs xs
 |[]=>trivial
 |x::xs=>⟨wkD_self.wkDL_self x,QO xs⟩
abbrev Lf:=List (List AV)->List AV
def N2(C:Lf):Prop:=∀a b,XE a b->JP (C a) (C b)
def FC(P:Program)(f:Nat)(C:Lf)(s:FW):Prop:=∀st vc r,s st=some (vc,r)->vc->PCall P f (C st) r
def c0:Lf|a::_=>a|[]=>[]
def cA(C:Lf):Lf|cs::r::st=>C ((.agg cs::r)::st)|st=>C st
def cO(C:Lf):Lf|cs::r::st=>C ((.ro cs 0::r)::st)|st=>C st
def cL(f:Nat)(C:Lf):Lf|cs::r::st=>C ((.clo (.func f) [] cs::r)::st)|st=>C st
def cE(C:Lf):Lf:=λst=>C ([]::st)
def cP(x:AV)(C:Lf):Lf|r::st=>C ((x::r)::st)|[]=>C []
theorem m0:N2 c0:=by
 intro a b h;cases a<;>cases b<;>simp only[XE,c0,JP]at h⊢
 exact h.1
theorem mG{C:Lf}(h:N2 C):N2 (cA C):=by
 intro a b k;rcases a with _|⟨a,_|⟨a',a2⟩⟩<;>rcases b with _|⟨b,_|⟨b',b2⟩⟩<;>simp only[XE,and_false]at k
 ·exact h _ _ trivial
 ·exact h _ _ ⟨k.1,trivial⟩
 ·exact h _ _ ⟨⟨k.1,k.2.1⟩,k.2.2⟩
theorem mE{C:Lf}(h:N2 C):N2 (cE C):=λa b k=>h _ _ ⟨trivial,k⟩
theorem mP{x:AV}{C:Lf}(h:N2 C):N2 (cP x C):=by
 intro a b k;cases a<;>cases b<;>simp only[XE]at k
 ·exact h _ _ trivial
 ·exact h _ _ ⟨⟨wkD_self x,k.1⟩,k.2⟩
section
variable{P:Program}{f:Nat}{C:Lf}
theorem Ax{K:FW}(o:FU P f)(h:FC P f c0 K):AZ P f (p0 K):=⟨o,λargs vc r hs hv=>h [args] vc r hs hv⟩
theorem A2{K:FW}(h:FC P f (cA C) K):FC P f C (pG K):=by
 intro st vc r hs hv;unfold pG at hs;split at hs
 ·exact h _ _ _ hs hv
 ·cases hs
theorem LF{K:FW}(h:FC P f (cO C) K):FC P f C (pO K):=by
 intro st vc r hs hv;unfold pO at hs;split at hs
 ·exact h _ _ _ hs hv
 ·cases hs
theorem LG{g:Nat}{K:FW}(h:FC P f (cL g C) K):FC P f C (pL g K):=by
 intro st vc r hs hv;unfold pL at hs;split at hs
 ·rename_i g' ros rr st';by_cases e:g'=g
  ·rw[eX e]at hs;subst e;exact h _ _ _ hs hv
  ·rw[eW e]at hs;cases hs
 ·cases hs
theorem Ai{K:FW}(h:FC P f (cE C) K):FC P f C (pE K):=by
 intro st vc r hs hv;unfold pE at hs;split at hs
 ·exact h _ _ _ hs hv
 ·cases hs
theorem Ad{K:Int->FW}(h:∀n,FC P f (cP (.i n) C) (K n)):FC P f C (pI K):=by
 intro st vc r hs hv;unfold pI at hs;split at hs
 ·exact h _ _ _ _ hs hv
 ·cases hs
theorem LH{K:List UInt8->FW}(h:∀n,FC P f (cP (.v (.string (sB n))) C) (K n)):FC P f C (pT K):=by
 intro st vc r hs hv;unfold pT at hs;split at hs
 ·rename_i n rr st';have:=h _ _ _ _ hs hv;simp only[cP,MF]at this;exact this
 ·cases hs
theorem Dj{E:Type}{R:Rw E}{K:List E->FW}(h:∀l,FC P f (cP (.sl R.n false (l.map R.e) R.z) C) (K l))(hC:N2 C:=by repeat' (first|exact m0|apply mG|apply mE|apply mP)):FC P f C (pD R K):=by
 intro st vc r hs hv;unfold pD at hs;split at hs
 ·rename_i y fl s d rr st';obtain⟨q,h1,rfl⟩:=N1 hs;obtain⟨⟨e1,e2⟩,hv⟩:=hv;have:=h _ _ _ _ h1 hv;exact PCall.argD (hC _ ((.sl R.n false ((s.map R.d).map R.e) R.z::rr)::st') ⟨⟨⟨e2,e1,λk=>by cases k⟩,wkD_self.wkDL_self _⟩,QO _⟩) this
 ·cases hs
theorem Bf{E:Type}{R:Rw E}{K:List E->FW}(h:∀l,FC P f (cP (.sl R.n false (l.map R.e) R.z) C) (K l))(hC:N2 C:=by repeat' (first|exact m0|apply mG|apply mE|apply mP)):FC P f C (pS R K):=by
 intro st vc r hs hv;unfold pS at hs;split at hs
 ·rename_i y fl s d rr st';obtain⟨q,h1,rfl⟩:=N1 hs;obtain⟨⟨e1,e2⟩,hv⟩:=hv;have:=h _ _ _ _ h1 hv;exact PCall.argD (hC _ ((.sl R.n false ((s.map R.d).map R.e) R.z::rr)::st') ⟨⟨⟨by rw[<-e2];exact L5 _,e1,λk=>by cases k⟩,wkD_self.wkDL_self _⟩,QO _⟩) this
 ·cases hs
theorem Y2{E:Type}{R:Rw E}{K:List E->FW}(h:∀l,FC P f (cP (.sl R.n false (l.map R.e) R.z) C) (K l)):FC P f C (pR R K):=by
 intro st vc r hs hv;unfold pR at hs;split at hs
 ·obtain⟨q,h1,rfl⟩:=N1 hs;obtain⟨⟨⟨⟨rfl,rfl⟩,rfl⟩,e2⟩,hv⟩:=hv;have:=h _ _ _ _ h1 hv;simp only[cP]at this;rw[<-e2]at this;exact this
 ·cases hs
theorem Ay{J:Type}{o:Option J}{z:J}{g:J->AV}(h:∀r,o=some r->PCall P f (C []) (g r)):FC P f C (pF o z g):=by
 intro st vc r hs hv;unfold pF at hs;split at hs
 ·simp only[yE,Wt]at hs;obtain⟨rfl,rfl⟩:=hs;obtain⟨r,hr⟩:=yX hv;have:=h r hr;rw[hr];exact this
 ·cases hs
theorem wx{S:Tab}{args:List AV}{r:AV}(x:FnX P f)(hS:TabOK P S)(h:∀hb,TabOK P S->([]:List Nat).length=0->As (Ctx.fn P S x.nt hb) x.c (CA x.rv r) ⟨CK 0 args,[],0⟩)(hn:args.length<=x.nt:=by exact mO rfl):PCall P f args r:=N5 hS x.nt x.hf x.hc x.hn hn λhb=>h hb hS rfl
end
attribute [go_sem] Vk p0 pG pO pL pE pI pK pB pT pS pD pR pF pV c0 cA cO cL cE cP
theorem Bt{E:Type}(e:E->List AV){R:List E}{i:Int}{x:E}{F:Prop}(h:AA R i=some x)(f:F):(0<=i/\i<R.length)/\(∀d,BG (R.map e) d i.toNat=e x)/\(∀d,R.getD i.toNat d=x)/\F:=by
 refine⟨(JQ h).1,λd=>?_,(JQ h).2,f⟩;unfold AA at h;split at h
 ·unfold BG;rw[eT,qX,h];rfl
 ·cases h
theorem wF{E:Type}(e:E->List AV){R:List E}{i:Int}(h:¬i<R.length)(d:List AV):BG (R.map e) d i.toNat=d:=by unfold BG;rw[eT,List.getElem?_eq_none (by rw[p9];omega)];rfl
theorem Ma{E:Type}(k:Nat)(e:E->List AV){R:List E}{i:Int}{x:E}{F:Prop}(h:AA R i=some x)(f:F)(hk:i=(k:Int):=by exact rfl):(0<=i/\i<R.length)/\(∀d,BG (R.map e) d k=e x)/\(∀d,R.getD k d=x)/\F:=by subst hk;exact Bt e h f
structure TX{X:Type}(x:X):Prop where
@[reducible] def nX{X:Type}{x:X}(_:TX x):X:=x
attribute [go_sem] nX
theorem ev{F G:Prop}(f:F)(t:F->G:=by intro f;simp only[go_sem,seval,f]<;>eq_refl):G:=t f
theorem un{P Q:Prop}(h:P)(t:P->Q:=by
 intro h
 (try simp only[Jl,yB]at h)
 exact h):Q:=t h
theorem Ap{S F G P Q:Prop}{E:Type}{B:Bool}{X Y τ:E}(hS:S)(f:F)(h:(bif B then X else Y)=τ)(ht:B=true->X=τ->P)(hf:B=false->Y=τ->Q)(t:S->F->Hid (B=true->P)->Hid (B=false->Q)->G:=by
 intro hS f k1 k2
 repeat' (first
  |(with_reducible (first|apply FP|apply GN|apply GI|apply HY|apply FQ|apply FR);(·(first|exact Ctx.fn_ok hS|exact Ctx.rd_ok hS|assumption|exact yT|exact Ctx.rdG_ok hS));iterate 2 (·(simp only[go_sem,seval,f]<;>eq_refl)))
  |with_reducible (first|apply FM|apply GD|apply Fm|apply FL|apply EZ|apply El|apply Ez|apply Fe|apply GE|apply GF|apply Gd|apply GG|apply F1)
  |(with_reducible apply GH;(·first|rfl|decide))
  |(with_reducible apply Kn;(·simp))
  |with_reducible (first|apply Ko|apply Kp|apply Kq|apply FN|apply FO|apply GK|apply GL|apply GM|apply yT|apply And.intro yT yT)
  |(fail_if_success with_reducible apply Jx);(fail_if_success with_reducible apply GJ);(try clear k1 k2);first|with_reducible apply And.intro|omega|(simp only[go_sem,seval,f];done)|with_reducible assumption|(refine And.intro ?_ ?_)|(intro hg;simp_all;done)|decide|grind)
 exact cb f _ k1.k k2.k):G:=t hS f ⟨λe=>ht e (xR e h)⟩ ⟨λe=>hf e (xS e h)⟩
theorem TB{S F G P:Prop}(hS:S)(f:F)(h:P)(t:S->F->Hid P->G:=by
 intro hS f k
 repeat' (first
  |(with_reducible (first|apply FP|apply GN|apply GI|apply HY|apply FQ|apply FR);(·(first|exact Ctx.fn_ok hS|exact Ctx.rd_ok hS|assumption|exact yT|exact Ctx.rdG_ok hS));iterate 2 (·(simp only[go_sem,seval,f]<;>eq_refl)))
  |with_reducible (first|apply FM|apply GD|apply Fm|apply FL|apply EZ|apply El|apply Ez|apply Fe|apply GE|apply GF|apply Gd|apply GG|apply F1)
  |(with_reducible apply GH;(·first|rfl|decide))
  |(with_reducible apply Kn;(·simp))
  |with_reducible (first|apply Ko|apply Kp|apply Kq|apply FN|apply FO|apply GK|apply GL|apply GM|apply yT|apply And.intro yT yT)
  |(fail_if_success with_reducible apply Jx);(fail_if_success with_reducible apply GJ);(try clear k);first|with_reducible apply And.intro|omega|(simp only[go_sem,seval,f];done)|with_reducible assumption|(refine And.intro ?_ ?_)|(intro hg;simp_all;done)|decide|grind)
 exact ct f k.k):G:=t hS f ⟨h⟩
theorem Kg{S F G P:Prop}(hS:S)(f:F)(h:P)(t:S->F->Hid P->G:=by
 intro hS f k
 repeat' (first
  |(with_reducible (first|apply FP|apply GN|apply GI|apply HY|apply FQ|apply FR);(·(first|exact Ctx.fn_ok hS|exact Ctx.rd_ok hS|assumption|exact yT|exact Ctx.rdG_ok hS));iterate 2 (·(simp only[go_sem,seval,f]<;>eq_refl)))
  |with_reducible (first|apply FM|apply GD|apply Fm|apply FL|apply EZ|apply El|apply Ez|apply Fe|apply GE|apply GF|apply Gd|apply GG|apply F1)
  |(with_reducible apply GH;(·first|rfl|decide))
  |(with_reducible apply Kn;(·simp))
  |with_reducible (first|apply Ko|apply Kp|apply Kq|apply FN|apply FO|apply GK|apply GL|apply GM|apply yT|apply And.intro yT yT)
  |(fail_if_success with_reducible apply Jx);(fail_if_success with_reducible apply GJ);(try clear k);first|with_reducible apply And.intro|omega|(simp only[go_sem,seval,f];done)|with_reducible assumption|(refine And.intro ?_ ?_)|(intro hg;simp_all;done)|decide|grind)
 exact cf f k.k):G:=t hS f ⟨h⟩
theorem Af{S F G:Prop}{E:Type}{a r:E}(hS:S)(f:F)(h:some a=some r)(t:S->(r=a/\F)->G:=by
 intro hS f
 repeat' (first
  |(with_reducible (first|apply FP|apply GN|apply GI|apply HY|apply FQ|apply FR);(·(first|exact Ctx.fn_ok hS|exact Ctx.rd_ok hS|assumption|exact yT|exact Ctx.rdG_ok hS));iterate 2 (·(simp only[go_sem,seval,f]<;>eq_refl)))
  |with_reducible (first|apply FM|apply GD|apply Fm|apply FL|apply EZ|apply El|apply Ez|apply Fe|apply GE|apply GF|apply Gd|apply GG|apply F1)
  |(with_reducible apply GH;(·first|rfl|decide))
  |(with_reducible apply Kn;(·simp))
  |with_reducible (first|apply Ko|apply Kp|apply Kq|apply FN|apply FO|apply GK|apply GL|apply GM|apply yT|apply And.intro yT yT)
  |(fail_if_success with_reducible apply Jx);(fail_if_success with_reducible apply GJ);first|with_reducible apply And.intro|omega|(simp only[go_sem,seval,f];done)|with_reducible assumption|(refine And.intro ?_ ?_)|(intro hg;simp_all;done)|decide|grind)
 exact fin f):G:=t hS ⟨(yJ h).symm,f⟩
theorem Bk{S F G p:Prop}{X:Type}(hS:S)(f:F)(x:X)(h:p)(t:S->F->TX x->Hid p->G:=by
 intro hS f kx kp
 repeat' (first
  |(with_reducible (first|apply FP|apply GN|apply GI|apply HY|apply FQ|apply FR);(·(first|exact Ctx.fn_ok hS|exact Ctx.rd_ok hS|assumption|exact yT|exact Ctx.rdG_ok hS));iterate 2 (·(simp only[go_sem,seval,f]<;>eq_refl)))
  |with_reducible (first|apply FM|apply GD|apply Fm|apply FL|apply EZ|apply El|apply Ez|apply Fe|apply GE|apply GF|apply Gd|apply GG|apply F1)
  |(with_reducible apply GH;(·first|rfl|decide))
  |(with_reducible apply Kn;(·simp))
  |with_reducible (first|apply Ko|apply Kp|apply Kq|apply FN|apply FO|apply GK|apply GL|apply GM|apply yT|apply And.intro yT yT)
  |(fail_if_success with_reducible apply Jx);(fail_if_success with_reducible apply GJ);(try clear kx kp);first|with_reducible apply And.intro|omega|(simp only[go_sem,seval,f];done)|with_reducible assumption|(refine And.intro ?_ ?_)|(intro hg;simp_all;done)|decide|grind)
 exact H4 (nX kx) kp.k (Wm _) (Bn f)):G:=t hS f ⟨⟩ ⟨h⟩
theorem A9{S F G:Prop}{X E:Type}{a b:E}(hS:S)(f:F)(x:X)(h:some a=some b)(t:S->F->TX x->Hid (a=b)->G:=by
 intro hS f kx kp
 repeat' (first
  |(with_reducible (first|apply FP|apply GN|apply GI|apply HY|apply FQ|apply FR);(·(first|exact Ctx.fn_ok hS|exact Ctx.rd_ok hS|assumption|exact yT|exact Ctx.rdG_ok hS));iterate 2 (·(simp only[go_sem,seval,f]<;>eq_refl)))
  |with_reducible (first|apply FM|apply GD|apply Fm|apply FL|apply EZ|apply El|apply Ez|apply Fe|apply GE|apply GF|apply Gd|apply GG|apply F1)
  |(with_reducible apply GH;(·first|rfl|decide))
  |(with_reducible apply Kn;(·simp))
  |with_reducible (first|apply Ko|apply Kp|apply Kq|apply FN|apply FO|apply GK|apply GL|apply GM|apply yT|apply And.intro yT yT)
  |(fail_if_success with_reducible apply Jx);(fail_if_success with_reducible apply GJ);(try clear kx kp);first|with_reducible apply And.intro|omega|(simp only[go_sem,seval,f];done)|with_reducible assumption|(refine And.intro ?_ ?_)|(intro hg;simp_all;done)|decide|grind)
 exact bW (nX kx) kp.k (Bn f)):G:=t hS f ⟨⟩ ⟨yJ h⟩
theorem RO{S F G p:Prop}{X:Type}(hS:S)(f:F)(x:X)(h:p)(t:S->F->TX x->Hid p->G:=by
 intro hS f kx kp
 repeat' (first
  |(with_reducible (first|apply FP|apply GN|apply GI|apply HY|apply FQ|apply FR);(·(first|exact Ctx.fn_ok hS|exact Ctx.rd_ok hS|assumption|exact yT|exact Ctx.rdG_ok hS));iterate 2 (·(simp only[go_sem,seval,f]<;>eq_refl)))
  |with_reducible (first|apply FM|apply GD|apply Fm|apply FL|apply EZ|apply El|apply Ez|apply Fe|apply GE|apply GF|apply Gd|apply GG|apply F1)
  |(with_reducible apply GH;(·first|rfl|decide))
  |(with_reducible apply Kn;(·simp))
  |with_reducible (first|apply Ko|apply Kp|apply Kq|apply FN|apply FO|apply GK|apply GL|apply GM|apply yT|apply And.intro yT yT)
  |(fail_if_success with_reducible apply Jx);(fail_if_success with_reducible apply GJ);(try clear kx kp);first|with_reducible apply And.intro|omega|(simp only[go_sem,seval,f];done)|with_reducible assumption|(refine And.intro ?_ ?_)|(intro hg;simp_all;done)|decide|grind)
 exact Vx (nX kx) ⟨kp.k,by show _+1<=_;omega⟩ rfl (Bn f)):G:=t hS f ⟨⟩ ⟨h⟩
section
variable{V:Ctx}{c:AC}{K:AE->St->Prop}{s:St}
theorem AM{ω X:Type}(o:ω)(I:X->St)(j:X->ω)(e0:AE)(h1:As V c (Zh e0 I (λz=>j z=o) K) s)(h2:∀x,j x=o->K e0 (I x)):As V c K s:=sS I _ e0 h1 h2
theorem AH{ω X:Type}{N:Nat}{o:ω}(D:Nat->X->Option ω)(I:X->St)(x0:X)(hL:D N x0=some o)(hs:Le (I x0) s)(step:∀n x,D (n+1) x=some o->As V c (BK (λy:Nat×X=>I y.2) (λy=>D y.1 y.2=some o) (λy=>y.1) (n+1) K) (I x))(hz:∀x,D 0 x=none:=by exact λ_=>rfl):As V (.loop c) K s:=by
 refine Is (λy:Nat×X=>I y.2) (λy=>D y.1 y.2=some o) (λy=>y.1) (N,x0) hL hs ?_;rintro⟨n,x⟩ hx;cases n with
 |zero=>exact absurd hx (by simp only[hz];simp)
 |succ n=>exact step n x hx
end
attribute [go_sem] R5 R6 List.set_cons_succ List.isEmpty_map List.map_append List.map_eq_nil_iff ne_eq List.length_replicate XC XD List.length_set Option.isSome_some Option.getD_some
