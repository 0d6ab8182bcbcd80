import Derived.Test.YtciphecegkfaiaaGreatA19
namespace Go.Proofs.YtciphecegkfaiaaGreat.Am
set_option linter.unusedSimpArgs false
set_option linter.unusedVariables false
open Go
inductive TyK where
 |i (k:IntKind)|b|s|fc|pt|mp (k e:Nat)|sl (e:Nat)|ar (n e:Nat)|st (fs:List (Nat×Nat))|x
structure TyI where
 k:TyK
 ag:Bool
 sz:Nat
 bt:Nat
 z:List AV
 ks:List Bool
abbrev TyT:=Nat→TyI
def dV (pf:Nat→Nat×Nat) (l:List (Nat×Operand)):List (Nat×Nat×Opd):=l.map fun p=>((pf p.1).1,(pf p.1).2,opd p.2)
def gPl (T:TyT) (t:Nat) (j:Nat):Nat×Nat:=
 match(T t).k with
 | .st fs=>match fs[j]? with
  |some (o,u)=>(o,(T u).sz)
  |none=>(0,0)
 | .ar _ e=>(j*(T e).sz,(T e).sz)
 |_=>(0,0)
def kT (op:BinOp) (x y:Opd):AK:=
 match op with
 | .shl=> .pr (.shf .shl) [x,y]
 | .shr=> .pr (.shf .shr) [x,y]
 | .and=> .pr (.bits .and) [x,y]
 | .or=> .pr (.bits .or) [x,y]
 | .xor=> .pr (.bits .xor) [x,y]
 | .andNot=> .pr (.bits .andNot) [x,y]
 |op=> .bin op .int x y
def nT (T:TyT) (op:BinOp) (t:Nat) (x y:Opd):AK:=
 match(T t).k with
 | .i _=>kT op x y
 | .b=> .bin op .bool x y
 | .s=>IA op x y
 | .fc=>IB op x y
 | .pt=>IC op x y
 | .st _=> .bin op (.cells (T t).ks) x y
 | .ar _ _=> .bin op (.cells (T t).ks) x y
 | .sl _=>match op with
  | .eql=> .nils false x
  |_=> .nils true x
 | .mp _ _=> .bad
 | .x=> .bad
def kU (T:TyT) (c:Call):AK:=
 match c.callee with
 | .value (.func f)=> .call f (c.args.toList.map opd)
 | .value x=> .cv (opd x) (c.args.toList.map opd)
 | .builtin .len=>match c.args.toList,c.argTypes.toList with
  |[x],[t]=>match(T t).k with
   | .s=> .pr .slen [opd x]
   |_=> .len (opd x)
  |_,_=> .bad
 | .builtin .append=>match c.args.toList,c.argTypes.toList with
  |[s,x],[t,t']=>match(T t).k with
   | .sl e=>bif Nat.beq t t' then .app (T e).sz (T e).bt (T e).z (opd s) (opd x) else .appn (T e).sz (T e).bt (T e).z (opd s) (opd x)
   |_=> .bad
  |_,_=> .bad
 | .builtin .cap=>match c.args.toList with
  |[x]=> .cap (opd x)
  |_=> .bad
 | .builtin .recover=> .rcv
 | .builtin .max=> .mm true (c.args.toList.map opd)
 | .builtin .min=> .mm false (c.args.toList.map opd)
 |_=> .bad
def gK (T:TyT) (op:Op):AK:=
 match op with
 | .move x=> .mv (opd x)
 | .assign x=> .mv (opd x)
 | .pick c a b=> .pick (opd c) (opd a) (opd b)
 | .alloc t=>bif T8 (T t).z then .allocB t else .alloc (T t).z
 | .box t x=> .box (T t).sz (opd x)
 | .build t parts=> .build (T t).z (dV (gPl T t) parts.toList)
 | .buildSlice t len parts=>match(T t).k with
  | .sl e=> .bsl (T e).sz len (T e).z (parts.toList.map fun p=>(p.1,opd p.2))
  |_=> .bad
 | .load t x=> .ld (T t).sz (T t).ag (opd x)
 | .store t a x=> .st (T t).sz (opd a) (opd x)
 | .fieldAddr s x f=> .fa (gPl T s f).1 (opd x)
 | .field t x f=>match(T t).k with
  | .st fs=>match fs[f]? with
   |some (o,u)=> .fld o (T u).sz (T u).ag (opd x)
   |none=> .bad
  |_=> .bad
 | .indexAddr t x ix=>match(T t).k with
  | .sl e=> .ia (T e).sz (opd x) (opd ix)
  | .ar n e=> .iaA n (T e).sz (opd x) (opd ix)
  |_=> .bad
 | .index t x ix=>match(T t).k with
  | .ar n e=> .idxA n (T e).sz (T e).ag (opd x) (opd ix)
  |_=> .pr .sidx [opd x,opd ix]
 | .binOp op t x y _=>nT T op t (opd x) (opd y)
 | .unOp op _ x=> .un op (opd x)
 | .extract x i=> .ext (opd x) i
 | .call c=>kU T c
 | .makeFunc fn a b=> .mkf fn (a.toList.map opd) (b.toList.map opd)
 | .slice t x lo hi mx=>match(T t).k with
  | .sl e=> .slc (T e).sz (opd x) (lo.map opd) (hi.map opd) (mx.map opd)
  |_=>match lo,hi with
   |none,none=> .pr (.ssl false false) [opd x]
   |some l,none=> .pr (.ssl true false) [opd x,opd l]
   |none,some h=> .pr (.ssl false true) [opd x,opd h]
   |some l,some h=> .pr (.ssl true true) [opd x,opd l,opd h]
 | .nilCheck x=> .nilc (opd x)
 | .convert src dst x=>match(T src).k,(T dst).k with
  | .i .i64,.i .i64=> .cnv .i64 (opd x)
  | .i _,.i k=> .pr (.cvw k) [opd x]
  | .sl _,_=> .b2s (opd x)
  |_,_=> .bad
 | .panic x=> .pan (opd x)
 | .defer c=>match c.callee with
  | .value x=> .dfr (opd x)
  |_=> .bad
 | .makeInterface t x=>match(T t).k with
  | .st _=> .pr (.mkI t) [opd x]
  |_=> .bad
 | .typeAssert x _ t _=> .pr (.tas t) [opd x]
 | .makeMap _ _=> .mkm
 | .makeSlice t n c=>match(T t).k with
  | .sl e=> .mks (T e).sz (T e).bt (T e).z (opd n) (opd c)
  |_=> .bad
 | .entry x=> .ent (opd x)
 | .lookup t m k ok=>match(T t).k with
  | .mp _ e=> .mlk (bif (T e).ag then .agg (T e).z else(T e).z.headD .un) ok (opd m) (opd k)
  |_=> .bad
 | .mapUpdate _ m k x=> .mup (opd m) (opd k) (opd x)
 | .insert _ m k x=> .mup (opd m) (opd k) (opd x)
 | .range _ x=> .rng (opd x)
 | .next x _=> .nxt (opd x)
 |_=> .bad
def gG (ops:Array Oper):Option (Nat×Bool)→Option (Nat×Bool)
 |none=>none
 |some (j,want)=>match(ops[j]?).bind (·.dst) with
  |some d=>some (d,want)
  |none=>none
def XV (T:TyT) (ops:Array Oper):List Oper→List AOp
 |[]=>[]
 |o::r=>⟨o.dst,gG ops o.guard,gK T o.op⟩::XV T ops r
abbrev UnL:=List (List (Nat×Nat))
def Jk (T:TyT):Code→UnL→AC×UnL
 | .skip,u=>(.nop,u)
 | .label _,u=>(.nop,u)
 | .region id ops false,u=>(.reg id (XV T ops ops.toList),u)
 | .region id ops true,u=>(.drw id (XV T ops ops.toList) (u.headD []),u.tail)
 | .seq a b,u=>match Jk T a u with
  |(x,u)=>match Jk T b u with
   |(y,u)=>(.seq x y,u)
 | .cond c a b,u=>match Jk T a u with
  |(x,u)=>match Jk T b u with
   |(y,u)=>(.cond (opd c) x y,u)
 | .block id a,u=>match Jk T a u with
  |(x,u)=>(.block id x,u)
 | .loop a,u=>match Jk T a u with
  |(x,u)=>(.loop x,u)
 | .scope a,u=>match Jk T a u with
  |(x,u)=>(.scp x,u)
 | .rangeFunc f ps a b,u=>match Jk T a u with
  |(x,u)=>match Jk T b u with
   |(y,u)=>(.rfun (opd f) ps.toList x y,u)
 | .exit id,u=>(.exit id,u)
 | .ret,u=>(.ret,u)
 |_,u=>(.nop,u)
def gRV (T:TyT):ResultVar→RV
 | .tmp t=> .t t
 | .cell a t=> .c a (T t).sz (T t).ag
def nU (T:TyT) (fn:Func) (u:UnL):AC×List RV:=
 match fn.body with
 |some b=>((Jk T b u).1,fn.results.toList.map (gRV T))
 |none=>(.nop,[])
structure FnX (P:Program) (f:Nat) where
 fn:Func
 c:AC
 rv:List RV
 nt:Nat
 hf:P.funcs[f]? =some fn
 hc:D4 P fn=some (c,rv)
 hn:fn.ntmps=nt
 ok:okF P f
noncomputable def mkX {P:Program} {f:Nat} {fn:Func} (T:TyT) (hf:P.funcs[f]? =some fn) (u:UnL) (x:{x:AC×List RV//nU T fn u=x}:=by exact⟨_,by conv=>lhs;cbv⟩)
  (h:D4 P fn=some x.1:=by kernel_rfl) (n:{n:Nat//fn.ntmps=n}:=by exact⟨_,by conv=>lhs;cbv⟩) (a:fn.body.isNone=false:=by kernel_rfl) (b:(fn.name== "runtime.NumGoroutine")=false:=by kernel_rfl):FnX P f:=
 ⟨fn,x.1.1,x.1.2,n.1,hf,h,n.2,fn,hf,a,b⟩
theorem CZ (l:List UInt8):ByteArray.mk (Array.mk l)=sB l:=rfl
attribute [local irreducible] awp B5 BR Bx B3 Bw Bn BS B1 itK
theorem Td {α β:Type} (f:α→β) (l:List α) (n:Nat):(l.map f).take n=(l.take n).map f:=List.map_take.symm
theorem Te {α β:Type} (f:α→β) (l:List α) (n:Nat):(l.map f).drop n=(l.drop n).map f:=List.map_drop.symm
structure Rw (α:Type) where
 n:Nat
 e:α→List AV
 d:List AV→α
 z:List AV
abbrev SpS:=List (List AV)→Option (Prop×AV)
def pIf (p:Prop):Option (Prop×AV)→Option (Prop×AV)
 |some (q,x)=>some (p∧q,x)
 |none=>none
theorem Lz {p vc:Prop} {o:Option (Prop×AV)} {r:AV} (h:pIf p o=some (vc,r)):∃q,o=some (q,r)∧vc=(p∧q):=by
 cases o with
 |none=>cases h
 |some x=>obtain⟨q,x⟩:=x;simp only[pIf,yE,Prod.mk.injEq] at h;exact⟨q,by rw[h.2],h.1.symm⟩
def p0 (K:SpS):Spec:=fun args=>K [args]
def pG (K:SpS):SpS
 |(.agg cs::r)::st=>K (cs::r::st)
 |_=>none
def pO (K:SpS):SpS
 |(.ro cs 0::r)::st=>K (cs::r::st)
 |_=>none
def pL (f:Nat) (K:SpS):SpS
 |(.clo (.func g) [] ros::r)::st=>if g=f then K (ros::r::st) else none
 |_=>none
def pE (K:SpS):SpS
 |[]::st=>K st
 |_=>none
def pI (K:Int→SpS):SpS
 |(.v (.int .i64 n)::r)::st=>K n (r::st)
 |_=>none
def pK (k:IntKind) (K:Int→SpS):SpS
 |(.v (.int k' n)::r)::st=>pIf (k'=k) (K n (r::st))
 |_=>none
def pB (K:Bool→SpS):SpS
 |(.v (.bool n)::r)::st=>K n (r::st)
 |_=>none
def pT (K:List UInt8→SpS):SpS
 |(.v (.string n)::r)::st=>K (bL n) (r::st)
 |_=>none
def pS {α:Type} (R:Rw α) (K:List α→SpS):SpS
 |(.sl y _ s _::r)::st=>pIf ((y=R.n∨s=[])∧s=(s.map R.d).map R.e) (K (s.map R.d) (r::st))
 |_=>none
def pD {α:Type} (R:Rw α) (K:List α→SpS):SpS
 |(.sl y _ s _::r)::st=>pIf ((y=R.n∨s=[])∧wkR s ((s.map R.d).map R.e)) (K (s.map R.d) (r::st))
 |_=>none
def pR {α:Type} (R:Rw α) (K:List α→SpS):SpS
 |(.sl y f s d::r)::st=>pIf (((y=R.n∧f=false)∧d=R.z)∧s=(s.map R.d).map R.e) (K (s.map R.d) (r::st))
 |_=>none
def pF {β:Type} (o:Option β) (z:β) (g:β→AV):SpS
 |[]=>some (o.isSome=true,g (o.getD z))
 |_=>none
def pV (v:AV):SpS
 |[]=>some (True,v)
 |_=>none
def wkS:List (List AV)→List (List AV)→Prop
 |[],[]=>True
 |x::xs,y::ys=>I1 x y∧wkS xs ys
 |_,_=>False
theorem wkD_self:∀x:AV,wkD x x
 | .sl _ _ _ _=>⟨Lq _,.inl rfl,fun h=>h⟩
 | .agg a=>wkDL_self a
 | .tup a=>wkDL_self a
 | .v _=>rfl
 | .ro _ _=>rfl
 | .clo _ _ _=>rfl
 | .box _ _=>rfl
 | .own _ _=>rfl
 | .elem _ _ _ _ _=>rfl
 | .gd _ _=>rfl
 | .mp _=>rfl
 | .un=>rfl
where wkDL_self:∀xs:List AV,I1 xs xs
 |[]=>trivial
 |x::xs=>⟨wkD_self x,wkDL_self xs⟩
theorem NE:∀xs:List (List AV),wkS xs xs
 |[]=>trivial
 |x::xs=>⟨wkD_self.wkDL_self x,NE xs⟩
abbrev CtA:=List (List AV)→List AV
def LA (C:CtA):Prop:=∀a b,wkS a b→I1 (C a) (C b)
def FC (P:Program) (f:Nat) (C:CtA) (s:SpS):Prop:=∀st vc r,s st=some (vc,r)→vc→PCall P f (C st) r
def c0:CtA
 |a::_=>a
 |[]=>[]
def cA (C:CtA):CtA
 |cs::r::st=>C ((.agg cs::r)::st)
 |st=>C st
def cO (C:CtA):CtA
 |cs::r::st=>C ((.ro cs 0::r)::st)
 |st=>C st
def cL (f:Nat) (C:CtA):CtA
 |cs::r::st=>C ((.clo (.func f) [] cs::r)::st)
 |st=>C st
def cE (C:CtA):CtA:=fun st=>C ([]::st)
def cP (x:AV) (C:CtA):CtA
 |r::st=>C ((x::r)::st)
 |[]=>C []
theorem m0:LA c0:=by
 intro a b h
 cases a<;>cases b<;>simp only[wkS,c0,I1] at h⊢
 exact h.1
theorem mG {C:CtA} (h:LA C):LA (cA C):=by
 intro a b k
 rcases a with _|⟨a,_|⟨a',a2⟩⟩<;>rcases b with _|⟨b,_|⟨b',b2⟩⟩<;>simp only[wkS,and_false] at k
 ·exact h _ _ trivial
 ·exact h _ _ ⟨k.1,trivial⟩
 ·exact h _ _ ⟨⟨k.1,k.2.1⟩,k.2.2⟩
theorem mE {C:CtA} (h:LA C):LA (cE C):=fun a b k=>h _ _ ⟨trivial,k⟩
theorem mP {x:AV} {C:CtA} (h:LA C):LA (cP x C):=by
 intro a b k
 cases a<;>cases b<;>simp only[wkS] at k
 ·exact h _ _ trivial
 ·exact h _ _ ⟨⟨wkD_self x,k.1⟩,k.2⟩
section
variable {P:Program} {f:Nat} {C:CtA}
theorem Al {K:SpS} (o:okF P f) (h:FC P f c0 K):FOK P f (p0 K):=⟨o,fun args vc r hs hv=>h [args] vc r hs hv⟩
theorem AW {K:SpS} (h:FC P f (cA C) K):FC P f C (pG K):=by
 intro st vc r hs hv
 unfold pG at hs;split at hs
 ·exact h _ _ _ hs hv
 ·cases hs
theorem JI {K:SpS} (h:FC P f (cO C) K):FC P f C (pO K):=by
 intro st vc r hs hv
 unfold pO at hs;split at hs
 ·exact h _ _ _ hs hv
 ·cases hs
theorem JJ {g:Nat} {K:SpS} (h:FC P f (cL g C) K):FC P f C (pL g K):=by
 intro st vc r hs hv
 unfold pL at hs;split at hs
 ·rename_i g' ros rr st'
  by_cases e:g'=g
  ·rw[if_pos e] at hs;subst e;exact h _ _ _ hs hv
  ·rw[if_neg e] at hs;cases hs
 ·cases hs
theorem Ah {K:SpS} (h:FC P f (cE C) K):FC P f C (pE K):=by
 intro st vc r hs hv
 unfold pE at hs;split at hs
 ·exact h _ _ _ hs hv
 ·cases hs
theorem Ac {K:Int→SpS} (h:∀n,FC P f (cP (.i n) C) (K n)):FC P f C (pI K):=by
 intro st vc r hs hv
 unfold pI at hs;split at hs
 ·exact h _ _ _ _ hs hv
 ·cases hs
theorem JK {K:List UInt8→SpS} (h:∀n,FC P f (cP (.v (.string (sB n))) C) (K n)):FC P f C (pT K):=by
 intro st vc r hs hv
 unfold pT at hs;split at hs
 ·rename_i n rr st'
  have:=h _ _ _ _ hs hv
  simp only[cP,Kq] at this
  exact this
 ·cases hs
theorem CQ {α:Type} {R:Rw α} {K:List α→SpS} (h:∀l,FC P f (cP (.sl R.n false (l.map R.e) R.z) C) (K l)) (hC:LA C:=by repeat' (first|exact m0|apply mG|apply mE|apply mP)):FC P f C (pD R K):=by
 intro st vc r hs hv
 unfold pD at hs;split at hs
 ·rename_i y fl s d rr st'
  obtain⟨q,h1,rfl⟩:=Lz hs
  obtain⟨⟨e1,e2⟩,hv⟩:=hv
  have:=h _ _ _ _ h1 hv
  exact PCall.argD (hC _ ((.sl R.n false ((s.map R.d).map R.e) R.z::rr)::st') ⟨⟨⟨e2,e1,fun k=>by cases k⟩,wkD_self.wkDL_self _⟩,NE _⟩) this
 ·cases hs
theorem A3 {α:Type} {R:Rw α} {K:List α→SpS} (h:∀l,FC P f (cP (.sl R.n false (l.map R.e) R.z) C) (K l)) (hC:LA C:=by repeat' (first|exact m0|apply mG|apply mE|apply mP)):FC P f C (pS R K):=by
 intro st vc r hs hv
 unfold pS at hs;split at hs
 ·rename_i y fl s d rr st'
  obtain⟨q,h1,rfl⟩:=Lz hs
  obtain⟨⟨e1,e2⟩,hv⟩:=hv
  have:=h _ _ _ _ h1 hv
  exact PCall.argD (hC _ ((.sl R.n false ((s.map R.d).map R.e) R.z::rr)::st') ⟨⟨⟨by rw[←e2];exact Lq _,e1,fun k=>by cases k⟩,wkD_self.wkDL_self _⟩,NE _⟩) this
 ·cases hs
theorem Uc {α:Type} {R:Rw α} {K:List α→SpS} (h:∀l,FC P f (cP (.sl R.n false (l.map R.e) R.z) C) (K l)):FC P f C (pR R K):=by
 intro st vc r hs hv
 unfold pR at hs;split at hs
 ·obtain⟨q,h1,rfl⟩:=Lz hs
  obtain⟨⟨⟨⟨rfl,rfl⟩,rfl⟩,e2⟩,hv⟩:=hv
  have:=h _ _ _ _ h1 hv
  simp only[cP] at this
  rw[←e2] at this
  exact this
 ·cases hs
theorem An {β:Type} {o:Option β} {z:β} {g:β→AV} (h:∀r,o=some r→PCall P f (C []) (g r)):FC P f C (pF o z g):=by
 intro st vc r hs hv
 unfold pF at hs;split at hs
 ·simp only[yE,Prod.mk.injEq] at hs
  obtain⟨rfl,rfl⟩:=hs
  obtain⟨r,hr⟩:=yX hv
  have:=h r hr
  rw[hr];exact this
 ·cases hs
theorem wx {S:Tab} {args:List AV} {r:AV} (x:FnX P f) (hS:TabOK P S) (h:∀hb,TabOK P S→([]:List Nat).length=0→awp (Ctx.fn P S x.nt hb) x.c (B3 x.rv r) ⟨Cj 0 args,[],0⟩) (hn:args.length≤x.nt:=by exact Nat.le_of_ble_eq_true rfl):PCall P f args r:=
 LD hS x.nt x.hf x.hc x.hn hn fun hb=>h hb hS rfl
end
attribute [go_sem] pIf p0 pG pO pL pE pI pK pB pT pS pD pR pF pV c0 cA cO cL cE cP
theorem rqG {α:Type} (e:α→List AV) {R:List α} {i:Int} {x:α} {F:Prop} (h:nth R i=some x) (f:F):(0≤i∧i<R.length)∧(∀d,BJ (R.map e) d i.toNat=e x)∧(∀d,R.getD i.toNat d=x)∧F:=by
 refine⟨(I5 h).1,fun d=> ?_,(I5 h).2,f⟩
 unfold nth at h
 split at h
 ·unfold BJ;rw[List.getD_eq_getElem?_getD,List.getElem?_map,h];rfl
 ·cases h
theorem dW {α:Type} (e:α→List AV) {R:List α} {i:Int} (h:¬i<R.length) (d:List AV):BJ (R.map e) d i.toNat=d:=by
 unfold BJ;rw[List.getD_eq_getElem?_getD,List.getElem?_eq_none (by rw[List.length_map];omega)];rfl
theorem rqN {α:Type} (k:Nat) (e:α→List AV) {R:List α} {i:Int} {x:α} {F:Prop} (h:nth R i=some x) (f:F) (hk:i=(k:Int):=by exact rfl):(0≤i∧i<R.length)∧(∀d,BJ (R.map e) d k=e x)∧(∀d,R.getD k d=x)∧F:=by
 subst hk;exact rqG e h f
structure TX {X:Type} (x:X):Prop where
@[reducible] def xof {X:Type} {x:X} (_:TX x):X:=x
attribute [go_sem] xof
theorem ev {F G:Prop} (f:F) (t:F→G:=by intro f;simp only[go_sem,seval,f]<;>eq_refl):G:=t f
theorem un {P Q:Prop} (h:P) (t:P→Q:=by
 intro h
 (try simp only[HR,yB] at h)
 exact h):Q:=t h
theorem gcb {S F G P Q:Prop} {α:Type} {B:Bool} {X Y Z:α} (hS:S) (f:F) (h:(bif B then X else Y)=Z) (ht:B=true→X=Z→P) (hf:B=false→Y=Z→Q) (t:S→F→Hid (B=true→P)→Hid (B=false→Q)→G:=by
 intro hS f k1 k2
 repeat' (first
  |(with_reducible (first|apply AN|apply Bg|apply Bb|apply By|apply AO|apply AP);(·(first|exact Ctx.fn_ok hS|exact Ctx.rd_ok hS|assumption|exact yT|exact Ctx.rdG_ok hS));iterate 2 (·(simp only[go_sem,seval,f]<;>eq_refl)))
  |with_reducible (first|apply AI|apply A5|apply AF|apply AH|apply Ar|apply Ao|apply Ay|apply AZ|apply A6|apply A7|apply A8|apply A9|apply A4)
  |(with_reducible apply Ba;(·first|rfl|decide))
  |(with_reducible apply IL;(·simp))
  |with_reducible (first|apply IM|apply IN|apply IO|apply AJ|apply AM|apply Bd|apply Be|apply Bf|apply yT|apply And.intro yT yT)
  |(fail_if_success with_reducible apply B6);(fail_if_success with_reducible apply Bc);(try clear k1 k2);first|with_reducible apply And.intro|omega|(simp only[go_sem,seval,f];done)|with_reducible assumption|(refine And.intro ?_ ?_)|(intro hg;simp_all;done)|decide|grind)
 exact cb f _ k1.k k2.k):G:=t hS f ⟨fun e=>ht e (fO e h)⟩ ⟨fun e=>hf e (fP e h)⟩
theorem gct {S F G P:Prop} (hS:S) (f:F) (h:P) (t:S→F→Hid P→G:=by
 intro hS f k
 repeat' (first
  |(with_reducible (first|apply AN|apply Bg|apply Bb|apply By|apply AO|apply AP);(·(first|exact Ctx.fn_ok hS|exact Ctx.rd_ok hS|assumption|exact yT|exact Ctx.rdG_ok hS));iterate 2 (·(simp only[go_sem,seval,f]<;>eq_refl)))
  |with_reducible (first|apply AI|apply A5|apply AF|apply AH|apply Ar|apply Ao|apply Ay|apply AZ|apply A6|apply A7|apply A8|apply A9|apply A4)
  |(with_reducible apply Ba;(·first|rfl|decide))
  |(with_reducible apply IL;(·simp))
  |with_reducible (first|apply IM|apply IN|apply IO|apply AJ|apply AM|apply Bd|apply Be|apply Bf|apply yT|apply And.intro yT yT)
  |(fail_if_success with_reducible apply B6);(fail_if_success with_reducible apply Bc);(try clear k);first|with_reducible apply And.intro|omega|(simp only[go_sem,seval,f];done)|with_reducible assumption|(refine And.intro ?_ ?_)|(intro hg;simp_all;done)|decide|grind)
 exact ct f k.k):G:=t hS f ⟨h⟩
theorem gcf {S F G P:Prop} (hS:S) (f:F) (h:P) (t:S→F→Hid P→G:=by
 intro hS f k
 repeat' (first
  |(with_reducible (first|apply AN|apply Bg|apply Bb|apply By|apply AO|apply AP);(·(first|exact Ctx.fn_ok hS|exact Ctx.rd_ok hS|assumption|exact yT|exact Ctx.rdG_ok hS));iterate 2 (·(simp only[go_sem,seval,f]<;>eq_refl)))
  |with_reducible (first|apply AI|apply A5|apply AF|apply AH|apply Ar|apply Ao|apply Ay|apply AZ|apply A6|apply A7|apply A8|apply A9|apply A4)
  |(with_reducible apply Ba;(·first|rfl|decide))
  |(with_reducible apply IL;(·simp))
  |with_reducible (first|apply IM|apply IN|apply IO|apply AJ|apply AM|apply Bd|apply Be|apply Bf|apply yT|apply And.intro yT yT)
  |(fail_if_success with_reducible apply B6);(fail_if_success with_reducible apply Bc);(try clear k);first|with_reducible apply And.intro|omega|(simp only[go_sem,seval,f];done)|with_reducible assumption|(refine And.intro ?_ ?_)|(intro hg;simp_all;done)|decide|grind)
 exact cf f k.k):G:=t hS f ⟨h⟩
theorem Ad {S F G:Prop} {α:Type} {a r:α} (hS:S) (f:F) (h:some a=some r) (t:S→(r=a∧F)→G:=by
 intro hS f
 repeat' (first
  |(with_reducible (first|apply AN|apply Bg|apply Bb|apply By|apply AO|apply AP);(·(first|exact Ctx.fn_ok hS|exact Ctx.rd_ok hS|assumption|exact yT|exact Ctx.rdG_ok hS));iterate 2 (·(simp only[go_sem,seval,f]<;>eq_refl)))
  |with_reducible (first|apply AI|apply A5|apply AF|apply AH|apply Ar|apply Ao|apply Ay|apply AZ|apply A6|apply A7|apply A8|apply A9|apply A4)
  |(with_reducible apply Ba;(·first|rfl|decide))
  |(with_reducible apply IL;(·simp))
  |with_reducible (first|apply IM|apply IN|apply IO|apply AJ|apply AM|apply Bd|apply Be|apply Bf|apply yT|apply And.intro yT yT)
  |(fail_if_success with_reducible apply B6);(fail_if_success with_reducible apply Bc);first|with_reducible apply And.intro|omega|(simp only[go_sem,seval,f];done)|with_reducible assumption|(refine And.intro ?_ ?_)|(intro hg;simp_all;done)|decide|grind)
 exact fin f):G:=t hS ⟨(yJ h).symm,f⟩
theorem gbk {S F G p:Prop} {X:Type} (hS:S) (f:F) (x:X) (h:p) (t:S→F→TX x→Hid p→G:=by
 intro hS f kx kp
 repeat' (first
  |(with_reducible (first|apply AN|apply Bg|apply Bb|apply By|apply AO|apply AP);(·(first|exact Ctx.fn_ok hS|exact Ctx.rd_ok hS|assumption|exact yT|exact Ctx.rdG_ok hS));iterate 2 (·(simp only[go_sem,seval,f]<;>eq_refl)))
  |with_reducible (first|apply AI|apply A5|apply AF|apply AH|apply Ar|apply Ao|apply Ay|apply AZ|apply A6|apply A7|apply A8|apply A9|apply A4)
  |(with_reducible apply Ba;(·first|rfl|decide))
  |(with_reducible apply IL;(·simp))
  |with_reducible (first|apply IM|apply IN|apply IO|apply AJ|apply AM|apply Bd|apply Be|apply Bf|apply yT|apply And.intro yT yT)
  |(fail_if_success with_reducible apply B6);(fail_if_success with_reducible apply Bc);(try clear kx kp);first|with_reducible apply And.intro|omega|(simp only[go_sem,seval,f];done)|with_reducible assumption|(refine And.intro ?_ ?_)|(intro hg;simp_all;done)|decide|grind)
 exact GG (xof kx) kp.k (Nat.lt_succ_self _) (leF f)):G:=t hS f ⟨⟩ ⟨h⟩
theorem gck {S F G:Prop} {X α:Type} {a b:α} (hS:S) (f:F) (x:X) (h:some a=some b) (t:S→F→TX x→Hid (a=b)→G:=by
 intro hS f kx kp
 repeat' (first
  |(with_reducible (first|apply AN|apply Bg|apply Bb|apply By|apply AO|apply AP);(·(first|exact Ctx.fn_ok hS|exact Ctx.rd_ok hS|assumption|exact yT|exact Ctx.rdG_ok hS));iterate 2 (·(simp only[go_sem,seval,f]<;>eq_refl)))
  |with_reducible (first|apply AI|apply A5|apply AF|apply AH|apply Ar|apply Ao|apply Ay|apply AZ|apply A6|apply A7|apply A8|apply A9|apply A4)
  |(with_reducible apply Ba;(·first|rfl|decide))
  |(with_reducible apply IL;(·simp))
  |with_reducible (first|apply IM|apply IN|apply IO|apply AJ|apply AM|apply Bd|apply Be|apply Bf|apply yT|apply And.intro yT yT)
  |(fail_if_success with_reducible apply B6);(fail_if_success with_reducible apply Bc);(try clear kx kp);first|with_reducible apply And.intro|omega|(simp only[go_sem,seval,f];done)|with_reducible assumption|(refine And.intro ?_ ?_)|(intro hg;simp_all;done)|decide|grind)
 exact VV (xof kx) kp.k (leF f)):G:=t hS f ⟨⟩ ⟨yJ h⟩
theorem grg {S F G p:Prop} {X:Type} (hS:S) (f:F) (x:X) (h:p) (t:S→F→TX x→Hid p→G:=by
 intro hS f kx kp
 repeat' (first
  |(with_reducible (first|apply AN|apply Bg|apply Bb|apply By|apply AO|apply AP);(·(first|exact Ctx.fn_ok hS|exact Ctx.rd_ok hS|assumption|exact yT|exact Ctx.rdG_ok hS));iterate 2 (·(simp only[go_sem,seval,f]<;>eq_refl)))
  |with_reducible (first|apply AI|apply A5|apply AF|apply AH|apply Ar|apply Ao|apply Ay|apply AZ|apply A6|apply A7|apply A8|apply A9|apply A4)
  |(with_reducible apply Ba;(·first|rfl|decide))
  |(with_reducible apply IL;(·simp))
  |with_reducible (first|apply IM|apply IN|apply IO|apply AJ|apply AM|apply Bd|apply Be|apply Bf|apply yT|apply And.intro yT yT)
  |(fail_if_success with_reducible apply B6);(fail_if_success with_reducible apply Bc);(try clear kx kp);first|with_reducible apply And.intro|omega|(simp only[go_sem,seval,f];done)|with_reducible assumption|(refine And.intro ?_ ?_)|(intro hg;simp_all;done)|decide|grind)
 exact RO (xof kx) ⟨kp.k,by show _+1≤_;omega⟩ rfl (leF f)):G:=t hS f ⟨⟩ ⟨h⟩
section
variable {Γ:Ctx} {c:AC} {K:AE→St→Prop} {s:St}
theorem Au {ω X:Type} (o:ω) (I:X→St) (j:X→ω) (e0:AE) (h1:awp Γ c (Us e0 I (fun z=>j z=o) K) s) (h2:∀x,j x=o→K e0 (I x)):awp Γ c K s:=aF I _ e0 h1 h2
theorem Aq {ω X:Type} {N:Nat} {o:ω} (D:Nat→X→Option ω) (I:X→St) (x0:X) (hL:D N x0=some o) (hs:Le (I x0) s) (step:∀n x,D (n+1) x=some o→awp Γ c (Bx (fun y:Nat×X=>I y.2) (fun y=>D y.1 y.2=some o) (fun y=>y.1) (n+1) K) (I x))
  (hz:∀x,D 0 x=none:=by exact fun _=>rfl):awp Γ (.loop c) K s:=by
 refine G4 (fun y:Nat×X=>I y.2) (fun y=>D y.1 y.2=some o) (fun y=>y.1) (N,x0) hL hs ?_
 rintro⟨n,x⟩ hx
 cases n with
 |zero=>exact absurd hx (by simp only[hz];simp)
 |succ n=>exact step n x hx
end
attribute [go_sem] OO OP List.set_cons_succ List.isEmpty_map List.map_append List.map_eq_nil_iff ne_eq List.length_replicate Td Te List.length_set Option.isSome_some Option.getD_some
end Go.Proofs.YtciphecegkfaiaaGreat.Am
