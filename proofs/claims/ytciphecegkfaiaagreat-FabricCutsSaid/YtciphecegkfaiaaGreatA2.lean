import Derived.Test.YtciphecegkfaiaaGreatA1
import Derived.CheckFast
import Derived.MapKept
import Derived.Laws.MakeOwn
namespace Go.Proofs.YtciphecegkfaiaaGreat.Am
set_option linter.unusedSimpArgs false
set_option linter.unusedVariables false
open Go
def G2 (P:Program) (t:TypeId):Option (List AV):=
 match P.info? t with
 |some i=>match i.zero with
  |some z=>if z.cells.toList.all Bq=true∧z.cells.size=i.size then some (z.cells.toList.map ofC) else none
  |none=>none
 |none=>none
def Pv (P:Program) (t:TypeId):Option (Nat→Option (Nat×Nat)):=
 match P.underlying t with
 |some (.struct fs)=>(fs.toList.mapM (fun f=>(P.info? f.type).map fun i=>(f.offset,i.size))).map fun pl=>(pl.toArray[·]?)
 |some (.array _ e)=>(P.info? e).map fun j=>fun i=>some (i*j.size,j.size)
 |_=>none
def Jn (pf:Nat→Option (Nat×Nat)):List (Nat×Operand)→Option (List (Nat×Nat×Opd))
 |[]=>some []
 |(i,x)::r=>
  match pf i,Jn pf r with
  |some (o,s),some ps=>some ((o,s,opd x)::ps)
  |_,_=>none
def Hc (P:Program) (t:TypeId) (parts:List (Nat×Operand)):AK:=
 match G2 P t,Pv P t with
 |some zs,some pf=>match Jn pf parts with
  |some ps=> .build zs ps
  |none=> .bad
 |_,_=> .bad
def K3 (e:TypeId→Option (List Bool)) (P:Program):List Field→Nat→Option (List Bool)
 |[],_=>some []
 |f::fs,o=>if f.name= "_" ∨f.offset≠o then none else
  match e f.type,P.info? f.type with
  |some ks,some i=>if i.size=ks.length∧ks.isEmpty=false then(K3 e P fs (o+ks.length)).map (ks++·) else none
  |_,_=>none
def FR (P:Program):Nat→TypeId→Option (List Bool)
 |0,_=>none
 |d+1,t=>match P.underlying t with
  |some (.int _)=>some [true]
  |some .bool=>some [false]
  |some (.struct fs)=>if P.stoodInHeld t=true∨P.eqGuardType P.depth t=true∨fs.isEmpty=true then none else K3 (FR P d) P fs.toList 0
  |some (.array n e)=>match FR P d e,P.info? e with
   |some [k],some i=>if P.eqGuardType P.depth t=true∨i.size≠1 then none else some (List.replicate n k)
   |_,_=>none
  |_=>none
def IA (op:BinOp) (x y:Opd):AK:=
 match op with
 | .add=> .pr .scat [x,y]
 | .eql=> .pr (.seq false) [x,y]
 | .neq=> .pr (.seq true) [x,y]
 |_=> .bad
def IB (op:BinOp) (x y:Opd):AK:=
 match op,y with
 | .eql,.k (.v .nilIface)=> .pr (.inil false) [x]
 | .neq,.k (.v .nilIface)=> .pr (.inil true) [x]
 |_,_=> .bad
def IC (op:BinOp) (x y:Opd):AK:=
 match op,y with
 | .eql,.k (.v (.pointer none))=> .pr (.pnil false) [x]
 | .neq,.k (.v (.pointer none))=> .pr (.pnil true) [x]
 |_,_=> .bad
def En (P:Program) (op:BinOp) (t:TypeId) (x y:Opd):AK:=
 match op with
 | .shl=>match P.underlying t with
  |some (.int _)=> .pr (.shf .shl) [x,y]
  |_=> .bad
 | .shr=>match P.underlying t with
  |some (.int _)=> .pr (.shf .shr) [x,y]
  |_=> .bad
 | .and=>match P.underlying t with
  |some (.int _)=> .pr (.bits .and) [x,y]
  |_=> .bad
 | .or=>match P.underlying t with
  |some (.int _)=> .pr (.bits .or) [x,y]
  |_=> .bad
 | .xor=>match P.underlying t with
  |some (.int _)=> .pr (.bits .xor) [x,y]
  |_=> .bad
 | .andNot=>match P.underlying t with
  |some (.int _)=> .pr (.bits .andNot) [x,y]
  |_=> .bad
 |op=>match P.underlying t with
  |some (.int _)=> .bin op .int x y
  |some .bool=> .bin op .bool x y
  |some .string=>IA op x y
  |some (.interface _)=>IB op x y
  |some (.pointer _)=>IC op x y
  |some (.struct _)=>match FR P 8 t with
   |some ks=> .bin op (.cells ks) x y
   |none=> .bad
  |some (.array _ _)=>match FR P 8 t with
   |some ks=> .bin op (.cells ks) x y
   |none=> .bad
  |some (.slice _)=>match op,y with
   | .eql,.k (.sl 0 true [] [])=> .nils false x
   | .neq,.k (.sl 0 true [] [])=> .nils true x
   |_,_=> .bad
  |_=> .bad
def T8:List AV→Bool
 |[.v (.pointer none),.sl _ _ [] _]=>true
 |_=>false
def HM (P:Program) (c:Call):AK:=
 match c.callee with
 | .value (.func f)=> .call f (c.args.toList.map opd)
 | .value x=> .cv (opd x) (c.args.toList.map opd)
 | .builtin .len=>match c.args.toList,c.argTypes.toList with
  |[x],[t]=>match P.underlying t with
   |some (.slice _)=> .len (opd x)
   |some .string=> .pr .slen [opd x]
   |_=> .bad
  |_,_=> .bad
 | .builtin .append=>match c.args.toList,c.argTypes.toList with
  |[s,x],[t,t']=>if t=t' then match P.underlying t with
   |some (.slice e)=>match P.info? e,G2 P e with
    |some i,some zs=>if 0<i.size∧0<i.bytes then .app i.size i.bytes zs (opd s) (opd x) else .bad
    |_,_=> .bad
   |_=> .bad
   else match P.underlying t,P.underlying t' with
    |some (.slice e),some (.int _)=>match P.info? e,G2 P e with
     |some i,some zs=>if 0<i.size∧0<i.bytes then .appn i.size i.bytes zs (opd s) (opd x) else .bad
     |_,_=> .bad
    |_,_=> .bad
  |_,_=> .bad
 | .builtin .cap=>match c.args.toList,c.argTypes.toList with
  |[x],[t]=>match P.underlying t with
   |some (.slice _)=> .cap (opd x)
   |_=> .bad
  |_,_=> .bad
 | .builtin .recover=> .rcv
 | .builtin .max=> .mm true (c.args.toList.map opd)
 | .builtin .min=> .mm false (c.args.toList.map opd)
 |_=> .bad
def cZv (P:Program) (t:TypeId):Option AV:=
 match P.info? t with
 |some i=>match i.zero with
  |some (.agg cs)=>if cs.toList.all Bq=true then some (.agg (cs.toList.map ofC)) else none
  |some v=>some (ofC v)
  |none=>none
 |none=>none
theorem Xu {P:Program} {t:TypeId} {z:AV} (h:cZv P t=some z):∃v,(∀w,(zeroValue t).run P w= .ok v w)∧∀σ,Rep σ z v:=by
 unfold cZv at h
 split at h
 ·rename_i i hi
  split at h
  ·rename_i cs hz
   split at h
   ·rename_i hc
    cases h
    refine⟨.agg cs,fun w=>by simp[zeroValue,typeInfo,hi,hz,Sem.run,Result.andThen],fun σ=> ?_⟩
    simp only[Rep]
    exact⟨cs.toList,by simp,List.all_eq_true.1 hc,J6 σ _⟩
   ·cases h
  ·rename_i v _ hz
   cases h
   exact⟨v,fun w=>by simp[zeroValue,typeInfo,hi,hz,Sem.run,Result.andThen],fun σ=>JY σ v⟩
  ·cases h
 ·cases h
def JB (P:Program) (t:TypeId) (m k:Opd) (ok:Bool):AK:=
 match P.underlying t with
 |some (.map kt e)=>match P.underlying kt,cZv P e with
  |some (.int .i64),some zd=> .mlk zd ok m k
  |_,_=> .bad
 |_=> .bad
def ID (P:Program) (t:TypeId) (m k x:Opd):AK:=
 match P.underlying t with
 |some (.map kt _)=>match P.underlying kt with
  |some (.int .i64)=> .mup m k x
  |_=> .bad
 |_=> .bad
def cK (P:Program) (op:Op):AK:=
 match op with
 | .move x=> .mv (opd x)
 | .assign x=> .mv (opd x)
 | .pick c a b=> .pick (opd c) (opd a) (opd b)
 | .alloc t=>match G2 P t with
  |some zs=>if T8 zs=true then .allocB t else .alloc zs
  |none=> .bad
 | .box t x=> .box (P.cellsOf t) (opd x)
 | .build t parts=>Hc P t parts.toList
 | .buildSlice t len parts=>match P.underlying t with
  |some (.slice e)=>match P.info? e,G2 P e with
   |some i,some zs=>if 0<i.size∧len*i.size≤16777216 then .bsl i.size len zs (parts.toList.map fun(j,x)=>(j,opd x)) else .bad
   |_,_=> .bad
  |_=> .bad
 | .load t x=>match P.underlying t,P.info? t with
  |some d,some i=> .ld i.size (BU d) (opd x)
  |_,_=> .bad
 | .store t a x=>match P.info? t with
  |some i=> .st i.size (opd a) (opd x)
  |none=> .bad
 | .fieldAddr s x f=>match P.underlying s with
  |some (.struct fs)=>match fs[f]? with
   |some fd=>match P.info? fd.type with
    |some i=>if i.size=0 then .bad else .fa fd.offset (opd x)
    |none=> .bad
   |none=> .bad
  |_=> .bad
 | .field t x f=>match P.underlying t with
  |some (.struct fs)=>match fs[f]? with
   |some fd=>match P.underlying fd.type,P.info? fd.type with
    |some d,some i=> .fld fd.offset i.size (BU d) (opd x)
    |_,_=> .bad
   |none=> .bad
  |_=> .bad
 | .indexAddr t x ix=>match P.underlying t with
  |some (.slice e)=>match P.info? e with
   |some i=> .ia i.size (opd x) (opd ix)
   |none=> .bad
  |some (.array n e)=>match P.info? e with
   |some i=> .iaA n i.size (opd x) (opd ix)
   |none=> .bad
  |_=> .bad
 | .index t x ix=>match P.underlying t with
  |some (.array n e)=>match P.underlying e,P.info? e with
   |some d,some i=> .idxA n i.size (BU d) (opd x) (opd ix)
   |_,_=> .bad
  |some .string=> .pr .sidx [opd x,opd ix]
  |_=> .bad
 | .binOp op t x y _=>En P op t (opd x) (opd y)
 | .unOp op _ x=> .un op (opd x)
 | .extract x i=> .ext (opd x) i
 | .call c=>HM P c
 | .makeFunc fn a b=> .mkf fn (a.toList.map opd) (b.toList.map opd)
 | .slice t x lo hi mx=>match P.underlying t with
  |some (.slice e)=>match P.info? e with
   |some i=> .slc i.size (opd x) (lo.map opd) (hi.map opd) (mx.map opd)
   |none=> .bad
  |some .string=>match lo,hi,mx with
   |none,none,none=> .pr (.ssl false false) [opd x]
   |some l,none,none=> .pr (.ssl true false) [opd x,opd l]
   |none,some h,none=> .pr (.ssl false true) [opd x,opd h]
   |some l,some h,none=> .pr (.ssl true true) [opd x,opd l,opd h]
   |_,_,_=> .bad
  |_=> .bad
 | .nilCheck x=> .nilc (opd x)
 | .convert src dst x=>match P.underlying src,P.underlying dst with
  |some (.int .i64),some (.int .i64)=> .cnv .i64 (opd x)
  |some (.int _),some (.int k)=> .pr (.cvw k) [opd x]
  |some (.slice e),some .string=>match P.underlying e,P.info? e with
   |some (.int .u8),some i=>if i.size=1 then .b2s (opd x) else .bad
   |_,_=> .bad
  |_,_=> .bad
 | .panic x=> .pan (opd x)
 | .defer c=>match c.callee,c.args.toList with
  | .value x,[]=> .dfr (opd x)
  |_,_=> .bad
 | .makeInterface t x=>match P.underlying t with
  |some (.struct _)=> .pr (.mkI t) [opd x]
  |_=> .bad
 | .typeAssert x _ t b=>match b,P.underlying t with
  |true,some (.struct _)=> .pr (.tas t) [opd x]
  |_,_=> .bad
 | .makeSlice t n c=>match P.underlying t with
  |some (.slice e)=>match P.info? e,G2 P e with
   |some i,some zs=>if 0<i.size∧0<i.bytes then .mks i.size i.bytes zs (opd n) (opd c) else .bad
   |_,_=> .bad
  |_=> .bad
 | .entry x=> .ent (opd x)
 | .makeMap _ r=>match r with
  |none=> .mkm
  |some _=> .bad
 | .lookup t m k ok=>JB P t (opd m) (opd k) ok
 | .mapUpdate t m k x=>ID P t (opd m) (opd k) (opd x)
 | .insert t m k x=>ID P t (opd m) (opd k) (opd x)
 | .range t x=>match P.underlying t with
  |some (.map _ _)=> .rng (opd x)
  |_=> .bad
 | .next x b=>match b with
  |false=> .nxt (opd x)
  |true=> .bad
 |_=> .bad
section
variable {P:Program} {o:Oper} {a:Act} {σ:Cf} {nm:Nm} {hp:Hp} {r:AV} {vc:Prop} {ws:Hp}
theorem G3 {t:TypeId} {zs:List AV} (h:G2 P t=some zs):∃i z,P.info? t=some i∧i.zero=some z∧(∀x∈z.cells.toList,Bq x=true)∧z.cells.size=i.size∧zs=z.cells.toList.map ofC:=by
 unfold G2 at h
 split at h
 ·rename_i i hi
  split at h
  ·rename_i z hz
   split at h
   ·rename_i hc
    simp at h
    exact⟨i,z,hi,hz,List.all_eq_true.1 hc.1,hc.2,h.symm⟩
   ·simp at h
  ·simp at h
 ·simp at h
theorem Xv (h:HInv σ hp) (hnm:¬σ.al nm) {t:TypeId} {x:Operand} {X:AV} {cs:List AV} (ho:o.op= .box t x) (hx:Rep σ X (a.eval x)) (hc:X.cells=some cs):
  Step P o a σ nm (CX nm 0 cs++hp) (.box nm 0):=by
 obtain⟨h1,h2⟩:=Mf hc hx
 have e:=Evo.newBox (σ:=σ) (n:=nm) (o:= .cells (a.eval x).cells t) hnm
 have hi:=h.newBox hnm (T:=t) h1 h2
 rw[Array.toArray_toList] at hi
 refine .inl ⟨_,_,_,.inl ?_,⟨e,hi,rfl,fun m hm=>hm⟩,⟨.inr rfl,rfl⟩⟩
 simp[execOp,ho,Instr.box,newVar,newRow,newObj,Sem.run,Cf.newBox]
theorem T9 (h:HInv σ hp) (hnm:¬σ.al nm) {t:TypeId} {zs:List AV} (ho:o.op= .alloc t) (hz:G2 P t=some zs):
  Step P o a σ nm (CX nm 0 zs++hp) (.box nm 0):=by
 obtain⟨i,z,h1,h2,h3,_,rfl⟩:=G3 hz
 have e:=Evo.newBox (σ:=σ) (n:=nm) (o:= .cells z.cells t) hnm
 have hi:=h.newBox hnm (T:=t) (J6 σ z.cells.toList) h3
 rw[Array.toArray_toList] at hi
 refine .inl ⟨_,_,_,.inl ?_,⟨e,hi,rfl,fun m hm=>hm⟩,⟨.inr rfl,rfl⟩⟩
 simp[execOp,ho,Instr.alloc,zeroValue,typeInfo,h1,h2,newVar,newRow,newObj,Sem.run,Cf.newBox]
theorem Mg (h:HInv σ hp) {n:Nm} {l es i' k sz:Nat} {live:Bool} {rows:List (List AV)} {d:List AV} {v:Value} (hn:hl hp (.a n)=some (.sl sz live rows d))
  (hr:Rep σ (.elem n l es i' k) v) (he:es=sz) (hl1:l=rows.length) (hlt:i'<rows.length):
  ∃b k0 cap,σ.ra n=(some ⟨b,k0,none⟩,cap)∧v= .pointer (some ⟨b,k0+i'*sz+k,none⟩)∧0<cap∧rows.length≤cap∧RepRows σ sz b k0 rows∧
   (live=true→σ.M b∧∃cs T,σ.w.heap[b]? =some (.cells cs T (0,0))∧k0+cap*sz≤cs.size):=by
 subst he hl1
 have hln:σ.ln n=some rows.length:=by have:=h.ln n;simpa [lenOf,hn] using this
 simp only[Rep] at hr
 obtain⟨b,k0,h1,h2⟩:=(hr.2.2 _ hln).2 rfl
 obtain⟨_,_,_,h3⟩:=h.arr n es live rows d hn
 rcases h3 with⟨a,h3,rfl⟩|⟨b',o',cap,h3,h4,h5,h6,h7,_⟩
 ·simp at hlt
 ·rw[h3] at h1
  simp at h1
  obtain⟨rfl,rfl⟩:=h1
  exact⟨b',o',cap,h3,h2,h4,h5,h6,h7⟩
theorem Vp (gl:Gl σ) (h:HInv σ hp) {t:TypeId} {xv:Value} {X:AV} {d:TypeDesc} {i:TypeInfo} (hd:P.underlying t=some d) (hi:P.info? t=some i) (hx:Rep σ X xv)
  (hex:HZ hp i.size (BU d) X=some (vc,r,ws)) (hvc:vc):ws=[]∧∃b k u,xv= .pointer (some ⟨b,k,none⟩)∧(loadVar t ⟨b,k,none⟩).run P σ.w= .ok u σ.w∧Rep σ r u:=by
 have fin:∀(b k:Nat) (vs:List Value) (cs:List AV),xv= .pointer (some ⟨b,k,none⟩)→Lies σ.w b k vs→vs.length=i.size→RepL σ cs vs→(∀y∈vs,Bq y=true)→mkv (BU d) cs=some r→ws=[]→ws=[]∧∃b k u,xv= .pointer (some ⟨b,k,none⟩)∧(loadVar t ⟨b,k,none⟩).run P σ.w= .ok u σ.w∧Rep σ r u:=by
  intro b k vs cs e1 e2 e3 e4 e5 e6 e7
  obtain⟨v,g1,g2⟩:=SI hd hi e2 e3 e4 e5 e6
  exact⟨e7,b,k,v,e1,g1,g2⟩
 have fromCut:∀(b k0 k:Nat) (cs ds:List AV),xv= .pointer (some ⟨b,k0+k,none⟩)→RepCells σ b k0 cs→cut k i.size cs=some ds→mkv (BU d) ds=some r→ws=[]→ws=[]∧∃b k u,xv= .pointer (some ⟨b,k,none⟩)∧(loadVar t ⟨b,k,none⟩).run P σ.w= .ok u σ.w∧Rep σ r u:=by
  intro b k0 k cs ds e1 e4 hds hm e7
  obtain⟨vs,g1,g2,g3⟩:=Ia e4
  obtain⟨us,rfl,k1,k2⟩:=Re hds g1
  refine fin _ _ _ ds e1 (fun j v hj=> ?_) k2 k1 (fun y hy=>g2 y (List.mem_of_mem_drop (List.mem_of_mem_take hy))) hm e7
  have hlt:=(List.getElem?_eq_some_iff.1 hj).1
  rw[List.getElem?_take_of_lt (by omega),List.getElem?_drop] at hj
  rw[Nat.add_assoc]
  exact g3 _ _ hj
 cases X with
 |v X=>cases X with
  |pointer p=>cases p with
   |some ad=>
    obtain⟨b,k,sp⟩:=ad
    cases sp with
    |none=>
     simp only[HZ] at hex
     cases hm:mkv (BU d) (H1 b k i.size) with
     |none=>simp[hm,vr] at hex
     |some r'=>
      simp only[hm,vr,Option.map_some,yE,Prod.mk.injEq] at hex
      obtain⟨rfl,rfl,rfl⟩:=hex
      have e1:xv= .pointer (some ⟨b,k,none⟩):=by simpa [Rep] using hx
      obtain⟨vs,g1,g2,g3⟩:=Ia (gl.cells hvc)
      exact fin _ _ vs _ e1 g3 (by rw[Bz g1,Ll]) g1 g2 hm rfl
    |some _=>simp[HZ] at hex
   |none=>simp[HZ] at hex
  |_=>simp[HZ] at hex
 |box n k=>
  simp only[Rep] at hx
  simp only[HZ] at hex
  split at hex
  ·rename_i cs hcs
   cases hm:mkv (BU d) cs with
   |none=>simp[hm,vr] at hex
   |some r'=>
    simp only[hm,vr,Option.map_some,yE,Prod.mk.injEq] at hex
    obtain⟨_,rfl,rfl⟩:=hex
    obtain⟨vs,g1,g2,g3,g4⟩:=P5 h hcs
    exact fin _ _ vs cs hx.2 g3 g4 g1 g2 hm rfl
  ·simp at hex
 |ro cs k=>
  simp only[Rep] at hx
  obtain⟨b,k0,e1,e2,_,e4⟩:=hx
  simp only[HZ] at hex
  split at hex
  ·rename_i ds hds
   cases hm:mkv (BU d) ds with
   |none=>simp[hm,vr] at hex
   |some r'=>
    simp only[hm,vr,Option.map_some,yE,Prod.mk.injEq] at hex
    obtain⟨_,rfl,rfl⟩:=hex
    exact fromCut b k0 k cs ds e1 e4 hds hm rfl
  ·simp at hex
 |elem n l es i' k=>
  simp only[HZ] at hex
  split at hex
  ·rename_i sz live rows d' hn
   split at hex
   ·rename_i ds hds
    cases hm:mkv (BU d) ds with
    |none=>simp[hm,vr] at hex
    |some r'=>
     simp only[hm,vr,Option.map_some,yE,Prod.mk.injEq] at hex
     obtain⟨rfl,rfl,rfl⟩:=hex
     obtain⟨he,hl1,hlt⟩:=hvc
     obtain⟨b,k0,cap,g1,g2,_,_,g5,_⟩:=Mg h hn hx he hl1 hlt
     exact fromCut b (k0+i'*sz) k _ ds g2 (E2 g5 i' _ (Kx hlt)).2 hds hm rfl
   ·simp at hex
  ·simp at hex
 |_=>simp[HZ] at hex
theorem ZK (gl:Gl σ) (h:HInv σ hp) {t:TypeId} {x:Operand} {X:AV} {d:TypeDesc} {i:TypeInfo} (ho:o.op= .load t x) (hd:P.underlying t=some d) (hi:P.info? t=some i) (hx:Rep σ X (a.eval x))
  (hex:HZ hp i.size (BU d) X=some (vc,r,ws)) (hvc:vc):Step P o a σ nm (ws++hp) r:=by
 obtain⟨rfl,b,k,u,e1,e2,e3⟩:=Vp gl h hd hi hx hex hvc
 refine Step.quiet h ?_ e3
 simp[execOp,ho,Instr.loadAt,Instr.sureAddr,e1,e2]
theorem Kz:∀{cs ds rs:List AV} {k:Nat},FP cs k ds=some rs→rs.length=cs.length∧k+ds.length≤cs.length∧∀j,rs[j]? =if k≤j∧j<k+ds.length then ds[j-k]? else cs[j]?
 |cs,[],rs,0,h=>by
  have:rs=cs:=by cases cs<;>simp[FP] at h<;>simp[h]
  subst this
  refine⟨rfl,by simp,fun j=> ?_⟩
  rw[if_neg (by simp)]
 |c::cs,ds,rs,k+1,h=>by
  simp only[FP] at h
  cases hk:FP cs k ds with
  |none=>simp[hk] at h
  |some rs'=>
   simp[hk] at h;subst h
   obtain⟨h1,h2,h3⟩:=Kz hk
   refine⟨by simp[h1],by simp;omega,fun j=> ?_⟩
   cases j with
   |zero=>simp
   |succ j=>simp[h3 j,Nat.succ_le_succ_iff,show k+1+ds.length=(k+ds.length)+1 from by omega]
 |[],ds,rs,k+1,h=>by simp[FP] at h
 |c::cs,d::ds,rs,0,h=>by
  simp only[FP] at h
  cases hk:FP cs 0 ds with
  |none=>simp[hk] at h
  |some rs'=>
   simp[hk] at h;subst h
   obtain⟨h1,h2,h3⟩:=Kz hk
   refine⟨by simp[h1],by simp at h2⊢;omega,fun j=> ?_⟩
   cases j with
   |zero=>simp
   |succ j=>simp at h3;simp[h3 j]
 |[],d::ds,rs,0,h=>by simp[FP] at h
theorem HInv.stElem (h:HInv σ hp) {n:Nm} {sz i' k:Nat} {rows:List (List AV)} {d row cs:List AV} {xs:List Value} {b k0 cap:Nat} (hn:hl hp (.a n)=some (.sl sz true rows d))
  (hra:σ.ra n=(some ⟨b,k0,none⟩,cap)) (hcap:0<cap) (hle:rows.length≤cap) (hrows:RepRows σ sz b k0 rows) (hM:σ.M b) {ar:Array Value} {T:TypeId} (har:σ.w.heap[b]? =some (.cells ar T (0,0)))
  (hfit:k0+cap*sz≤ar.size) (hlt:i'<rows.length) (hrow:FP (BJ rows d i') k cs=some row) (hpu:Gq n=false→AB row=true) (hx:RepL σ cs xs) (h1:∀x∈xs,Bq x=true):
  ∃w',(storeCells ⟨b,k0+i'*sz+k,none⟩ xs).run P σ.w= .ok () w'∧∃σ',Next σ n ((.a n,.sl sz true (rows.set i' row) d)::hp) w' σ':=by
 obtain⟨q1,q2,q3⟩:=Kz hrow
 obtain⟨r1,r2⟩:=E2 hrows i' _ (Kx (d:=d) hlt)
 have hxl:=Bz hx
 have hmul:(i'+1)*sz≤cap*sz:=Nat.mul_le_mul_right _ (by omega)
 rw[Nat.succ_mul] at hmul
 have hbound:k0+i'*sz+k+xs.length≤ar.size:=by omega
 have hln:σ.ln n=some rows.length:=by have:=h.ln n;simpa [lenOf,hn] using this
 have hown:Owns σ hp (true,n) b:= .inr ⟨rfl,⟨_,_,_,hn⟩,k0,cap,hra,hcap⟩
 have hlen:(rows.set i' row).length=rows.length:=by simp
 have evo:Evo σ (σ.setArr n (σ.ra n) σ.M (rows.set i' row).length (F6 σ.w b (k0+i'*sz+k) xs)):=by
  refine Evo.setArr (.inr ⟨_,hln,by simp,fun _=>rfl⟩) (fun c ob hb hMc=>⟨?_,hMc⟩) (by rw[EG];exact Nat.le_refl _) (H3 _ _ _ _)
  rw[DM (fun(e:c=b)=>hMc (by rw[e];exact hM))];exact hb
 obtain⟨ds,d1,d2,d3⟩:=Hn xs (k0+i'*sz+k) σ.w ar har
 obtain⟨a1,a2,a3,_⟩:=h.arr n sz true rows d hn
 refine⟨_,HK xs _ 0 σ.w ar T har h1 (by simpa using hbound),σ.setArr n (σ.ra n) σ.M (rows.set i' row).length (F6 σ.w b (k0+i'*sz+k) xs),evo, ?_,rfl,fun m hm=>hm⟩
 refine h.setArr evo (fun x hxM hno=>⟨hxM,DM (fun(e:x=b)=>hno (by rw[e];exact hown)) _ _ _⟩) ⟨.inr rfl,a2,fun e r hr=> ?_,.inr ⟨b,k0,cap,by simp[Cf.setArr,hra],hcap,by simpa using hle, ?_,fun _=>⟨hM,ds,T,d1,by rw[d2];exact hfit⟩,by simp⟩⟩
  (fun _ b' o' cap' g1 g2=> .inl (.inr ⟨rfl,⟨_,_,_,hn⟩,o',cap',g1,g2⟩)) (fun c hc=>by rw[EG];exact h.lt c hc) (by rw[EG];exact Nat.le_refl _)
 ·rcases List.mem_or_eq_of_mem_set hr with hr|rfl
  ·exact a3 e r hr
  ·exact hpu e
 ·refine GY fun i2 r2' hi2=> ?_
  have hi2l:=(List.getElem?_eq_some_iff.1 hi2).1
  rw[hlen] at hi2l
  have hmul2:(i2+1)*sz≤cap*sz:=Nat.mul_le_mul_right _ (by omega)
  rw[Nat.succ_mul] at hmul2
  by_cases hie:i'=i2
  ·subst hie
   rw[List.getElem?_set_self hlt] at hi2
   simp at hi2;subst hi2
   refine⟨by rw[q1];exact r1,EE fun j c hc=> ?_⟩
   have hj:=(List.getElem?_eq_some_iff.1 hc).1
   rw[q3] at hc
   by_cases hin:k≤j∧j<k+cs.length
   ·rw[if_pos hin] at hc
    obtain⟨x,e1,e2⟩:=Ds hx (j-k) c hc
    refine⟨x, ?_,h1 x (List.mem_of_getElem? e1),e2.mono evo⟩
    simp only[Cf.setArr,World.cell?,d1,Option.isSome_none,if_false,yF]
    rw[d3,if_pos ⟨by omega,by omega,by omega⟩,show k0+i'*sz+j-(k0+i'*sz+k)=j-k from by omega]
    exact e1
   ·rw[if_neg hin] at hc
    obtain⟨x,e1,e2,e3⟩:=FQ r2 j c hc
    refine⟨x, ?_,e2,e3.mono evo⟩
    simp only[Cf.setArr,World.cell?,d1,Option.isSome_none,if_false,yF]
    rw[d3,if_neg (by omega)]
    simpa [World.cell?,har] using e1
  ·rw[List.getElem?_set_ne hie] at hi2
   obtain⟨f1,f2⟩:=E2 hrows i2 _ hi2
   refine⟨f1,f2.keep evo fun j x hj hc=> ?_⟩
   simp only[Cf.setArr,World.cell?,d1,Option.isSome_none,if_false,yF]
   rw[d3,if_neg]
   ·simpa [World.cell?,har] using hc
   ·rintro⟨g1,g2,_⟩
    rw[r1] at q2
    rcases Nat.lt_or_gt_of_ne hie with hlt2|hlt2
    ·have:(i'+1)*sz≤i2*sz:=Nat.mul_le_mul_right _ hlt2
     rw[Nat.succ_mul] at this;omega
    ·have:(i2+1)*sz≤i'*sz:=Nat.mul_le_mul_right _ hlt2
     rw[Nat.succ_mul] at this;omega
mutual
theorem dU {hp:Hp}:∀x:AV,nob x=true→ons x=[]→res hp x=x
 | .own n l,_,h=>by simp[ons] at h
 | .box n l,h,_=>by simp[nob] at h
 | .agg cs,h,k=>by simp only[res];rw[JZ cs (by simpa [nob] using h) (by simpa [ons] using k)]
 | .tup cs,h,k=>by simp only[res];rw[JZ cs (by simpa [nob] using h) (by simpa [ons] using k)]
 | .clo f xs ys,h,k=>by
  simp only[nob,Bool.and_eq_true] at h
  simp only[ons,List.append_eq_nil_iff] at k
  simp only[res];rw[JZ xs h.1 k.1,JZ ys h.2 k.2]
 | .v _,_,_=>rfl
 | .sl _ _ _ _,_,_=>rfl
 | .ro _ _,_,_=>rfl
 | .elem _ _ _ _ _,_,_=>rfl
 | .gd _ _,_,_=>rfl
 | .mp _,h,_=>by simp[nob] at h
 | .un,_,_=>rfl
theorem JZ {hp:Hp}:∀xs:List AV,E8 xs=true→B8 xs=[]→Ef hp xs=xs
 |[],_,_=>rfl
 |x::xs,h,k=>by
  simp only[E8,Bool.and_eq_true] at h
  simp only[B8,List.append_eq_nil_iff] at k
  simp only[Ef];rw[dU x h.1 k.1,JZ xs h.2 k.2]
end
theorem ZL (h:HInv σ hp) {t:TypeId} {x y:Operand} {X Y:AV} {i:TypeInfo} (ho:o.op= .store t x y) (hi:P.info? t=some i) (hx:Rep σ X (a.eval x)) (hy:Rep σ Y (a.eval y))
  (hex:Rb hp i.size X Y=some (vc,r,ws)) (hvc:vc) (hnm:∀m,σ.al m→σ.al m∨m=nm):Step P o a σ nm (ws++hp) r:=by
 unfold Rb at hex
 split at hex
 ·simp at hex
 rename_i cs hcs
 split at hex
 case isFalse=>simp at hex
 rename_i hsz
 obtain⟨g1,g2⟩:=Mf hcs hy
 have hlen:=Bz g1
 have run:∀(ad:Addr) (w':World),a.eval x= .pointer (some ad)→(storeCells ad (a.eval y).cells.toList).run P σ.w= .ok () w'→(execOp a.eval o).run P σ.w= .ok .skip w':=by
  intro ad w' e1 e2
  have hsz':(a.eval y).cells.size=i.size:=by rw[←hsz,←hlen];simp
  simp[execOp,ho,Instr.storeAt,Instr.sureAddr,e1,storeVar,Dw hi,hsz',e2]
 cases X with
 |box n k=>
  simp only at hex
  split at hex
  ·rename_i ws' hws
   simp only[yE,Prod.mk.injEq] at hex
   obtain⟨_,rfl,rfl⟩:=hex
   simp only[Rep] at hx
   obtain⟨w',e1,e2,e3⟩:=h.store (P:=P) hws g1 g2
   exact .inl ⟨undef,w',σ.at w',.inr ⟨run _ w' hx.2 e1,rfl⟩,⟨e2,e3,rfl,fun m hm=> .inl hm⟩,by simp[Rep]⟩
  ·simp at hex
 |elem n l es i' k=>
  simp only at hex
  split at hex
  ·rename_i sz live rows d hn
   cases hsn:Gq n with
   |true=>
    rw[hsn,cond_true] at hex
    split at hex
    ·rename_i row hrow
     simp only[yE,Prod.mk.injEq] at hex
     obtain⟨rfl,rfl,rfl⟩:=hex
     obtain⟨rfl,v6,v7,v8⟩:=hvc
     obtain⟨b,k0,cap,f1,f2,f3,f4,f5,f6⟩:=Mg h hn hx v6 v7 v8
     obtain⟨f7,ar,T,f8,f9⟩:=f6 rfl
     obtain⟨w',e1,σ',e2⟩:=h.stElem (P:=P) hn f1 f3 f4 f5 f7 f8 f9 v8 hrow (fun e=>by rw[hsn] at e;cases e) g1 g2
     exact .inl ⟨undef,w',σ',.inr ⟨run _ w' f2 e1,rfl⟩,⟨e2.evo,e2.inv,e2.w,fun m hm=>(e2.al m hm).elim .inl (fun e=> .inl (e▸(h.arr n sz true rows d hn).1))⟩,by simp[Rep]⟩
    ·simp at hex
   |false=>
   rw[hsn,cond_false] at hex
   split at hex
   ·rename_i row hrow
    simp only[yE,Prod.mk.injEq] at hex
    obtain⟨rfl,rfl,rfl⟩:=hex
    obtain⟨v1,v2,v3,v4,rfl,v6,v7,v8⟩:=hvc
    rw[JZ cs v2 v4] at hrow
    obtain⟨b,k0,cap,f1,f2,f3,f4,f5,f6⟩:=Mg h hn hx v6 v7 v8
    obtain⟨f7,ar,T,f8,f9⟩:=f6 rfl
    obtain⟨w',e1,σ',e2⟩:=h.stElem (P:=P) hn f1 f3 f4 f5 f7 f8 f9 v8 hrow (fun _=>v3) g1 g2
    exact .inl ⟨undef,w',σ',.inr ⟨run _ w' f2 e1,rfl⟩,⟨e2.evo,e2.inv,e2.w,fun m hm=>(e2.al m hm).elim .inl (fun e=> .inl (e▸(h.arr n sz true rows d hn).1))⟩,by simp[Rep]⟩
   ·simp at hex
  ·simp at hex
 |_=>simp at hex
end
section
variable {P:Program} {o:Oper} {a:Act} {σ:Cf} {nm:Nm} {hp:Hp} {r:AV} {vc:Prop} {ws:Hp}
theorem Ta (h:HInv σ hp) {x:Operand} {X:AV} (ho:o.op= .move x∨o.op= .assign x) (hx:Rep σ X (a.eval x)):Step P o a σ nm ([]++hp) X:=by
 refine Step.quiet h (v:=a.eval x) ?_ hx
 rcases ho with ho|ho<;>simp[execOp,ho]
theorem Vq (h:HInv σ hp) {c x y:Operand} {C X Y:AV} {g:Bool} (hg:g=true) (ho:o.op= .pick c x y) (hc:Rep σ C (a.eval c)) (hx:Rep σ X (a.eval x)) (hy:Rep σ Y (a.eval y))
  (hex:Mb g C X Y=some (vc,r,ws)):Step P o a σ nm (ws++hp) r:=by
 unfold Mb at hex
 split at hex
 case h_2=>simp at hex
 rename_i cb hcb
 have hc':=Ir hg hc
 rw[hcb] at hc'
 simp only[Rep] at hc'
 have key:ws=[]∧Rep σ r (if cb=true then a.eval x else a.eval y):=by
  subst hg
  split at hex
  ·rename_i bx by' hX hY
   simp only[yE,Prod.mk.injEq] at hex
   obtain⟨_,rfl,rfl⟩:=hex
   refine⟨rfl, ?_⟩
   cases cb with
   |true=>
    have:=Ir (g:=true&&true) rfl hx
    rw[hX] at this
    simpa [Rep] using this
   |false=>
    have:=Ir (g:=true&& !false) rfl hy
    rw[hY] at this
    simpa [Rep] using this
  ·simp only[yE,Prod.mk.injEq] at hex
   obtain⟨_,rfl,rfl⟩:=hex
   refine⟨rfl, ?_⟩
   cases cb with
   |true=>simpa using Ir (g:=true&&true) rfl hx
   |false=>simpa using Ir (g:=true&& !false) rfl hy
 obtain⟨rfl,hr⟩:=key
 refine Step.quiet h ?_ hr
 simp[execOp,ho,hc',asBool]
theorem ZM (h:HInv σ hp) {s:TypeId} {x:Operand} {f:Nat} {X:AV} {fs:Array Field} {fd:Field} {i:TypeInfo} (ho:o.op= .fieldAddr s x f) (hs:P.underlying s=some (.struct fs)) (hf:fs[f]? =some fd)
  (hi:P.info? fd.type=some i) (hi0:i.size≠0) (hx:Rep σ X (a.eval x)) (hex:JA fd.offset X=some (vc,r,ws)):Step P o a σ nm (ws++hp) r:=by
 have run:∀b k:Nat,a.eval x= .pointer (some ⟨b,k,none⟩)→(execOp a.eval o).run P σ.w= .ok (.value (.pointer (some ⟨b,k+fd.offset,none⟩))) σ.w:=by
  intro b k e
  simp[execOp,ho,Instr.fieldAt,run_underlying hs,hf,Instr.sureAddr,e,fieldPlace,Dw hi,hi0,Ih]
 cases X with
 |box n k=>
  simp only[JA,yE,Prod.mk.injEq] at hex
  obtain⟨_,rfl,rfl⟩:=hex
  simp only[Rep] at hx
  exact Step.quiet h (run _ _ hx.2) (by simp only[Rep];exact⟨hx.1,trivial⟩)
 |ro cs k=>
  simp only[JA,yE,Prod.mk.injEq] at hex
  obtain⟨_,rfl,rfl⟩:=hex
  simp only[Rep] at hx
  obtain⟨b,k0,e1,e2,e3,e4⟩:=hx
  exact Step.quiet h (run _ _ e1) (by simp only[Rep];exact⟨b,k0,by rw[Nat.add_assoc],e2,e3,e4⟩)
 |elem n l sz i' k=>
  simp only[JA,yE,Prod.mk.injEq] at hex
  obtain⟨_,rfl,rfl⟩:=hex
  simp only[Rep] at hx
  obtain⟨h1,h2,h3⟩:=hx
  obtain⟨b,k0,e⟩:=h2
  refine Step.quiet h (run _ _ e) ?_
  simp only[Rep]
  refine⟨h1,⟨_,_,rfl⟩,fun l' hl'=>⟨(h3 l' hl').1,fun he=> ?_⟩⟩
  obtain⟨b',k',g1,g2⟩:=(h3 l' hl').2 he
  rw[e] at g2
  simp at g2
  exact⟨b',k',g1,by rw[g2.1,g2.2];simp[Nat.add_assoc]⟩
 |v X=>cases X with
  |pointer p=>cases p with
   |some ad=>
    obtain⟨b,k,sp⟩:=ad
    cases sp with
    |none=>
     simp only[JA,yE,Prod.mk.injEq] at hex
     obtain⟨_,rfl,rfl⟩:=hex
     simp only[Rep] at hx
     exact Step.quiet h (run _ _ hx) (by simp[Rep])
    |some _=>simp[JA] at hex
   |none=>simp[JA] at hex
  |_=>simp[JA] at hex
 |_=>simp[JA] at hex
theorem Db {X:AV} {v:Value} {k:IntKind} {n:Int} (h:Rep σ (.v (.int k n)) v):v= .int k n:=by simpa [Rep] using h
theorem I2 {t:TypeId} {d:TypeDesc} {i:TypeInfo} (hd:P.underlying t=some d) (hi:P.info? t=some i) {xs:List Value} {cs ds:List AV} {off:Nat} (hr:RepL σ cs xs) (h1:∀x∈xs,Bq x=true)
  (hc:cut off i.size cs=some ds) (hm:mkv (BU d) ds=some r):∃v,(part t xs.toArray off).run P σ.w= .ok v σ.w∧Rep σ r v:=by
 obtain⟨us,rfl,k1,k2⟩:=Re hc hr
 unfold part
 cases ha:BU d with
 |true=>
  rw[ha] at hm
  simp[mkv] at hm
  subst hm
  refine⟨.agg ((xs.drop off).take i.size).toArray, ?_,by simp only[Rep];exact⟨_,rfl,fun y hy=>h1 y (List.mem_of_mem_drop (List.mem_of_mem_take hy)),k1⟩⟩
  simp[Is hd,ha,Dw hi,List.extract_eq_take_drop]
 |false=>
  rw[ha] at hm
  cases ds with
  |nil=>simp[mkv] at hm
  |cons c cs'=>
   cases cs' with
   |cons _ _=>simp[mkv] at hm
   |nil=>
    simp[mkv] at hm
    subst hm
    simp only[RepL] at k1
    obtain⟨v,ys,e1,e2,rfl⟩:=k1
    refine⟨v, ?_,e2⟩
    have h0:i.size=1:=by rw[e1] at k2;simpa using k2.symm
    have hx:xs[off]? =some v:=by
     have:((xs.drop off).take i.size)[0]? =some v:=by rw[e1];rfl
     rw[h0] at this
     simpa using this
    simp[Is hd,ha,hx]
theorem Xw (h:HInv σ hp) {t:TypeId} {x:Operand} {f:Nat} {X:AV} {fs:Array Field} {fd:Field} {d:TypeDesc} {i:TypeInfo} (ho:o.op= .field t x f) (hs:P.underlying t=some (.struct fs)) (hf:fs[f]? =some fd)
  (hd:P.underlying fd.type=some d) (hi:P.info? fd.type=some i) (hx:Rep σ X (a.eval x)) (hex:MT fd.offset i.size (BU d) X=some (vc,r,ws)):Step P o a σ nm (ws++hp) r:=by
 cases X with
 |agg cs=>
  simp only[MT] at hex
  split at hex
  ·rename_i ds hds
   cases hm:mkv (BU d) ds with
   |none=>simp[hm,vr] at hex
   |some r'=>
    simp only[hm,vr,Option.map_some,yE,Prod.mk.injEq] at hex
    obtain⟨_,rfl,rfl⟩:=hex
    simp only[Rep] at hx
    obtain⟨xs,e1,e2,e3⟩:=hx
    obtain⟨v,g1,g2⟩:=I2 hd hi e3 e2 hds hm
    refine Step.quiet h ?_ g2
    simp[execOp,ho,Instr.field,run_underlying hs,hf,e1,asAgg,g1]
  ·simp at hex
 |_=>simp[MT] at hex
theorem ZN (h:HInv σ hp) {t e:TypeId} {x ix:Operand} {X I:AV} {i:TypeInfo} (ho:o.op= .indexAddr t x ix) (ht:P.underlying t=some (.slice e)) (hi:P.info? e=some i)
  (hx:Rep σ X (a.eval x)) (hI:Rep σ I (a.eval ix)) (hex:Pr hp i.size X I=some (vc,r,ws)) (hvc:vc):Step P o a σ nm (ws++hp) r:=by
 have run:∀(b k len cap:Nat) (ik:IntKind) (n:Int),a.eval x= .slice (some ⟨b,k,none⟩) len cap→a.eval ix= .int ik n→0≤n→n<len→
   (execOp a.eval o).run P σ.w= .ok (.value (.pointer (some ⟨b,k+n.toNat*i.size,none⟩))) σ.w:=by
  intro b k len cap ik n e1 e2 e3 e4
  simp[execOp,ho,Instr.indexAt,run_underlying ht,e1,e2,asIntOf,e3,e4,Dw hi,Ih]
 unfold Pr at hex
 split at hex
 ·rename_i sz' f rows d ik n
  simp only[yE,Prod.mk.injEq] at hex
  obtain⟨rfl,rfl,rfl⟩:=hex
  obtain⟨rfl,v1,v2⟩:=hvc
  have hI':=Db (X:= .un) hI
  simp only[Rep] at hx
  obtain⟨base,cap,e1,e2,e3,e4,e5⟩:=hx
  rcases e5 with rfl|⟨b,k,rfl,e6,e7⟩
  ·simp at v2;omega
  ·refine Step.quiet h (run b k _ cap ik n e1 hI' v1 v2) ?_
   have hlt:n.toNat<rows.length:=by omega
   obtain⟨g1,g2⟩:=E2 e7 n.toNat _ (Kx (d:=d) hlt)
   simp only[Rep]
   exact⟨b,_,rfl,e6,e4 _ (List.mem_of_getElem? (Kx (d:=d) hlt)),g2⟩
 ·rename_i n l ik j
  split at hex
  ·rename_i sz' live rows d hn
   simp only[yE,Prod.mk.injEq] at hex
   obtain⟨rfl,rfl,rfl⟩:=hex
   obtain⟨rfl,hl1,v1,v2⟩:=hvc
   have hI':=Db (X:= .un) hI
   have hv:=GZ h hn hx hl1
   obtain⟨a1,a2,a3,a4⟩:=h.arr n i.size live rows d hn
   have hln:σ.ln n=some rows.length:=by have:=h.ln n;simpa [lenOf,hn] using this
   rcases a4 with⟨a4,a5,rfl⟩|⟨b,k,cap,a4,_⟩
   ·simp at v2;omega
   ·rw[a4] at hv
    refine Step.quiet h (run b k _ _ ik j hv hI' v1 v2) ?_
    simp only[Rep]
    subst hl1
    refine⟨a1,⟨_,_,rfl⟩,fun l' hl'=> ?_⟩
    rw[hln] at hl'
    simp at hl'
    subst hl'
    exact⟨Nat.le_refl _,fun _=>⟨b,k,by rw[a4],by simp⟩⟩
  ·simp at hex
 ·simp at hex
theorem Xx (h:HInv σ hp) {t e:TypeId} {x ix:Operand} {X I:AV} {i:TypeInfo} {n:Nat} (ho:o.op= .indexAddr t x ix) (ht:P.underlying t=some (.array n e)) (hi:P.info? e=some i)
  (hx:Rep σ X (a.eval x)) (hI:Rep σ I (a.eval ix)) (hex:Od n i.size X I=some (vc,r,ws)) (hvc:vc):Step P o a σ nm (ws++hp) r:=by
 have run:∀(b k:Nat) (ik:IntKind) (j:Int),a.eval x= .pointer (some ⟨b,k,none⟩)→a.eval ix= .int ik j→0≤j→j<n→
   (execOp a.eval o).run P σ.w= .ok (.value (.pointer (some ⟨b,k+j.toNat*i.size,none⟩))) σ.w:=by
  intro b k ik j e1 e2 e3 e4
  simp[execOp,ho,Instr.indexAt,run_underlying ht,e1,e2,asIntOf,e3,e4,Dw hi,Ih,Instr.sureAddr]
 unfold Od at hex
 split at hex
 ·rename_i m k ik j
  simp only[yE,Prod.mk.injEq] at hex
  obtain⟨rfl,rfl,rfl⟩:=hex
  simp only[Rep] at hx
  exact Step.quiet h (run _ _ ik j hx.2 (Db (X:= .un) hI) hvc.1 hvc.2) (by simp only[Rep];exact⟨hx.1,trivial⟩)
 ·rename_i cs k ik j
  simp only[yE,Prod.mk.injEq] at hex
  obtain⟨rfl,rfl,rfl⟩:=hex
  simp only[Rep] at hx
  obtain⟨b,k0,e1,e2,e3,e4⟩:=hx
  exact Step.quiet h (run _ _ ik j e1 (Db (X:= .un) hI) hvc.1 hvc.2) (by simp only[Rep];exact⟨b,k0,by rw[Nat.add_assoc],e2,e3,e4⟩)
 ·rename_i m l es k' o' ik j
  simp only[yE,Prod.mk.injEq] at hex
  obtain⟨rfl,rfl,rfl⟩:=hex
  simp only[Rep] at hx
  obtain⟨h1,h2,h3⟩:=hx
  obtain⟨b,k0,e⟩:=h2
  refine Step.quiet h (run _ _ ik j e (Db (X:= .un) hI) hvc.1 hvc.2) ?_
  simp only[Rep]
  refine⟨h1,⟨_,_,rfl⟩,fun l' hl'=>⟨(h3 l' hl').1,fun he=> ?_⟩⟩
  obtain⟨b',k',g1,g2⟩:=(h3 l' hl').2 he
  rw[e] at g2
  simp at g2
  exact⟨b',k',g1,by rw[g2.1,g2.2];simp[Nat.add_assoc]⟩
 ·rename_i b k ik j
  simp only[yE,Prod.mk.injEq] at hex
  obtain⟨rfl,rfl,rfl⟩:=hex
  simp only[Rep] at hx
  exact Step.quiet h (run _ _ ik j hx (Db (X:= .un) hI) hvc.1 hvc.2) (by simp[Rep])
 ·simp at hex
theorem Vr (h:HInv σ hp) {t e:TypeId} {x ix:Operand} {X I:AV} {d:TypeDesc} {i:TypeInfo} {n:Nat} (ho:o.op= .index t x ix) (ht:P.underlying t=some (.array n e)) (hd:P.underlying e=some d) (hi:P.info? e=some i)
  (hx:Rep σ X (a.eval x)) (hI:Rep σ I (a.eval ix)) (hex:Mc n i.size (BU d) X I=some (vc,r,ws)) (hvc:vc):Step P o a σ nm (ws++hp) r:=by
 unfold Mc at hex
 split at hex
 ·rename_i cs ik j
  split at hex
  ·rename_i ds hds
   cases hm:mkv (BU d) ds with
   |none=>simp[hm,vr] at hex
   |some r'=>
    simp only[hm,vr,Option.map_some,yE,Prod.mk.injEq] at hex
    obtain⟨rfl,rfl,rfl⟩:=hex
    simp only[Rep] at hx
    obtain⟨xs,e1,e2,e3⟩:=hx
    obtain⟨v,g1,g2⟩:=I2 hd hi e3 e2 hds hm
    refine Step.quiet h ?_ g2
    have hI':=Db (X:= .un) hI
    simp[execOp,ho,Instr.index,run_underlying ht,e1,hI',asIntOf,hvc.1,hvc.2,Dw hi,g1]
  ·simp at hex
 ·simp at hex
theorem Xy (h:HInv σ hp) {x:Operand} {X:AV} {i:Nat} (ho:o.op= .extract x i) (hx:Rep σ X (a.eval x)) (hex:MU i X=some (vc,r,ws)):Step P o a σ nm (ws++hp) r:=by
 cases X with
 |tup cs=>
  simp only[MU] at hex
  split at hex
  ·rename_i c hc
   simp only[yE,Prod.mk.injEq] at hex
   obtain⟨_,rfl,rfl⟩:=hex
   simp only[Rep] at hx
   obtain⟨xs,e1,e2⟩:=hx
   obtain⟨v,g1,g2⟩:=Ds e2 i _ hc
   refine Step.quiet h ?_ g2
   simp[execOp,ho,Instr.extract,e1,g1]
  ·simp at hex
 |_=>simp[MU] at hex
theorem Xz (h:HInv σ hp) {c:Call} {x:Operand} {X:AV} {t e:TypeId} (ho:o.op= .call c) (hc:c.callee= .builtin .len) (ha:c.args.toList=[x]) (hat:c.argTypes.toList=[t]) (ht:P.underlying t=some (.slice e))
  (hx:Rep σ X (a.eval x)) (hex:Ku hp X=some (vc,r,ws)) (hvc:vc):Step P o a σ nm (ws++hp) r:=by
 have ha':c.args= #[x]:=Array.toList_inj.1 ha
 have hat':c.argTypes= #[t]:=Array.toList_inj.1 hat
 have run:∀(base:Option Addr) (n cap:Nat),a.eval x= .slice base n cap→(execOp a.eval o).run P σ.w= .ok (.value (.int .i64 n)) σ.w:=by
  intro base n cap e1
  simp[execOp,ho,resolve,hc,invoke,builtin,ha',hat',Builtin.len_,run_underlying ht,e1,goInt]
 cases X with
 |sl sz f rows d=>
  simp only[Ku,yE,Prod.mk.injEq] at hex
  obtain⟨_,rfl,rfl⟩:=hex
  simp only[Rep] at hx
  obtain⟨base,cap,e1,_⟩:=hx
  exact Step.quiet h (run _ _ _ e1) (by simp[Rep])
 |own n l=>
  simp only[Ku] at hex
  split at hex
  ·rename_i sz live rows d hn
   simp only[yE,Prod.mk.injEq] at hex
   obtain⟨rfl,rfl,rfl⟩:=hex
   exact Step.quiet h (run _ _ _ (GZ h hn hx hvc)) (by simp[Rep])
  ·simp at hex
 |_=>simp[Ku] at hex
theorem XA (h:HInv σ hp) {c:Call} {x:Operand} {X:AV} {t e:TypeId} (ho:o.op= .call c) (hc:c.callee= .builtin .cap) (ha:c.args.toList=[x]) (hat:c.argTypes.toList=[t]) (ht:P.underlying t=some (.slice e))
  (hx:Rep σ X (a.eval x)) (hex:Oc X=some (vc,r,ws)) (hvc:vc):Step P o a σ nm (ws++hp) r:=by
 have ha':c.args= #[x]:=Array.toList_inj.1 ha
 have hat':c.argTypes= #[t]:=Array.toList_inj.1 hat
 have run:∀(base:Option Addr) (n cap:Nat),a.eval x= .slice base n cap→(execOp a.eval o).run P σ.w= .ok (.value (.int .i64 cap)) σ.w:=by
  intro base n cap e1
  simp[execOp,ho,resolve,hc,invoke,builtin,ha',hat',Builtin.cap_,run_underlying ht,e1,goInt]
 unfold Oc at hex
 split at hex
 ·rename_i sz rows d
  simp only[yE,Prod.mk.injEq] at hex
  obtain⟨_,rfl,rfl⟩:=hex
  simp only[Rep] at hx
  obtain⟨base,cap,e1,_,e3,_⟩:=hx
  rw[e3 trivial] at e1
  exact Step.quiet h (run _ _ _ e1) (by simp[Rep])
 ·simp at hex
theorem XB (h:HInv σ hp) (hnm:¬σ.al nm) {c:Call} {s x:Operand} {X Y:AV} {t e:TypeId} {i:TypeInfo} {zs:List AV} (ho:o.op= .call c) (hc:c.callee= .builtin .append) (ha:c.args.toList=[s,x]) (hat:c.argTypes.toList=[t,t])
  (ht:P.underlying t=some (.slice e)) (hi:P.info? e=some i) (hz:G2 P e=some zs) (h0:0<i.size∧0<i.bytes) (hx:Rep σ X (a.eval s)) (hy:Rep σ Y (a.eval x))
  (hex:MS hp nm i.size i.bytes zs X Y=some (vc,r,ws)) (hvc:vc):Step P o a σ nm (ws++hp) r:=by
 have ha':c.args= #[s,x]:=Array.toList_inj.1 ha
 have hat':c.argTypes= #[t,t]:=Array.toList_inj.1 hat
 obtain⟨i',z,e1,e2,e3,e4,e5⟩:=G3 hz
 rw[hi] at e1
 cases e1
 obtain⟨v,w',σ',g1,g2,g3⟩:=Vc h hnm t o.type e i z ht hi e2 rfl rfl e4 h0.1 h0.2 hex hvc hx hy
 refine .inl ⟨v,w',σ',.inl ?_,g2,g3⟩
 simp[execOp,ho,resolve,hc,invoke,builtin,ha',hat',g1]
theorem Rm {isMax:Bool}:∀{ys:List AV} {X Z:AV} {vs:List Value} {v:Value},mmL isMax X ys=some Z→Rep σ X v→RepL σ ys vs→
  ∃z,(vs.foldlM (if isMax then Builtin.max2 else Builtin.min2) v).run P σ.w= .ok z σ.w∧Rep σ Z z
 |[],X,Z,vs,v,hm,hx,hy=>by
  simp[mmL] at hm;subst hm
  simp[RepL] at hy;subst hy
  exact⟨v,by simp,hx⟩
 |Y::ys,X,Z,vs,v,hm,hx,hy=>by
  simp only[mmL] at hm
  simp only[RepL] at hy
  obtain⟨y,us,rfl,h2,h3⟩:=hy
  split at hm
  ·rename_i U hU
   unfold mm2 at hU
   split at hU
   ·rename_i k n k' m
    simp at hU
    have e1:=Db (X:= .un) hx
    have e2:=Db (X:= .un) h2
    subst e1 e2
    have hrun:((if isMax then Builtin.max2 else Builtin.min2) (.int k n) (.int k' m)).run P σ.w= .ok (.int k (bif isMax then max n m else min n m)) σ.w:=by
     cases isMax
     ·simp[Builtin.min2];omega
     ·simp[Builtin.max2];omega
    subst hU
    obtain⟨z,g1,g2⟩:=Rm (vs:=us) hm (v:= .int k (bif isMax then max n m else min n m)) (by simp[Rep]) h3
    exact⟨z,by simp[List.foldlM_cons,hrun,g1],g2⟩
   ·simp at hU
  ·simp at hm
theorem Tb (h:HInv σ hp) {c:Call} {Xs:List AV} {isMax:Bool} (ho:o.op= .call c) (hc:c.callee= .builtin (if isMax then .max else .min)) (hx:RepL σ Xs (c.args.toList.map a.eval))
  (hex:Ps isMax Xs=some (vc,r,ws)):Step P o a σ nm (ws++hp) r:=by
 cases Xs with
 |nil=>simp[Ps] at hex
 |cons X Ys=>
  simp only[Ps] at hex
  split at hex
  ·rename_i Z hZ
   simp only[yE,Prod.mk.injEq] at hex
   obtain⟨_,rfl,rfl⟩:=hex
   simp only[RepL] at hx
   obtain⟨v,vs,e1,e2,e3⟩:=hx
   obtain⟨z,g1,g2⟩:=Rm (P:=P) hZ e2 e3
   refine Step.quiet h ?_ g2
   cases isMax
   ·simp at g1 hc
    simp[execOp,ho,resolve,hc,invoke,builtin,Builtin.min_,e1,g1]
   ·simp at g1 hc
    simp[execOp,ho,resolve,hc,invoke,builtin,Builtin.max_,e1,g1]
  ·simp at hex
theorem XC (h:HInv σ hp) {fn:Fn} {f c:Array Operand} {Xs Ys:List AV} (ho:o.op= .makeFunc fn f c) (hx:RepL σ Xs (f.toList.map a.eval)) (hy:RepL σ Ys (c.toList.map a.eval)):
  Step P o a σ nm ([]++hp) (.clo fn Xs Ys):=by
 refine Step.quiet h (v:= .func fn (f.map a.eval) (c.map a.eval)) ?_ ?_
 ·simp[execOp,ho,Instr.makeFunc]
 ·simp only[Rep]
  exact⟨_,_,by rw[←Array.toList_map,←Array.toList_map,Array.toArray_toList,Array.toArray_toList],hx,hy⟩
theorem XD (h:HInv σ hp) {x:Operand} {X:AV} (ho:o.op= .nilCheck x) (hx:Rep σ X (a.eval x)) (hex:Of X=some (vc,r,ws)):Step P o a σ nm (ws++hp) r:=by
 unfold Of at hex
 split at hex
 ·simp only[yE,Prod.mk.injEq] at hex
  obtain⟨_,rfl,rfl⟩:=hex
  have hx':=hx
  simp only[Rep] at hx
  exact Step.quiet h (v:=a.eval x) (by simp[execOp,ho,hx.2]) hx'
 ·simp only[yE,Prod.mk.injEq] at hex
  obtain⟨_,rfl,rfl⟩:=hex
  have hx':=hx
  simp only[Rep] at hx
  obtain⟨b,k0,e1,_⟩:=hx
  exact Step.quiet h (v:=a.eval x) (by simp[execOp,ho,e1]) hx'
 ·simp only[yE,Prod.mk.injEq] at hex
  obtain⟨_,rfl,rfl⟩:=hex
  have hx':=hx
  simp only[Rep] at hx
  obtain⟨xs,ys,e1,_⟩:=hx
  exact Step.quiet h (v:=a.eval x) (by simp[execOp,ho,e1]) hx'
 ·simp only[yE,Prod.mk.injEq] at hex
  obtain⟨_,rfl,rfl⟩:=hex
  have hx':=hx
  simp only[Rep] at hx
  exact Step.quiet h (v:=a.eval x) (by simp[execOp,ho,hx]) hx'
 ·simp at hex
theorem XE (h:HInv σ hp) {src dst:TypeId} {x:Operand} {X:AV} {k k':IntKind} (ho:o.op= .convert src dst x) (hs:P.underlying src=some (.int k')) (hd:P.underlying dst=some (.int k)) (hx:Rep σ X (a.eval x))
  (hex:Og k X=some (vc,r,ws)) (hvc:vc):Step P o a σ nm (ws++hp) r:=by
 unfold Og at hex
 split at hex
 ·rename_i k0 n
  simp only[yE,Prod.mk.injEq] at hex
  obtain⟨rfl,rfl,rfl⟩:=hex
  have e:=Db (X:= .un) hx
  refine Step.quiet h (v:= .int k n) ?_ (by simp[Rep])
  simp[execOp,ho,convert,run_underlying hs,run_underlying hd,e,Conv.intToInt,Hv hvc]
 ·simp at hex
theorem ZO (h:HInv σ hp) {t:TypeId} {op:UnOp} {x:Operand} {X:AV} (ho:o.op= .unOp op t x) (hx:Rep σ X (a.eval x)) (hex:vr (TY op X)=some (vc,r,ws)) (hvc:vc):Step P o a σ nm (ws++hp) r:=by
 unfold TY at hex
 split at hex
 ·rename_i b
  simp only[vr,yE,Prod.mk.injEq] at hex
  obtain⟨rfl,rfl,rfl⟩:=hex
  have e:a.eval x= .bool b:=by simpa [Rep] using hx
  exact Step.quiet h (v:= .bool (!b)) (by simp[execOp,ho,Op.unary,e]) (by simp[Rep])
 ·rename_i k n
  simp only[vr,yE,Prod.mk.injEq] at hex
  obtain⟨rfl,rfl,rfl⟩:=hex
  have e:=Db (X:= .un) hx
  refine Step.quiet h (v:= .int k (-n)) ?_ (by simp[Rep])
  have:=Hv hvc
  simp[execOp,ho,Op.unary,e,Op.intArith,this]
 ·simp[vr] at hex
theorem Vs {op:BinOp} {x y:Int} {b:Bool} (h:TV op x y=some b) (k:IntKind) (t:TypeId) (w:World):(binOp op t (.int k x) (.int k y)).run P w= .ok (.bool b) w:=by
 cases op<;>simp only[TV,yE,reduceCtorEq] at h
 case neq=>subst h;simp[binOp,Op.intCmp];rw[Bool.eq_iff_iff];simp
 case eql=>subst h;simp[binOp,Op.intCmp];rw[Bool.eq_iff_iff];simp
 all_goals (subst h;simp[binOp,Op.intCmp])
theorem XF {op:BinOp} {k:IntKind} {x y z:Int} {p:Prop} (h:arB op k x y=some (p,z)) (hp:p) (t:TypeId) (w:World):(binOp op t (.int k x) (.int k y)).run P w= .ok (.int k z) w:=by
 cases op<;>simp only[arB,yE,Prod.mk.injEq,reduceCtorEq] at h<;>obtain⟨rfl,rfl⟩:=h
 ·simp[binOp,Op.intArith,Hv hp]
 ·simp[binOp,Op.intArith,Hv hp]
 ·simp[binOp,Op.intArith,Hv hp]
 ·simp[binOp,Op.intDiv,hp.1,Hv hp.2]
 ·simp[binOp,Op.intDiv,hp]
theorem KQ (op:BinOp) (t:TypeId) (x y:Operand) (k k':IntKind) (m n:Int) (w:World):(eqGuard op t x y (.int k m) (.int k' n)).run P w= .ok () w:=by
 cases op<;>simp[eqGuard]
theorem Rn (op:BinOp) (t:TypeId) (x y:Operand) (m n:Bool) (w:World):(eqGuard op t x y (.bool m) (.bool n)).run P w= .ok () w:=by
 cases op<;>simp[eqGuard]
theorem Vt {t:TypeId} (hu:P.underlying t=some .bool) (d:Nat) (b1 b2:Bool) (w:World):(Op.equalIn (d+1) t (.bool b1) (.bool b2)).run P w= .ok (b1==b2) w:=by
 simp[Op.equalIn,run_underlying hu]
theorem Oq {l:Bool} {e:Prop} {c:Bool} {R:Option (Prop×Bool)} {p:Prop} {b:Bool} (h:J3 l e c R=some (p,b)):∃q d,R=some (q,d)∧p=(e∧q)∧b=(bif l then c else c&&d):=by
 match R,h with
 |none,h=>exact absurd h (by simp[J3])
 |some (q,d),h=>
  unfold J3 at h
  have h:=yJ h
  exact⟨q,d,rfl,(Prod.mk.inj h).1.symm,(Prod.mk.inj h).2.symm⟩
theorem Gr {xs ys:List AV} {p:Prop} {b:Bool} (h:CP [] xs ys=some (p,b)):xs=[]∧ys=[]∧p=True∧b=true:=by
 match xs,ys,h with
 |[],[],h=>
  unfold CP at h
  have h:=yJ h
  exact⟨rfl,rfl,(Prod.mk.inj h).1.symm,(Prod.mk.inj h).2.symm⟩
 |[],_::_,h=>exact absurd h (by simp[CP])
 |_::_,_,h=>exact absurd h (by simp[CP])
theorem IE {k:Bool} {ks:List Bool} {xs ys:List AV} {p:Prop} {b:Bool} (h:CP (k::ks) xs ys=some (p,b)):
  ∃x xs' y ys' e c q d,xs=x::xs'∧ys=y::ys'∧CP ks xs' ys'=some (q,d)∧p=(e∧q)∧b=(bif ks.isEmpty then c else c&&d)∧
   (∀ks2 A B,CP (k::ks2) (x::A) (y::B)=J3 ks2.isEmpty e c (CP ks2 A B))∧
   ((k=true∧∃m m' i j,x= .v (.int m i)∧y= .v (.int m' j)∧e=(m=m')∧c=decide (i=j))∨(k=false∧∃i j,x= .v (.bool i)∧y= .v (.bool j)∧e=True∧c=(i==j))):=by
 unfold CP at h
 split at h
 ·exact absurd ‹k::ks=[]› (by simp)
 ·rename_i ks' m i xs' m' j ys' e
  cases e
  obtain⟨q,d,h1,h2,h3⟩:=Oq h
  exact⟨_,_,_,_,_,_,q,d,rfl,rfl,h1,h2,h3,fun _ _ _=>by rw[CP],.inl ⟨rfl,m,m',i,j,rfl,rfl,rfl,rfl⟩⟩
 ·rename_i ks' i xs' j ys' e
  cases e
  obtain⟨q,d,h1,h2,h3⟩:=Oq h
  exact⟨_,_,_,_,_,_,q,d,rfl,rfl,h1,h2,h3,fun _ _ _=>by rw[CP],.inr ⟨rfl,i,j,rfl,rfl,rfl,rfl⟩⟩
 ·cases h
theorem Jj:∀{ks:List Bool} {xs ys:List AV} {p:Prop} {b:Bool},CP ks xs ys=some (p,b)→xs.length=ks.length∧ys.length=ks.length
 |[],xs,ys,p,b,h=>by
  obtain⟨rfl,rfl,_⟩:=Gr h
  exact⟨rfl,rfl⟩
 |k::ks,xs,ys,p,b,h=>by
  obtain⟨x,xs',y,ys',e,c,q,d,rfl,rfl,h1,_⟩:=IE h
  have:=Jj h1
  simp;omega
theorem KR:∀{k1 k2:List Bool} {A B:List AV} {p:Prop} {b:Bool},CP (k1++k2) A B=some (p,b)→p→
  ∃p1 b1 p2 b2,CP k1 (A.take k1.length) (B.take k1.length)=some (p1,b1)∧CP k2 (A.drop k1.length) (B.drop k1.length)=some (p2,b2)∧p1∧p2∧b=(b1&&b2)
 |[],k2,A,B,p,b,h,hp=>⟨True,true,p,b,by simp[CP],by simpa using h,trivial,hp,by simp⟩
 |k::k1,k2,A,B,p,b,h,hp=>by
  rw[List.cons_append] at h
  obtain⟨x,xs',y,ys',e,c,q,d,rfl,rfl,h1,rfl,rfl,h4,_⟩:=IE h
  obtain⟨p1,b1,p2,b2,e1,e2,g1,g2,rfl⟩:=KR h1 hp.2
  refine⟨e∧p1,bif k1.isEmpty then c else c&&b1,p2,b2, ?_,by simpa using e2,⟨hp.1,g1⟩,g2, ?_⟩
  ·rw[List.length_cons,List.take_succ_cons,List.take_succ_cons,h4,e1];rfl
  ·cases k1 with
   |nil=>
    obtain⟨_,_,_,rfl⟩:=Gr e1
    cases k2 with
    |nil=>obtain⟨_,_,_,rfl⟩:=Gr e2;simp
    |cons _ _=>simp
   |cons _ _=>simp[Bool.and_assoc]
theorem I3:∀{o n:Nat} {cs:List AV},o+n≤cs.length→cut o n cs=some ((cs.drop o).take n)
 |0,0,cs,h=>by simp[cut]
 |0,n+1,[],h=>by simp at h
 |0,n+1,c::cs,h=>by
  have:=I3 (o:=0) (n:=n) (cs:=cs) (by simp at h;omega)
  simp[cut,this]
 |o+1,n,[],h=>by simp at h
 |o+1,n,c::cs,h=>by
  have:=I3 (o:=o) (n:=n) (cs:=cs) (by simp at h;omega)
  simp[cut,this]
theorem Ot {d:Nat} {t:TypeId} {ks:List Bool} (h:FR P d t=some ks):∃td,P.underlying t=some td∧(BU td=false→ks.length=1):=by
 cases d with
 |zero=>simp[FR] at h
 |succ d=>
  unfold FR at h
  split at h
  ·rename_i k hu;cases h;exact⟨_,hu,fun _=>rfl⟩
  ·rename_i hu;cases h;exact⟨_,hu,fun _=>rfl⟩
  ·rename_i fs hu;exact⟨_,hu,fun e=>by simp[BU] at e⟩
  ·rename_i n e hu;exact⟨_,hu,fun e=>by simp[BU] at e⟩
  ·simp at h
theorem Vu (w:World) {t e:TypeId} {n:Nat} (d:Nat) (ht:P.underlying t=some (.array n e)) (xs ys:Array Value)
  (hp:(sizeOf e).run P w= .ok 1 w) (b:Nat→Bool)
  (hs:∀i,i<n→∃x y,(part e xs (i*1)).run P w= .ok x w∧(part e ys (i*1)).run P w= .ok y w∧(Op.equalIn d e x y).run P w= .ok (b i) w):
  (Op.equalIn (d+1) t (.agg xs) (.agg ys)).run P w= .ok ((List.range n).all b) w:=by
 simp only[Op.equalIn,Sem.run_bind,run_underlying ht,Result.andThen_ok,hp]
 rw[Std.Legacy.Range.forIn_eq_forIn_range',List.range_eq_range']
 simp only[Std.Legacy.Range.size,Nat.sub_zero,Nat.add_sub_cancel,Nat.div_one]
 have key:∀(k s:Nat),s+k=n→(forIn (List.range' s k 1) ((none:Option Bool),()) fun i __s=>(do
      let __do_lift←part e xs (i*1)
      let __do_lift_1←part e ys (i*1)
      let __do_lift←Op.equalIn d e __do_lift __do_lift_1
      if(!__do_lift)=true then pure (ForInStep.done (some false,())) else pure (ForInStep.yield (none,())):Sem _)).run P w= .ok (bif ((List.range' s k 1).all b) then(none,()) else(some false,())) w:=by
  intro k
  induction k with
  |zero=>intro s _;simp
  |succ k ih=>
   intro s hk
   obtain⟨x,y,h1,h2,h3⟩:=hs s (by omega)
   rw[List.range'_succ,List.forIn_cons]
   simp only[Sem.run_bind,h1,h2,h3,Result.andThen_ok,List.all_cons]
   by_cases hb:b s=true
   ·have:=ih (s+1) (by omega)
    rw[hb]
    simpa using this
   ·rw[Bool.eq_false_iff.2 hb]
    simp
 rw[key n 0 (by omega)]
 simp only[Result.andThen_ok]
 cases(List.range' 0 n 1).all b<;>simp
theorem JH:∀(d:Nat) {t:TypeId} {ks:List Bool},FR P d t=some ks→∀(D:Nat),d≤D→∀{td:TypeDesc},P.underlying t=some td→∀{cs ds:List AV} {p:Prop} {b:Bool},CP ks cs ds=some (p,b)→p→
  ∀{X Y:AV} {v u:Value},mkv (BU td) cs=some X→mkv (BU td) ds=some Y→Rep σ X v→Rep σ Y u→(Op.equalIn D t v u).run P σ.w= .ok b σ.w
 |0,t,ks,h=>by simp[FR] at h
 |d+1,t,ks,h=>by
  intro D' hD td htd cs ds p b he hp X Y v u hX hY hv hu
  obtain⟨D,rfl⟩:∃E,D'=E+1:=⟨D'-1,by omega⟩
  have hl:=Jj he
  unfold FR at h
  split at h
  ·rename_i k hk
   cases h
   rw[hk] at htd;cases htd
   obtain⟨x,xs',y,ys',e,c,q,d,rfl,rfl,h1,rfl,rfl,_,h5⟩:=IE he
   obtain⟨rfl,rfl,rfl,rfl⟩:=Gr h1
   rcases h5 with⟨_,m,m',i,j,rfl,rfl,rfl,rfl⟩|⟨h5,_⟩
   ·obtain⟨rfl,_⟩:=hp
    simp[BU,mkv] at hX hY
    subst hX;subst hY
    rw[Db (X:= .un) hv,Db (X:= .un) hu,run_equalIn_int (P:=P) σ.w D t m k i j hk]
    rfl
   ·cases h5
  ·rename_i hk
   cases h
   rw[hk] at htd;cases htd
   obtain⟨x,xs',y,ys',e,c,q,d,rfl,rfl,h1,rfl,rfl,_,h5⟩:=IE he
   obtain⟨rfl,rfl,rfl,rfl⟩:=Gr h1
   rcases h5 with⟨h5,_⟩|⟨_,i,j,rfl,rfl,rfl,rfl⟩
   ·cases h5
   ·simp[BU,mkv] at hX hY
    subst hX;subst hY
    have e1:v= .bool i:=by simpa [Rep] using hv
    have e2:u= .bool j:=by simpa [Rep] using hu
    rw[e1,e2,run_equalIn_bool' (P:=P) σ.w D t i j hk]
  ·rename_i fs hk
   rw[hk] at htd;cases htd
   split at h
   ·simp at h
   rename_i hst
   simp only[not_or,Bool.not_eq_true] at hst
   simp[BU,mkv] at hX hY
   subst hX;subst hY
   simp only[Rep] at hv hu
   obtain⟨xs,rfl,o1,r1⟩:=hv
   obtain⟨ys,rfl,o2,r2⟩:=hu
   have hfo:P.fieldsOf t=fs:=by unfold Program.fieldsOf;rw[hk]
   rw[run_equalIn_struct σ.w D t _ _ (by rw[hfo];exact hk) hst.1,hfo]
   have flds:∀(l:List Field) (o:Nat) (ks:List Bool),K3 (FR P d) P l o=some ks→∀(p:Prop) (b:Bool),CP ks (cs.drop o) (ds.drop o)=some (p,b)→p→(Op.eqFields D xs.toArray ys.toArray l).run P σ.w= .ok b σ.w:=by
    intro l
    induction l with
    |nil=>
     intro o ks h p b he hp
     simp[K3] at h
     subst h
     obtain⟨_,_,_,rfl⟩:=Gr he
     simp[Op.eqFields]
    |cons f l ih=>
     intro o ks h p b he hp
     simp only[K3] at h
     split at h
     ·simp at h
     rename_i hf
     simp only[not_or,Classical.not_not] at hf
     split at h
     ·rename_i k1 i hk1 hi
      split at h
      ·rename_i hsz'
       obtain⟨hsz,hne⟩:=hsz'
       have hpos:0<k1.length:=by cases k1<;>simp at hne⊢
       cases hk2:K3 (FR P d) P l (o+k1.length) with
       |none=>rw[hk2] at h;simp at h
       |some k2=>
        rw[hk2] at h
        simp at h
        subst h
        obtain⟨p1,b1,p2,b2,e1,e2,h1,h2,rfl⟩:=KR he hp
        have hlen:=Jj he
        simp at hlen
        obtain⟨td,htd,hone⟩:=Ot hk1
        have cA:cut f.offset i.size cs=some ((cs.drop o).take k1.length):=by rw[hf.2,hsz];exact I3 (by omega)
        have cB:cut f.offset i.size ds=some ((ds.drop o).take k1.length):=by rw[hf.2,hsz];exact I3 (by omega)
        have mk:∀(l:List AV),l.length=k1.length→∃Z,mkv (BU td) l=some Z:=by
         intro l hl
         cases ha:BU td with
         |true=>exact⟨.agg l,rfl⟩
         |false=>
          rw[hone ha] at hl
          match l,hl with
          |[c],_=>exact⟨c,rfl⟩
        obtain⟨X1,hX1⟩:=mk ((cs.drop o).take k1.length) (by simp;omega)
        obtain⟨Y1,hY1⟩:=mk ((ds.drop o).take k1.length) (by simp;omega)
        obtain⟨v1,g1,g2⟩:=I2 htd hi r1 o1 cA hX1
        obtain⟨u1,g3,g4⟩:=I2 htd hi r2 o2 cB hY1
        have hr:=JH d hk1 D (by omega) htd e1 h1 hX1 hY1 g2 g4
        have hrest:=ih (o+k1.length) k2 hk2 p2 b2 (by simpa [List.drop_drop,Nat.add_comm] using e2) h2
        simp only[Op.eqFields,ne_eq,hf.1,not_false_eq_true,if_true,Sem.run_bind,g1,g3,hr,Result.andThen_ok]
        cases b1 with
        |false=>simp
        |true=>simpa using hrest
      ·simp at h
     ·simp at h
   exact flds fs.toList 0 ks h p b (by simpa using he) hp
  ·rename_i n e hk
   rw[hk] at htd;cases htd
   split at h
   ·rename_i k0 i hk1 hi
    split at h
    ·simp at h
    rename_i hst
    simp only[not_or,Classical.not_not] at hst
    cases h
    simp[BU,mkv] at hX hY
    subst hX;subst hY
    simp only[Rep] at hv hu
    obtain⟨xs,rfl,o1,r1⟩:=hv
    obtain⟨ys,rfl,o2,r2⟩:=hu
    obtain⟨td,htd,hone⟩:=Ot hk1
    have mk:∀(l:List AV),l.length=1→∃Z,mkv (BU td) l=some Z:=by
     intro l hl
     cases ha:BU td with
     |true=>exact⟨.agg l,rfl⟩
     |false=>
      match l,hl with
      |[c],_=>exact⟨c,rfl⟩
    have hlen:=Jj he
    rw[List.length_replicate] at hlen
    let c:Nat→Bool:=fun j=>((CP [k0] ((cs.drop j).take 1) ((ds.drop j).take 1)).map (·.2)).getD false
    have arr:∀(m o:Nat),o+m=n→∀(p:Prop) (b:Bool),CP (List.replicate m k0) (cs.drop o) (ds.drop o)=some (p,b)→p→
      (∀j,o≤j→j<n→∃x y,(part e xs.toArray (j*1)).run P σ.w= .ok x σ.w∧(part e ys.toArray (j*1)).run P σ.w= .ok y σ.w∧(Op.equalIn D e x y).run P σ.w= .ok (c j) σ.w)∧b=(List.range' o m 1).all c:=by
     intro m
     induction m with
     |zero=>
      intro o ho p b he hp
      obtain⟨_,_,_,rfl⟩:=Gr he
      exact⟨fun j h1 h2=>absurd h2 (by omega),rfl⟩
     |succ m ih=>
      intro o ho p b he hp
      rw[List.replicate_succ,show k0::List.replicate m k0=[k0]++List.replicate m k0 from rfl] at he
      obtain⟨p1,b1,p2,b2,e1,e2,h1,h2,rfl⟩:=KR he hp
      rw[List.length_singleton] at e1 e2
      obtain⟨q1,q2⟩:=ih (o+1) (by omega) p2 b2 (by simpa [List.drop_drop,Nat.add_comm] using e2) h2
      have hc:c o=b1:=by simp only[c];rw[e1];rfl
      refine⟨fun j hj1 hj2=> ?_, ?_⟩
      ·by_cases hjo:j=o
       ·subst hjo
        have hj:j<n:=by omega
        have cA:cut (j*1) i.size cs=some ((cs.drop j).take 1):=by rw[hst.2,Nat.mul_one];exact I3 (by omega)
        have cB:cut (j*1) i.size ds=some ((ds.drop j).take 1):=by rw[hst.2,Nat.mul_one];exact I3 (by omega)
        obtain⟨X1,hX1⟩:=mk ((cs.drop j).take 1) (by simp;omega)
        obtain⟨Y1,hY1⟩:=mk ((ds.drop j).take 1) (by simp;omega)
        obtain⟨v1,g1,g2⟩:=I2 htd hi r1 o1 cA hX1
        obtain⟨u1,g3,g4⟩:=I2 htd hi r2 o2 cB hY1
        exact⟨v1,u1,g1,g3,by rw[hc];exact JH d hk1 D (by omega) htd e1 h1 hX1 hY1 g2 g4⟩
       ·exact q1 j (by omega) hj2
      ·rw[List.range'_succ,List.all_cons,hc,←q2]
    obtain⟨a1,a2⟩:=arr n 0 (by omega) p b (by simpa using he) hp
    have hsz:(sizeOf e).run P σ.w= .ok 1 σ.w:=by rw[Dw hi,hst.2]
    rw[Vu σ.w D hk xs.toArray ys.toArray hsz c (fun j hj=>a1 j (by omega) hj),a2,List.range_eq_range']
   ·simp at h
  ·simp at h
theorem XG (h:HInv σ hp) {t yt:TypeId} {op:BinOp} {x y:Operand} {X Y:AV} {ks:List Bool} {td:TypeDesc} (ho:o.op= .binOp op t x y yt) (hu:P.underlying t=some td) (had:BU td=true) (hk:FR P 8 t=some ks)
  (hx:Rep σ X (a.eval x)) (hy:Rep σ Y (a.eval y)) (hex:Oe ks op X Y=some (vc,r,ws)) (hvc:vc):Step P o a σ nm (ws++hp) r:=by
 unfold Oe at hex
 split at hex
 ·rename_i cs ds
  have hg:P.eqGuardType P.depth t=false:=by
   unfold FR at hk
   rw[hu] at hk
   cases td with
   |struct fs=>
    simp only at hk
    split at hk
    ·simp at hk
    ·rename_i hst;simp only[not_or,Bool.not_eq_true] at hst;exact hst.2.1
   |array n e=>
    simp only at hk
    split at hk
    ·split at hk
     ·simp at hk
     ·rename_i hst;simp only[not_or,Bool.not_eq_true] at hst;exact hst.1
    ·simp at hk
   |_=>simp[BU] at had
  have hx':=hx
  have hy':=hy
  simp only[Rep] at hx hy
  obtain⟨xs,ex,_,_⟩:=hx
  obtain⟨ys,ey,_,_⟩:=hy
  have g1:=run_eqGuard_agg (P:=P) σ.w op t x y xs.toArray ys.toArray hg
  split at hex
  ·rename_i p b hc
   simp only[yE,Prod.mk.injEq] at hex
   obtain⟨rfl,rfl,rfl⟩:=hex
   have hr:=JH (σ:=σ) 8 hk 10000 (by omega) hu hc hvc (X:= .agg cs) (Y:= .agg ds) (by rw[had];rfl) (by rw[had];rfl) hx' hy'
   rw[ex,ey] at hr
   refine Step.quiet h (v:= .bool b) ?_ (by simp[Rep])
   have g2:=run_eql_struct (P:=P) σ.w t xs.toArray ys.toArray
   rw[hr] at g2
   simp[execOp,ho,ex,ey,g1,g2]
  ·rename_i p b hc
   simp only[yE,Prod.mk.injEq] at hex
   obtain⟨rfl,rfl,rfl⟩:=hex
   have hr:=JH (σ:=σ) 8 hk 10000 (by omega) hu hc hvc (X:= .agg cs) (Y:= .agg ds) (by rw[had];rfl) (by rw[had];rfl) hx' hy'
   rw[ex,ey] at hr
   refine Step.quiet h (v:= .bool (!b)) ?_ (by simp[Rep])
   have g2:=run_neq_struct (P:=P) σ.w t xs.toArray ys.toArray
   rw[hr] at g2
   simp[execOp,ho,ex,ey,g1,g2]
  ·simp at hex
 ·simp at hex
theorem Ua {t e:TypeId} (hu:P.underlying t=some (.slice e)) (d:Nat) (b:Option Addr) (n c:Nat) (w:World):(Op.equalIn (d+1) t (.slice b n c) (.slice none 0 0)).run P w= .ok b.isNone w:=by
 cases b<;>simp[Op.equalIn,run_underlying hu]
theorem Vv (h:HInv σ hp) {t yt e:TypeId} {op:BinOp} {x y:Operand} {X:AV} {neg:Bool} (ho:o.op= .binOp op t x y yt) (hop:op= .eql∧neg=false∨op= .neq∧neg=true) (hu:P.underlying t=some (.slice e))
  (hy:a.eval y= .slice none 0 0) (hx:Rep σ X (a.eval x)) (hex:Md neg X=some (vc,r,ws)) (hvc:vc):Step P o a σ nm (ws++hp) r:=by
 have run:∀(b:Option Addr) (n c:Nat),a.eval x= .slice b n c→(execOp a.eval o).run P σ.w= .ok (.value (.bool (b.isNone !=neg))) σ.w:=by
  intro b n c e1
  have g1:(eqGuard op t x y (.slice b n c) (.slice none 0 0)).run P σ.w= .ok () σ.w:=by rcases hop with⟨rfl,_⟩|⟨rfl,_⟩<;>simp[eqGuard]
  have g2:(Op.equal t (.slice b n c) (.slice none 0 0)).run P σ.w= .ok b.isNone σ.w:=Ua hu 9999 b n c σ.w
  rcases hop with⟨rfl,rfl⟩|⟨rfl,rfl⟩<;>simp[execOp,ho,e1,hy,g1,binOp,g2]
 unfold Md at hex
 split at hex
 ·rename_i b n c
  simp only[yE,Prod.mk.injEq] at hex
  obtain⟨_,rfl,rfl⟩:=hex
  have e1:a.eval x= .slice b n c:=by simpa [Rep] using hx
  exact Step.quiet h (run _ _ _ e1) (by simp[Rep])
 ·rename_i z f rows d
  simp only[yE,Prod.mk.injEq] at hex
  obtain⟨rfl,rfl,rfl⟩:=hex
  simp only[Rep] at hx
  obtain⟨base,cap,e1,_,_,_,h5⟩:=hx
  rcases h5 with h5|⟨b,k,rfl,_⟩
  ·exact absurd h5 hvc
  ·have:=run _ _ _ e1
   exact Step.quiet h (v:= .bool neg) (by simpa using this) (by simp[Rep])
 ·simp at hex
theorem ND (h:HInv σ hp) {t yt:TypeId} {op:BinOp} {x y:Operand} {X Y:AV} (ho:o.op= .binOp op t x y yt) (hop:En P op t (opd x) (opd y)= .bin op .int (opd x) (opd y)∨En P op t (opd x) (opd y)= .bin op .bool (opd x) (opd y)∧P.underlying t=some .bool)
  {tk:TK} (htk:En P op t (opd x) (opd y)= .bin op tk (opd x) (opd y)) (hx:Rep σ X (a.eval x)) (hy:Rep σ Y (a.eval y)) (hex:vr (MQ op tk X Y)=some (vc,r,ws)) (hvc:vc):Step P o a σ nm (ws++hp) r:=by
 unfold MQ at hex
 split at hex
 ·rename_i k m k' n
  have e1:=Db (X:= .un) hx
  have e2:=Db (X:= .un) hy
  split at hex
  ·rename_i b hb
   simp only[vr,yE,Prod.mk.injEq] at hex
   obtain⟨rfl,rfl,rfl⟩:=hex
   subst hvc
   refine Step.quiet h (v:= .bool b) ?_ (by simp[Rep])
   have g1:=KQ (P:=P) op t x y k k m n σ.w
   have g2:=Vs (P:=P) hb k t σ.w
   simp[execOp,ho,e1,e2,g1,g2]
  ·split at hex
   ·rename_i p z hz
    simp only[vr,yE,Prod.mk.injEq] at hex
    obtain⟨rfl,rfl,rfl⟩:=hex
    obtain⟨rfl,hp'⟩:=hvc
    refine Step.quiet h (v:= .int k z) ?_ (by simp[Rep])
    have g1:=KQ (P:=P) op t x y k k m n σ.w
    have g2:=XF (P:=P) hz hp' t σ.w
    simp[execOp,ho,e1,e2,g1,g2]
   ·simp[vr] at hex
 ·rename_i b1 b2
  have e1:a.eval x= .bool b1:=by simpa [Rep] using hx
  have e2:a.eval y= .bool b2:=by simpa [Rep] using hy
  have hu:P.underlying t=some .bool:=by
   rcases hop with hop|hop
   ·rw[htk] at hop;simp at hop
   ·exact hop.2
  have heq:∀w,(Op.equal t (.bool b1) (.bool b2)).run P w= .ok (b1==b2) w:=by
   intro w
   exact Vt hu 9999 b1 b2 w
  have g1:=fun op=>Rn (P:=P) op t x y b1 b2 σ.w
  split at hex
  ·simp only[vr,yE,Prod.mk.injEq] at hex
   obtain⟨rfl,rfl,rfl⟩:=hex
   refine Step.quiet h (v:= .bool (b1==b2)) ?_ (by simp[Rep])
   simp[execOp,ho,e1,e2,g1,binOp,heq]
  ·simp only[vr,yE,Prod.mk.injEq] at hex
   obtain⟨rfl,rfl,rfl⟩:=hex
   refine Step.quiet h (v:= .bool (b1 !=b2)) ?_ (by simp[Rep])
   simp[execOp,ho,e1,e2,g1,binOp,heq,bne]
  ·simp[vr] at hex
 ·simp[vr] at hex
theorem P9 {w:Bool} (h:HInv σ hp) {t yt:TypeId} {op:BinOp} {x y:Operand} {X Y:AV} (ho:o.op= .binOp op t x y yt) (hop:En P op t (opd x) (opd y)= .bin op .int (opd x) (opd y)∨En P op t (opd x) (opd y)= .bin op .bool (opd x) (opd y)∧P.underlying t=some .bool)
  {tk:TK} (htk:En P op t (opd x) (opd y)= .bin op tk (opd x) (opd y)) (hx:Rep σ X (a.eval x)) (hy:Rep σ Y (a.eval y)) (hex:vr (Oa w op tk X Y)=some (vc,r,ws)) (hvc:vc):Step P o a σ nm (ws++hp) r:=by
 cases w with
 |false=>exact ND h ho hop htk hx hy hex hvc
 |true=>
  simp only[Oa,cond_true] at hex
  unfold Ra at hex
  split at hex
  ·rename_i k m k' n
   split at hex
   ·rename_i z hz
    simp only[vr,yE,Prod.mk.injEq] at hex
    obtain⟨rfl,rfl,rfl⟩:=hex
    subst hvc
    have e1:=Db (X:= .un) hx
    have e2:=Db (X:= .un) hy
    refine Step.quiet h (v:= .int k z) ?_ (by simp[Rep])
    have g1:=KQ (P:=P) op t x y k k m n σ.w
    have g2:(binOp op t (.int k m) (.int k n)).run P σ.w= .ok (.int k z) σ.w:=by
     cases op<;>simp only[TW,yE,reduceCtorEq] at hz<;>subst hz<;>simp[binOp,Op.intArith]
    simp[execOp,ho,e1,e2,g1,g2]
   ·exact ND h ho hop htk hx hy hex hvc
  ·exact ND h ho hop htk hx hy hex hvc
end
section
variable {P:Program} {o:Oper} {a:Act} {σ:Cf} {nm:Nm} {hp:Hp} {r:AV} {vc:Prop} {ws:Hp}
theorem Ro (off:Nat):∀(l:List Value) (k:Nat) (cs:Array Value),off+k+l.length≤cs.size→
  ((l.zipIdx k).foldl (fun(cs:Array Value) (p:Value×Nat)=>cs.setIfInBounds (off+p.2) p.1) cs).size=cs.size∧
  ∀j,((l.zipIdx k).foldl (fun(cs:Array Value) (p:Value×Nat)=>cs.setIfInBounds (off+p.2) p.1) cs)[j]? =if off+k≤j∧j<off+k+l.length then l[j-(off+k)]? else cs[j]?
 |[],k,cs,_=>⟨rfl,fun j=>by simp;omega⟩
 |x::l,k,cs,h=>by
  simp only[List.zipIdx_cons,List.foldl_cons]
  simp only[List.length_cons] at h
  obtain⟨h1,h2⟩:=Ro off l (k+1) (cs.setIfInBounds (off+k) x) (by simp;omega)
  refine⟨by rw[h1];simp,fun j=> ?_⟩
  rw[h2 j]
  simp only[List.length_cons,Array.getElem?_setIfInBounds]
  by_cases hj:off+k=j
  ·subst hj
   have hne:¬(off+(k+1)≤off+k∧off+k<off+(k+1)+l.length):=by omega
   have hlt:off+k<cs.size:=by omega
   rw[if_neg hne,if_pos (by omega)]
   simp[hlt]
  ·by_cases h1:off+(k+1)≤j∧j<off+(k+1)+l.length
   ·rw[if_pos h1,if_pos (by omega)]
    have:j-(off+k)=(j-(off+(k+1)))+1:=by omega
    rw[this];simp
   ·have hne:¬(off+k≤j∧j<off+k+(l.length+1)):=by omega
    rw[if_neg h1,if_neg hne,if_neg hj]
theorem Vw {cs ds rs:List AV} {off:Nat} {cells xs:Array Value} (h:FP cs off ds=some rs) (hc:RepL σ cs cells.toList) (h1:∀x∈cells.toList,Bq x=true) (hd:RepL σ ds xs.toList) (h2:∀x∈xs.toList,Bq x=true):
  off+xs.size≤cells.size∧RepL σ rs (xs.zipIdx.foldl (fun(cs:Array Value) (p:Value×Nat)=>cs.setIfInBounds (off+p.2) p.1) cells).toList∧
   ∀x∈(xs.zipIdx.foldl (fun(cs:Array Value) (p:Value×Nat)=>cs.setIfInBounds (off+p.2) p.1) cells).toList,Bq x=true:=by
 obtain⟨q1,q2,q3⟩:=Kz h
 have l1:=Bz hc
 have l2:=Bz hd
 simp only[Array.length_toList] at l1 l2
 have hle:off+xs.size≤cells.size:=by omega
 obtain⟨f1,f2⟩:=Ro off xs.toList 0 cells (by simpa using hle)
 have hz:xs.zipIdx.foldl (fun(cs:Array Value) (p:Value×Nat)=>cs.setIfInBounds (off+p.2) p.1) cells=
   (xs.toList.zipIdx 0).foldl (fun(cs:Array Value) (p:Value×Nat)=>cs.setIfInBounds (off+p.2) p.1) cells:=by
  rw[←Array.foldl_toList,Array.toList_zipIdx]
 rw[hz]
 generalize (xs.toList.zipIdx 0).foldl (fun(cs:Array Value) (p:Value×Nat)=>cs.setIfInBounds (off+p.2) p.1) cells=res at f1 f2
 simp only[Nat.add_zero,Array.length_toList] at f2
 refine⟨hle,JW (by simp;omega) fun j c hj=> ?_,fun x hx=> ?_⟩
 ·rw[q3] at hj
  rw[Array.getElem?_toList,f2]
  by_cases hin:off≤j∧j<off+xs.size
  ·rw[if_pos hin]
   rw[if_pos (by omega)] at hj
   exact Ds hd _ c hj
  ·rw[if_neg hin]
   rw[if_neg (by omega)] at hj
   simpa using Ds hc j c hj
 ·obtain⟨j,hj,rfl⟩:=List.mem_iff_getElem.1 hx
  simp only[Array.length_toList] at hj
  have hg:=f2 j
  rw[Array.getElem?_eq_getElem hj] at hg
  simp only[Array.getElem_toList]
  by_cases hin:off≤j∧j<off+xs.size
  ·rw[if_pos hin] at hg
   exact h2 _ (List.mem_of_getElem? hg.symm)
  ·rw[if_neg hin] at hg
   exact h1 _ (by rw[Array.mem_toList_iff];exact Array.mem_of_getElem? hg.symm)
theorem Lr {pf:Nat→Option (Nat×Nat)}:∀{qs:List (Nat×Operand)} {ps:List (Nat×Nat×Opd)} {f:Opd→AV} {zs cs:List AV} {cells:Array Value},Jn pf qs=some ps→(∀p∈qs,Rep σ (f (opd p.2)) (a.eval p.2))→
  JG zs (ps.map fun(o,s,x)=>(o,s,f x))=some cs→RepL σ zs cells.toList→(∀x∈cells.toList,Bq x=true)→
  ∃cells',Instr.fill pf cells (qs.map fun(i,x)=>(i,a.eval x))=some cells'∧RepL σ cs cells'.toList∧∀x∈cells'.toList,Bq x=true
 |[],ps,f,zs,cs,cells,hp,_,hf,hz,h1=>by
  simp[Jn] at hp;subst hp
  simp[JG] at hf;subst hf
  exact⟨cells,by simp[Instr.fill],hz,h1⟩
 |(i,x)::qs,ps,f,zs,cs,cells,hp,hr,hf,hz,h1=>by
  simp only[Jn] at hp
  split at hp
  ·rename_i off s ps' hpf hps
   simp at hp;subst hp
   simp only[List.map_cons,JG] at hf
   split at hf
   ·rename_i xs hxs
    split at hf
    ·rename_i hlen
     split at hf
     ·rename_i cs' hov
      have hrx:Rep σ (f (opd x)) (a.eval x):=hr (i,x) (by simp)
      obtain⟨g1,g2⟩:=Mf hxs hrx
      have hl:=Bz g1
      obtain⟨k1,k2,k3⟩:=Vw hov hz h1 g1 g2
      obtain⟨cells',m1,m2,m3⟩:=Lr hps (fun p hp=>hr p (by simp[hp])) hf k2 k3
      refine⟨cells', ?_,m2,m3⟩
      simp only[List.map_cons,Instr.fill,hpf]
      simp only[Array.length_toList] at hl
      rw[if_neg (by simp;omega)]
      exact m1
     ·simp at hf
    ·simp at hf
   ·simp at hf
  ·simp at hp
theorem Ub (h:HInv σ hp) {t:TypeId} {parts:Array (Nat×Operand)} {zs:List AV} {ps:List (Nat×Nat×Opd)} {pf:Nat→Option (Nat×Nat)} {f:Opd→AV} (ho:o.op= .build t parts)
  (hz:G2 P t=some zs) (hpf:Pv P t=some pf) (hps:Jn pf parts.toList=some ps) (hr:∀x,Rep σ (f (opd x)) (a.eval x))
  (hex:JV zs (ps.map fun(o,s,x)=>(o,s,f x))=some (vc,r,ws)):Step P o a σ nm (ws++hp) r:=by
 unfold JV at hex
 split at hex
 ·rename_i cs hcs
  simp only[yE,Prod.mk.injEq] at hex
  obtain⟨_,rfl,rfl⟩:=hex
  obtain⟨i,z,e1,e2,e3,e4,rfl⟩:=G3 hz
  obtain⟨cells',m1,m2,m3⟩:=Lr hps (fun p _=>hr p.2) hcs (J6 σ z.cells.toList) e3
  refine Step.quiet h (v:= .agg cells') ?_ (by simp only[Rep];exact⟨cells'.toList,by simp,m3,m2⟩)
  have hb:P.built t (parts.map fun(i,x)=>(i,a.eval x)).toList=some cells':=by
   unfold Program.built
   unfold Pv at hpf
   rw[Array.toList_map]
   split at hpf
   ·rename_i fs hu
    cases hm:fs.toList.mapM (fun f=>(P.info? f.type).map fun i=>(f.offset,i.size)) with
    |none=>simp[hm] at hpf
    |some pl=>
     simp[hm] at hpf
     subst hpf
     simp only[e1,hu,e2,hm]
     simpa using m1
   ·rename_i n e hu
    cases hm:P.info? e with
    |none=>simp[hm] at hpf
    |some j=>
     simp[hm] at hpf
     subst hpf
     simp only[e1,hu,e2,hm]
     simpa using m1
   ·simp at hpf
  have:=run_build (P:=P) σ.w t _ cells' hb
  simp[execOp,ho,this]
 ·simp at hex
theorem Rp:∀(xs cs ds rs:List AV) (k:Nat),FP cs k ds=some rs→FP (xs++cs) (xs.length+k) ds=some (xs++rs)
 |[],cs,ds,rs,k,h=>by simpa using h
 |x::xs,cs,ds,rs,k,h=>by
  have:=Rp xs cs ds rs k h
  rw[show(x::xs).length+k=(xs.length+k)+1 from by simp;omega]
  simp[FP,this]
theorem Rq:∀(xs ds cs:List AV),xs.length=ds.length→FP (xs++cs) 0 ds=some (ds++cs)
 |[],[],cs,_=>by cases cs<;>simp[FP]
 |[],_::_,_,h=>by simp at h
 |_::_,[],_,h=>by simp at h
 |x::xs,d::ds,cs,h=>by simp[FP,Rq xs ds cs (by simpa using h)]
theorem Mh {sz:Nat}:∀(rows:List (List AV)) (i:Nat) (xs:List AV),(∀r∈rows,r.length=sz)→xs.length=sz→i<rows.length→FP rows.flatten (i*sz) xs=some (rows.set i xs).flatten
 |[],i,xs,_,_,h=>by simp at h
 |r::rows,0,xs,hr,hx,_=>by
  simp only[List.flatten_cons,Nat.zero_mul,List.set_cons_zero]
  exact Rq _ _ _ (by rw[hr r (by simp),hx])
 |r::rows,i+1,xs,hr,hx,h=>by
  simp only[List.flatten_cons,List.set_cons_succ]
  rw[Nat.succ_mul,Nat.add_comm,←hr r (by simp)]
  refine Rp _ _ _ _ _ ?_
  rw[hr r (by simp)]
  exact Mh rows i xs (fun r' h'=>hr r' (by simp[h'])) hx (by simpa using h)
theorem Nq {sz:Nat}:∀{ps:List (Nat×AV)} {rows rows':List (List AV)},MR sz rows ps=some rows'→(∀r∈rows,r.length=sz)→
  JG rows.flatten (ps.map fun(i,x)=>(i*sz,sz,x))=some rows'.flatten∧(∀r∈rows',r.length=sz)∧rows'.length=rows.length
 |[],rows,rows',h,hr=>by
  simp[MR] at h;subst h
  exact⟨by simp[JG],hr,rfl⟩
 |(i,x)::ps,rows,rows',h,hr=>by
  simp only[MR] at h
  split at h
  ·rename_i xs hxs
   split at h
   ·rename_i hc
    obtain⟨h1,h2,h3⟩:=Nq h (fun r hr'=>by
     rcases List.mem_or_eq_of_mem_set hr' with hr'|rfl
     ·exact hr r hr'
     ·exact hc.1)
    refine⟨?_,h2,by rw[h3];simp⟩
    simp only[List.map_cons,JG,hxs,hc.1,if_true,Mh rows i xs hr hc.1 hc.2]
    exact h1
   ·simp at h
  ·simp at h
theorem Lt {zs:List AV} {sz:Nat} (hz:zs.length=sz) (h0:0<sz):∀(len j:Nat),(List.replicate len zs).flatten[j]? =if j<len*sz then zs[j%sz]? else none
 |0,j=>by simp
 |len+1,j=>by
  simp only[List.replicate_succ,List.flatten_cons]
  by_cases hj:j<zs.length
  ·rw[List.getElem?_append_left hj,Nat.mod_eq_of_lt (by omega),if_pos (by rw[Nat.succ_mul];omega)]
  ·rw[List.getElem?_append_right (by omega),Lt hz h0 len,hz]
   have hm:(j-sz)%sz=j%sz:=(Nat.mod_eq_sub_mod (by omega)).symm
   rw[hm]
   by_cases hl:j-sz<len*sz
   ·rw[if_pos hl,if_pos (by rw[Nat.succ_mul];omega)]
   ·rw[if_neg hl,if_neg (by rw[Nat.succ_mul];omega)]
theorem Nr {sz:Nat}:∀{rows:List (List AV)},(∀r∈rows,r.length=sz)→rows.flatten.length=rows.length*sz
 |[],_=>by simp
 |r::rs,h=>by
  have:=Nr (rows:=rs) (fun r hr=>h r (by simp[hr]))
  simp only[List.flatten_cons,List.length_append,List.length_cons,Nat.succ_mul,this,h r (by simp)]
  omega
theorem Rr {n:Nm}:∀{xs:List AV} {x:AV},x∈xs→n∈ons x→n∈B8 xs
 |y::ys,x,hx,hn=>by
  simp only[B8,List.mem_append]
  rcases List.mem_cons.1 hx with rfl|hx
  ·exact .inl hn
  ·exact .inr (Rr hx hn)
theorem Rs:∀{xs:List AV} {x:AV},D3 hp xs→x∈xs→rvc hp x
 |y::ys,x,h,hx=>by
  simp only[D3] at h
  rcases List.mem_cons.1 hx with rfl|hx
  ·exact h.1
  ·exact Rs h.2 hx
theorem Rt:∀{xs:List AV} {x:AV},E8 xs=true→x∈xs→nob x=true
 |y::ys,x,h,hx=>by
  simp only[E8,Bool.and_eq_true] at h
  rcases List.mem_cons.1 hx with rfl|hx
  ·exact h.1
  ·exact Rt h.2 hx
theorem XH (h:HInv σ hp) (hnm:¬σ.al nm) {t e:TypeId} {len:Nat} {parts:Array (Nat×Operand)} {zs:List AV} {i:TypeInfo} {f:Opd→AV} (ho:o.op= .buildSlice t len parts) (ht:P.underlying t=some (.slice e)) (hi:P.info? e=some i)
  (hz:G2 P e=some zs) (h0:0<i.size∧len*i.size≤16777216) (hr:∀x,Rep σ (f (opd x)) (a.eval x))
  (hex:Jf hp nm i.size len zs ((parts.toList.map fun(j,x)=>(j,opd x)).map fun(j,x)=>(j,f x))=some (vc,r,ws)) (hvc:vc):Step P o a σ nm (ws++hp) r:=by
 unfold Jf at hex
 split at hex
 case h_2=>simp at hex
 rename_i rows hrows
 simp only[yE,Prod.mk.injEq] at hex
 obtain⟨rfl,rfl,rfl⟩:=hex
 obtain⟨v1,v2,v3⟩:=hvc
 obtain⟨i',z,e1,e2,e3,e4,e5⟩:=G3 hz
 rw[hi] at e1;cases e1
 generalize hps:((parts.toList.map fun(j,x)=>(j,opd x)).map fun(j,x)=>(j,f x))=ps at*
 obtain⟨σ1,f1,f2,f3,f4,f5,f6,f7,f8⟩:=h.frz (B8 (ps.map (·.2)))
 have hzl:zs.length=i.size:=by rw[e5];simp[e4]
 have hrep:∀p∈parts.toList,Rep σ1 (res hp (f (opd p.2))) (a.eval p.2):=by
  intro p hp'
  have hm:f (opd p.2)∈ps.map (·.2):=by
   rw[←hps]
   simp only[List.map_map,List.mem_map]
   exact⟨p,hp',rfl⟩
  exact K0 h f1 f3 _ f7 _ _ (Rs v1 hm) (Rt v2 hm) (fun n hn=>Rr hm hn) (hr p.2)
 have hcp:∀qs:List (Nat×Operand),Jn (fun j=>some (j*i.size,i.size)) qs=some (qs.map fun(j,x)=>(j*i.size,i.size,opd x)):=by
  intro qs
  induction qs with
  |nil=>rfl
  |cons q qs ih=>obtain⟨j,x⟩:=q;simp[Jn,ih]
 obtain⟨g1,g2,g3⟩:=Nq hrows (fun r hr'=>by rw[List.eq_of_mem_replicate hr'];exact hzl)
 have hcells:RepL σ1 (List.replicate len zs).flatten ((Array.range (len*i.size)).map (z.cells[·%z.cells.size]!)).toList:=by
  refine JW (by simp[hzl]) fun j c hj=> ?_
  rw[Lt hzl h0.1] at hj
  split at hj
  ·rename_i hlt
   have hm:j%i.size<i.size:=Nat.mod_lt _ h0.1
   rw[e5,List.getElem?_map] at hj
   refine⟨z.cells[j%i.size]!, ?_, ?_⟩
   ·simp[hlt,e4]
   ·rw[←e4] at hm
    simp only[e4] at hm hj
    cases hzc:z.cells.toList[j%i.size]? with
    |none=>rw[hzc] at hj;simp at hj
    |some x=>
     rw[hzc] at hj;simp at hj;subst hj
     have:z.cells[j%i.size]! =x:=by
      simp at hzc
      rw[getElem!_def]
      simp[hzc]
     rw[this];exact JY σ1 x
  ·simp at hj
 have hone:∀x∈((Array.range (len*i.size)).map (z.cells[·%z.cells.size]!)).toList,Bq x=true:=by
  intro x hx
  simp only[Array.toList_map,List.mem_map] at hx
  obtain⟨j,_,rfl⟩:=hx
  have hm:j%z.cells.size<z.cells.size:=Nat.mod_lt _ (by omega)
  have hg:z.cells[j%z.cells.size]! =z.cells[j%z.cells.size]'hm:=getElem!_pos z.cells _ hm
  exact e3 _ (by rw[hg,Array.mem_toList_iff];exact Array.getElem_mem hm)
 have hfm:(parts.toList.map fun(j,x)=>(j*i.size,i.size,opd x)).map (fun(o,s,x)=>(o,s,res hp (f x)))=(ps.map fun(j,x)=>(j,res hp x)).map fun(j,x)=>(j*i.size,i.size,x):=by
  rw[←hps];simp[List.map_map,Function.comp_def]
 obtain⟨cells',m1,m2,m3⟩:=Lr (σ:=σ1) (f:=fun x=>res hp (f x)) (hcp parts.toList) hrep (by rw[hfm];exact g1) hcells hone
 have hrl:rows.length=len:=by rw[g3];simp
 have hnm1:¬σ1.al nm:=fun hc=>hnm (f4 nm hc)
 have hml:=Bz m2
 have hfl:=Nr g2
 obtain⟨k1,k2⟩:=f2.newArr (d:=zs) (us:=[]) (T:=e) hnm1 h0.1 m2 m3 g2 (fun r hr=>List.all_eq_true.1 v3 r hr) (Nat.le_refl _) (by rw[List.append_nil,hml,hfl];exact Nat.le_refl _)
 rw[List.append_nil,Array.toArray_toList,f3] at k1 k2
 refine .inl ⟨.slice (some ⟨σ.w.heap.size,0,none⟩) len len,_,_,.inl ?_,⟨f1.trans k1,k2,rfl,fun m hm=>hm.elim (fun h=> .inl (f4 m h)) .inr⟩, ?_⟩
 ·have hfill:Instr.fill (fun j=>some (j*i.size,i.size)) ((Array.range (len*i.size)).map (z.cells[·%z.cells.size]!)) (parts.map fun(j,x)=>(j,a.eval x)).toList=some cells':=by
   rw[Array.toList_map];exact m1
  have h24:¬(2^24<len*i.size):=by have:=h0.2;omega
  by_cases hl0:len*i.size=0
  ·have hr0:(Array.range (len*i.size)).map ((#[]:Array Value)[·%(#[]:Array Value).size]!)=(Array.range (len*i.size)).map (z.cells[·%z.cells.size]!):=by simp[hl0]
   rw[←hr0] at hfill
   simp[execOp,ho,Instr.buildSlice,run_underlying ht,Dw hi,h24,hl0]
   simp[hl0] at hfill
   simp[hfill,newRow,newObj,Sem.run,Cf.setArr]
  ·simp[execOp,ho,Instr.buildSlice,run_underlying ht,Dw hi,h24,hl0,zeroValue,typeInfo,hi,e2]
   simp at hfill
   simp[hfill,newRow,newObj,Sem.run,Cf.setArr]
 ·simp[Rep,Cf.setArr,Bq,hrl]
theorem SL {P:Program} {w:World} (t tx ty e:TypeId) (i:TypeInfo) (z:Value) {kk:IntKind} (ht:P.underlying t=some (.slice e)) (hx:P.underlying tx=some (.int kk)) (hi:P.info? e=some i) (hz:i.zero=some z)
  (sb:Option Addr) (n:Int) (hn:0<n) (hb:n*i.bytes≤140737488355328) (hb0:0<i.bytes) (hs0:0<i.size):
  (Builtin.append_ #[t,tx] ty #[.slice sb 0 0,.int .i64 n]).run P w=
   .ok (.slice (some ⟨w.heap.size,0,none⟩) n.toNat (grownCap w n.toNat 0 e)) (w.drew.alloc (.cells (Builtin.zeroCells z.cells n.toNat++Builtin.zeroCells z.cells (grownCap w n.toNat 0 e-n.toNat)) e)):=by
 have hnb:n≤n*i.bytes:=by
  have:=Int.mul_le_mul_of_nonneg_left (a:=(1:Int)) (b:=(i.bytes:Int)) (c:=n) (by omega) (by omega)
  omega
 have hw:IntKind.i64.wrap n=n:=Hv (k:= .i64) ⟨by omega,by omega⟩
 have h0:¬n<0:=by omega
 have h1:¬n.toNat≤0:=by omega
 have hpos:¬n≤0:=by omega
 have hne:¬n.toNat=0:=by omega
 have h48:¬(281474976710656<n*i.bytes):=by omega
 have h63:¬(9223372036854775807<(n.toNat:Int)):=by omega
 have h63':¬(9223372036854775807<max n 0):=by omega
 have hb':n.toNat*i.bytes≤140737488355328:=by
  have:((n.toNat*i.bytes:Nat):Int)=n*i.bytes:=by rw[Int.natCast_mul,Int.toNat_of_nonneg (by omega)]
  omega
 have h48':¬(281474976710656<Builtin.nextslicecap n.toNat 0*i.bytes):=by have:=growslice_fits (bytes:=i.bytes) (need:=n.toNat) (old:=0) (by omega) hb';omega
 have hs:¬i.size=0:=by omega
 have hf:∀w:World,(Builtin.firstCells i.size 0 (.slice sb 0 0)).run P w= .ok #[] w:=fun w=>GE (P:=P) (w:=w) (base:=sb) (vs:=[]) (.inl rfl) i.size 0 0 0 (by simp)
 simp[Builtin.append_,run_underlying ht,run_underlying hx,sizeOf,typeInfo,zeroValue,hi,hz,hw,h0,h1,hpos,hne,h48,h63,h63',h48',hs,Question.forced,hf,newRow,grownCap,asInt,asIntOf]
 intro h;exact absurd h (Nat.ne_of_gt (Nat.mul_pos (by omega) hs0))
theorem Vx (h:HInv σ hp) (hnm:¬σ.al nm) {c:Call} {s x:Operand} {X Y:AV} {t t' e:TypeId} {kk:IntKind} {i:TypeInfo} {zs:List AV} (ho:o.op= .call c) (hc:c.callee= .builtin .append) (ha:c.args.toList=[s,x]) (hat:c.argTypes.toList=[t,t'])
  (ht:P.underlying t=some (.slice e)) (ht':P.underlying t'=some (.int kk)) (hi:P.info? e=some i) (hz:G2 P e=some zs) (h0:0<i.size∧0<i.bytes) (hx:Rep σ X (a.eval s)) (hy:Rep σ Y (a.eval x))
  (hex:Ob nm i.size i.bytes zs X Y=some (vc,r,ws)) (hvc:vc):Step P o a σ nm (ws++hp) r:=by
 have ha':c.args= #[s,x]:=Array.toList_inj.1 ha
 have hat':c.argTypes= #[t,t']:=Array.toList_inj.1 hat
 obtain⟨i',z,e1,e2,e3,e4,e5⟩:=G3 hz
 rw[hi] at e1
 cases e1
 unfold Ob at hex
 split at hex
 ·rename_i sz0 d0 k n
  simp only[yE,Prod.mk.injEq] at hex
  obtain⟨rfl,rfl,rfl⟩:=hex
  obtain⟨rfl,v1,v2⟩:=hvc
  simp only[Rep] at hx
  obtain⟨base,cap,q1,_,q3,_⟩:=hx
  have hc0:=q3 trivial
  simp at hc0
  subst hc0
  have q2:=Db (X:= .un) hy
  have hrun:=SL (P:=P) (w:=σ.w) t t' o.type e i z ht ht' hi e2 base n v1 v2 h0.2 h0.1
  obtain⟨len,hlen⟩:∃len,n.toNat=len:=⟨_,rfl⟩
  rw[hlen] at hrun⊢
  have hzl:zs.length=i.size:=by rw[e5];simp[e4]
  have hw:∀(b:Nat) (o:Obj),σ.w.heap[b]? =some o→σ.w.drew.heap[b]? =some o:=fun b o hb=>hb
  have h':=h.at hw ⟨rfl,rfl⟩
  have e':Evo σ (σ.at σ.w.drew):=Evo.at hw ⟨rfl,rfl⟩
  have hcells:RepL (σ.at σ.w.drew) (List.replicate len zs).flatten (Builtin.zeroCells z.cells len).toList:=by
   unfold Builtin.zeroCells
   refine JW (by simp[hzl,e4]) fun j c hj=> ?_
   rw[Lt hzl h0.1] at hj
   split at hj
   ·rename_i hlt
    have hm:j%i.size<i.size:=Nat.mod_lt _ h0.1
    rw[e5,List.getElem?_map] at hj
    refine⟨z.cells[j%i.size]!, ?_, ?_⟩
    ·simp[hlt,e4]
    ·rw[←e4] at hm
     simp only[e4] at hm hj
     cases hzc:z.cells.toList[j%i.size]? with
     |none=>rw[hzc] at hj;simp at hj
     |some x=>
      rw[hzc] at hj;simp at hj;subst hj
      have:z.cells[j%i.size]! =x:=by
       simp at hzc
       rw[getElem!_def]
       simp[hzc]
      rw[this];exact JY _ x
   ·simp at hj
  have hone:∀x∈(Builtin.zeroCells z.cells len).toList,Bq x=true:=by
   intro x hx
   unfold Builtin.zeroCells at hx
   simp only[Array.toList_map,List.mem_map] at hx
   obtain⟨j,_,rfl⟩:=hx
   have hm:j%z.cells.size<z.cells.size:=Nat.mod_lt _ (by omega)
   have hg:z.cells[j%z.cells.size]! =z.cells[j%z.cells.size]'hm:=getElem!_pos z.cells _ hm
   exact e3 _ (by rw[hg,Array.mem_toList_iff];exact Array.getElem_mem hm)
  have hcg:=No σ.w len 0 e
  have hpz:AB zs=true:=by
   rw[e5]
   have:∀l:List Value,AB (l.map ofC)=true:=by
    intro l
    induction l with
    |nil=>rfl
    |cons v l ih=>
     simp only[List.map_cons,AB,ih,Bool.and_true]
     unfold ofC
     split<;>rfl
   exact this _
  obtain⟨k1,k2⟩:=h'.newArr (n:=nm) (d:=zs) (rows:=List.replicate len zs) (vs:=(Builtin.zeroCells z.cells len).toList) (us:=(Builtin.zeroCells z.cells (grownCap σ.w len 0 e-len)).toList) (T:=e) (cap:=grownCap σ.w len 0 e) hnm h0.1 hcells hone
   (fun r hr=>by rw[List.eq_of_mem_replicate hr];exact hzl) (fun r hr=>by rw[List.eq_of_mem_replicate hr];exact hpz) (by simpa using hcg)
   (by rw[List.length_append];simp only[Array.length_toList,size_zeroCells,e4,←Nat.add_mul];exact Nat.mul_le_mul_right _ (by omega))
  have hblk:(Builtin.zeroCells z.cells len++Builtin.zeroCells z.cells (grownCap σ.w len 0 e-len))=((Builtin.zeroCells z.cells len).toList++(Builtin.zeroCells z.cells (grownCap σ.w len 0 e-len)).toList).toArray:=by
   apply Array.ext';simp
  refine .inl ⟨.slice (some ⟨σ.w.heap.size,0,none⟩) len (grownCap σ.w len 0 e),σ.w.drew.alloc (.cells (Builtin.zeroCells z.cells len++Builtin.zeroCells z.cells (grownCap σ.w len 0 e-len)) e),_,.inl ?_,⟨e'.trans k1,k2, ?_,fun m hm=>hm⟩, ?_⟩
  ·simp[execOp,ho,resolve,hc,invoke,builtin,ha',hat',q1,q2,hrun]
  ·simp only[Cf.setArr,Cf.at];rw[hblk]
  ·simp[Rep,Cf.setArr,Bq,Cf.at]
 ·simp at hex
theorem XI (h:HInv σ hp) (hnm:¬σ.al nm) {x y:Operand} {X Y:AV} {t e:TypeId} {i:TypeInfo} {zs:List AV} (ho:o.op= .makeSlice t x y)
  (ht:P.underlying t=some (.slice e)) (hi:P.info? e=some i) (hz:G2 P e=some zs) (h0:0<i.size∧0<i.bytes) (hx:Rep σ X (a.eval x)) (hy:Rep σ Y (a.eval y))
  (hex:QL nm i.size i.bytes zs X Y=some (vc,r,ws)) (hvc:vc):Step P o a σ nm (ws++hp) r:=by
 obtain⟨i',z,e1,e2,e3,e4,e5⟩:=G3 hz
 rw[hi] at e1
 cases e1
 unfold QL at hex
 split at hex
 ·rename_i k n k' c
  simp only[yE,Prod.mk.injEq] at hex
  obtain⟨rfl,rfl,rfl⟩:=hex
  obtain⟨rfl,v1,v2,v3⟩:=hvc
  have q1:=Db (X:= .un) hx
  have q2:=Db (X:= .un) hy
  have hrun:=run_make (P:=P) σ.w t e i z ht hi e2 k k' n n (by omega) (Int.le_refl _) (by rw[Int.mul_comm];omega) v3
  obtain⟨len,hlen⟩:∃len,n.toNat=len:=⟨_,rfl⟩
  rw[hlen] at hrun⊢
  have hzl:zs.length=i.size:=by rw[e5];simp[e4]
  have hcells:RepL σ (List.replicate len zs).flatten (Builtin.zeroCells z.cells len).toList:=by
   unfold Builtin.zeroCells
   refine JW (by simp[hzl,e4]) fun j c hj=> ?_
   rw[Lt hzl h0.1] at hj
   split at hj
   ·rename_i hlt
    have hm:j%i.size<i.size:=Nat.mod_lt _ h0.1
    rw[e5,List.getElem?_map] at hj
    refine⟨z.cells[j%i.size]!, ?_, ?_⟩
    ·simp[hlt,e4]
    ·rw[←e4] at hm
     simp only[e4] at hm hj
     cases hzc:z.cells.toList[j%i.size]? with
     |none=>rw[hzc] at hj;simp at hj
     |some x=>
      rw[hzc] at hj;simp at hj;subst hj
      have:z.cells[j%i.size]! =x:=by
       simp at hzc
       rw[getElem!_def]
       simp[hzc]
      rw[this];exact JY _ x
   ·simp at hj
  have hone:∀x∈(Builtin.zeroCells z.cells len).toList,Bq x=true:=by
   intro x hx
   unfold Builtin.zeroCells at hx
   simp only[Array.toList_map,List.mem_map] at hx
   obtain⟨j,_,rfl⟩:=hx
   have hm:j%z.cells.size<z.cells.size:=Nat.mod_lt _ (by omega)
   have hg:z.cells[j%z.cells.size]! =z.cells[j%z.cells.size]'hm:=getElem!_pos z.cells _ hm
   exact e3 _ (by rw[hg,Array.mem_toList_iff];exact Array.getElem_mem hm)
  have hpz:AB zs=true:=by
   rw[e5]
   have:∀l:List Value,AB (l.map ofC)=true:=by
    intro l
    induction l with
    |nil=>rfl
    |cons v l ih=>
     simp only[List.map_cons,AB,ih,Bool.and_true]
     unfold ofC
     split<;>rfl
   exact this _
  have hmk:madeCells z.cells (len*i.size)=Builtin.zeroCells z.cells len:=by unfold madeCells Builtin.zeroCells;rw[e4]
  rw[hmk] at hrun
  obtain⟨k1,k2⟩:=h.newArr (n:=nm) (d:=zs) (rows:=List.replicate len zs) (vs:=(Builtin.zeroCells z.cells len).toList) (us:=[]) (T:=e) (cap:=len) hnm h0.1 hcells hone
   (fun r hr=>by rw[List.eq_of_mem_replicate hr];exact hzl) (fun r hr=>by rw[List.eq_of_mem_replicate hr];exact hpz) (by simp)
   (by simp[size_zeroCells,e4])
  rw[List.append_nil,Array.toArray_toList] at k1 k2
  refine .inl ⟨.slice (some ⟨σ.w.heap.size,0,none⟩) len len,_,_,.inl ?_,⟨k1,k2,rfl,fun m hm=>hm⟩, ?_⟩
  ·simp[execOp,ho,q1,q2,hrun,Cf.setArr]
  ·simp[Rep,Cf.setArr,Bq]
 ·simp at hex
theorem Jo {X:AV} {v:Value} {n:Int} (hx:Rep σ X v) (ha:asI X=some n) (y:Nat) (code:BoundsCode) (h0:0≤n) (h1:n≤y) (w:World):(Instr.sliceBound v y code).run P w= .ok n.toNat w:=by
 unfold asI at ha
 split at ha
 ·rename_i k m
  simp at ha;subst ha
  have e:=Db (X:= .un) hx
  simp[Instr.sliceBound,e,asIntOf,h0,h1]
 ·simp at ha
theorem Mi {full:Bool} {rows rs:List (List AV)} {lo hi mx:Option AV} {lv hv mv:Option Value} {f:Bool} {p:Prop} {cap:Nat} (hex:Ma full rows lo hi mx=some (p,f,rs)) (hp:p)
  (hlo:∀x,lo=some x→∃v,lv=some v∧Rep σ x v) (hlo':lo=none→lv=none) (hhi:∀x,hi=some x→∃v,hv=some v∧Rep σ x v) (hhi':hi=none→hv=none) (hmx:∀x,mx=some x→∃v,mv=some v∧Rep σ x v) (hmx':mx=none→mv=none)
  (hcap:rows.length≤cap) (hfull:full=true→cap=rows.length):
  ∃l h m:Nat,(Instr.sliceBounds true rows.length cap lv hv mv).run P σ.w= .ok (l,h,m) σ.w∧l≤h∧h≤m∧m≤cap∧h≤rows.length∧rs=(rows.drop l).take (h-l)∧(f=true→m=h):=by
 have low:∀(n:Int) (h:Nat) (c:BoundsCode),loB lo=some n→0≤n→n≤h→(lv=none∧n=0)∨∃v,lv=some v∧(Instr.sliceBound v h c).run P σ.w= .ok n.toNat σ.w:=by
  intro n h c h1 h2 h3
  cases hlc:lo with
  |none=>
   rw[hlc] at h1
   simp[loB] at h1;subst h1
   exact .inl ⟨hlo' hlc,rfl⟩
  |some x=>
   rw[hlc] at h1
   obtain⟨v,e1,e2⟩:=hlo x hlc
   exact .inr ⟨v,e1,Jo e2 h1 h c h2 h3 _⟩
 unfold Ma at hex
 split at hex
 ·rename_i l hl
  simp only[yE,Prod.mk.injEq] at hex
  obtain⟨rfl,rfl,rfl⟩:=hex
  have e1:=hhi' rfl
  have e2:=hmx' rfl
  subst e1 e2
  have hl2:=low l rows.length .sliceB hl hp.1 (by omega)
  refine⟨l.toNat,rows.length,cap, ?_,by omega,hcap,Nat.le_refl _,Nat.le_refl _, ?_,hfull⟩
  ·rcases hl2 with⟨rfl,rfl⟩|⟨v,rfl,hl3⟩
   ·simp[Instr.sliceBounds]
   ·simp[Instr.sliceBounds,hl3]
  ·rw[List.take_of_length_le (by simp)]
 ·rename_i l h hl
  obtain⟨v,e1,e3⟩:=hhi h rfl
  have e2:=hmx' rfl
  subst e1 e2
  split at hex
  ·rename_i h' hh
   simp only[yE,Prod.mk.injEq] at hex
   obtain⟨rfl,rfl,rfl⟩:=hex
   have hh2:=Jo (P:=P) e3 hh cap .sliceAcap (by omega) (by omega) σ.w
   have hl2:=low l h'.toNat .sliceB hl hp.1 (by omega)
   refine⟨l.toNat,h'.toNat,cap, ?_,by omega,by omega,Nat.le_refl _,by omega,rfl, ?_⟩
   ·rcases hl2 with⟨rfl,rfl⟩|⟨v,rfl,hl3⟩
    ·simp[Instr.sliceBounds,hh2]
    ·simp[Instr.sliceBounds,hh2,hl3]
   ·intro hf
    simp only[Bool.and_eq_true,decide_eq_true_eq] at hf
    have:=hfull hf.1
    omega
  ·simp at hex
 ·rename_i l h m hl
  obtain⟨v,e1,e3⟩:=hhi h rfl
  obtain⟨u,e2,e4⟩:=hmx m rfl
  subst e1 e2
  split at hex
  ·rename_i h' m' hh hm
   simp only[yE,Prod.mk.injEq] at hex
   obtain⟨rfl,rfl,rfl⟩:=hex
   have hm2:=Jo (P:=P) e4 hm cap .slice3Acap (by omega) (by omega) σ.w
   have hh2:=Jo (P:=P) e3 hh m'.toNat .slice3B (by omega) (by omega) σ.w
   have hl2:=low l h'.toNat .slice3C hl hp.1 (by omega)
   refine⟨l.toNat,h'.toNat,m'.toNat, ?_,by omega,by omega,by omega,by omega,rfl, ?_⟩
   ·rcases hl2 with⟨rfl,rfl⟩|⟨v,rfl,hl3⟩
    ·simp[Instr.sliceBounds,hm2,hh2]
    ·simp[Instr.sliceBounds,hm2,hh2,hl3]
   ·intro hf
    simp only[decide_eq_true_eq] at hf
    rw[hf]
  ·simp at hex
 ·simp at hex
theorem Ru {sz l h m:Nat} {f:Bool} {rows:List (List AV)} {d:List AV} {base:Option Addr} (hpu:∀r∈rows,AB r=true) (hrow:rows=[]∨∃b k,base=some ⟨b,k,none⟩∧Fz σ b∧RepRows σ sz b k rows)
  (h1:l≤h) (h2:h≤m) (h3:h≤rows.length) (hf:f=true→m=h):
  Rep σ (.sl sz f ((rows.drop l).take (h-l)) d) (.slice (if m=l then base else base.map (·.add (l*sz))) (h-l) (m-l)):=by
 have hlen:((rows.drop l).take (h-l)).length=h-l:=by simp;omega
 simp only[Rep]
 refine⟨_,m-l,by rw[hlen],by rw[hlen];omega,fun e=>by rw[hlen,hf e],fun r hr=>hpu r (List.mem_of_mem_drop (List.mem_of_mem_take hr)), ?_⟩
 by_cases he:h=l
 ·left
  apply List.eq_nil_of_length_eq_zero
  rw[hlen];omega
 ·right
  rcases hrow with rfl|⟨b,k,rfl,k1,k2⟩
  ·simp at h3;omega
  ·refine⟨b,k+l*sz, ?_,k1,GY fun i r hi=> ?_⟩
   ·rw[if_neg (by omega)];simp[Ih]
   ·have hil:=(List.getElem?_eq_some_iff.1 hi).1
    rw[hlen] at hil
    rw[List.getElem?_take_of_lt hil,List.getElem?_drop] at hi
    have:=E2 k2 (l+i) r hi
    rw[Nat.add_mul,←Nat.add_assoc] at this
    exact this
theorem Rv (h:HInv σ hp) {t e:TypeId} {x:Operand} {lo hi mx:Option Operand} {X:AV} {i:TypeInfo} {f:Operand→AV} (ho:o.op= .slice t x lo hi mx) (ht:P.underlying t=some (.slice e)) (hi':P.info? e=some i) (hx:Rep σ X (a.eval x))
  (hr:∀x,Rep σ (f x) (a.eval x)) (hex:Ks hp i.size X (lo.map f) (hi.map f) (mx.map f)=some (vc,r,ws)) (hvc:vc):Step P o a σ nm (ws++hp) r:=by
 have bnd:∀y:Option Operand,(∀x,y.map f=some x→∃v,y.map a.eval=some v∧Rep σ x v)∧(y.map f=none→y.map a.eval=none):=by
  intro y
  cases y with
  |none=>simp
  |some y=>simp only[Option.map_some,yE,reduceCtorEq,false_implies,and_true];rintro _ rfl;exact⟨_,rfl,hr y⟩
 have run:∀(base:Option Addr) (n cap l h' m:Nat),a.eval x= .slice base n cap→(Instr.sliceBounds true n cap (lo.map a.eval) (hi.map a.eval) (mx.map a.eval)).run P σ.w= .ok (l,h',m) σ.w→
   (execOp a.eval o).run P σ.w= .ok (.value (.slice (if m=l then base else base.map (·.add (l*i.size))) (h'-l) (m-l))) σ.w:=by
  intro base n cap l h' m e1 e2
  simp[execOp,ho,Instr.sliceAt,Instr.slice,run_underlying ht,e1,e2,Dw hi']
 unfold Ks at hex
 split at hex
 ·rename_i sz' full rows d
  split at hex
  ·rename_i p fl rs hs
   simp only[yE,Prod.mk.injEq] at hex
   obtain⟨rfl,rfl,rfl⟩:=hex
   simp only[Rep] at hx
   obtain⟨base,cap,e1,e2,e3,e4,e5⟩:=hx
   obtain⟨l,h',m,g1,g2,g3,g4,g5,rfl,g7⟩:=Mi (P:=P) hs hvc.2 (bnd lo).1 (bnd lo).2 (bnd hi).1 (bnd hi).2 (bnd mx).1 (bnd mx).2 e2 e3
   refine Step.quiet h (run _ _ _ l h' m e1 g1) ?_
   rcases hvc.1 with rfl|rfl
   ·exact Ru e4 e5 g2 g3 g5 g7
   ·have hz:h'=0:=by simpa using g5
    subst hz
    have hl0:l=0:=by omega
    subst hl0
    simp only[List.drop_nil,List.take_nil,Rep]
    exact⟨if m=0 then base else base.map (·.add (0*i.size)),m,by simp,by simp,fun e=>by have:=g7 e;simp[this],by simp,.inl trivial⟩
  ·simp at hex
 ·rename_i n l0
  cases hsn:Gq n with
  |true=>rw[hsn] at hex;cases hex
  |false=>
  rw[hsn,cond_false] at hex
  split at hex
  ·rename_i sz' live rows d hn
   split at hex
   ·rename_i p fl rs hs
    simp only[yE,Prod.mk.injEq] at hex
    obtain⟨rfl,rfl,rfl⟩:=hex
    obtain⟨rfl,v2,v3⟩:=hvc
    obtain⟨σ1,f1,f2,f3,f4,f5,f6,f7,f8⟩:=h.frz [n]
    have hv:=GZ h hn hx v2
    have hsl:=MV h f1 f3 hsn hn v2 hx (f7 n (by simp))
    simp only[Rep] at hsl
    obtain⟨base,cap,e1,e2,e3,e4,e5⟩:=hsl
    obtain⟨l,h',m,g1,g2,g3,g4,g5,rfl,g7⟩:=Mi (P:=P) hs v3 (bnd lo).1 (bnd lo).2 (bnd hi).1 (bnd hi).2 (bnd mx).1 (bnd mx).2 e2 (by simp)
    exact .inl ⟨_,σ.w,σ1,.inl (run _ _ _ l h' m e1 g1),⟨f1,f2,f3,fun m hm=> .inl (f4 m hm)⟩,Ru e4 e5 g2 g3 g5 g7⟩
   ·simp at hex
  ·simp at hex
 ·simp at hex
def Cf.move (σ:Cf) (n m:Nm) (k:Nat):Cf:={σ with ra:=fun j=>if j=m then σ.ra n else σ.ra j,al:=fun j=>σ.al j∨j=m,ln:=fun j=>if j=m then some k else if j=n then none else σ.ln j}
theorem Evo.move {σ:Cf} {n m:Nm} {k:Nat} (hm:¬σ.al m):Evo σ (σ.move n m k) where
 box j hj:=⟨.inl hj,rfl⟩
 arr j hj l hl:=by
  have:¬j=m:=by rintro rfl;exact hm hj
  simp only[Cf.move,if_neg this] at hl⊢
  split at hl
  ·cases hl
  ·exact⟨l,hl,Nat.le_refl _,fun _=>trivial⟩
 fro b o h h':=⟨h,h'⟩
 out:=rfl
 sz:=Nat.le_refl _
 io:=SameO.refl _
theorem RepRows.take {σ:Cf} {sz b:Nat}:∀{rs:List (List AV)} {o k:Nat},RepRows σ sz b o rs→RepRows σ sz b o (rs.take k)
 |[],o,k,h=>by simp[RepRows]
 |r::rs,o,0,h=>by simp[RepRows]
 |r::rs,o,k+1,h=>by
  simp only[List.take_succ_cons,RepRows] at h⊢
  exact⟨h.1,h.2.1,RepRows.take h.2.2⟩
theorem HInv.move {σ:Cf} {hp:Hp} (h:HInv σ hp) {n m:Nm} (hsn:Gq n=false) (hm:¬σ.al m) {sz:Nat} {rows:List (List AV)} {d:List AV} {k:Nat} (hn:hl hp (.a n)=some (.sl sz true rows d)) (hk:k≤rows.length):
  HInv (σ.move n m k) ((.a m,.sl sz true (rows.take k) d)::(.a n,.un)::hp):=by
 have ev:=Evo.move (n:=n) (k:=k) hm
 have hA:=h.arr n sz true rows d hn
 have hnm:n≠m:=by rintro rfl;exact hm hA.1
 have hc:∀p j,hl ((.a m,.sl sz true (rows.take k) d)::(.a n,.un)::hp) (.c p j)=hl hp (.c p j):=fun p j=>by
  simp only[hl];rw[if_neg (by intro e;cases e),if_neg (by intro e;cases e)]
 have ha:∀p,hl ((.a m,.sl sz true (rows.take k) d)::(.a n,.un)::hp) (.a p)=if p=m then some (.sl sz true (rows.take k) d) else if p=n then some .un else hl hp (.a p):=fun p=>by
  simp only[hl,Loc.a.injEq]
  by_cases e:p=m
  ·subst e;simp
  ·rw[if_neg (fun h=>e h.symm),if_neg e]
   by_cases e2:p=n
   ·subst e2;simp
   ·rw[if_neg (fun h=>e2 h.symm),if_neg e2]
 refine⟨fun p=> ?_,fun p j c hh=> ?_,fun p sz' live' rows' d' hh=> ?_,fun p q b hp' hq'=> ?_,h.lt,h.ou,h.dis⟩
 ·unfold lenOf
  rw[ha]
  simp only[Cf.move]
  by_cases e:p=m
  ·rw[if_pos e,if_pos e];simp;omega
  ·rw[if_neg e,if_neg e]
   by_cases e2:p=n
   ·rw[if_pos e2,if_pos e2]
   ·rw[if_neg e2,if_neg e2];exact h.ln p
 ·rw[hc] at hh
  have q:=h.cel p j c hh
  exact q.keep ev q.2.1 rfl
 ·rw[ha] at hh
  by_cases e:p=m
  ·subst e
   rw[if_pos rfl] at hh
   cases hh
   obtain⟨q1,q2,q3,q4⟩:=hA
   refine⟨.inr rfl,q2,fun _ r hr=>q3 hsn r (List.mem_of_mem_take hr), ?_⟩
   rcases q4 with⟨a,g1,rfl⟩|⟨b,o,cap,g1,g2,g3,g4,g5,g6⟩
   ·exact .inl ⟨a,by simp[Cf.move,g1],by simp⟩
   ·refine .inr ⟨b,o,cap,by simp[Cf.move,g1],g2,by simp;omega, ?_,g5,fun e=>by cases e⟩
    exact(g4.keep ev fun j x _ hx=>hx).take
  ·rw[if_neg e] at hh
   by_cases e2:p=n
   ·rw[if_pos e2] at hh;cases hh
   ·rw[if_neg e2] at hh
    exact(h.arr p sz' live' rows' d' hh).keep ev (by simp[Cf.move,e]) fun _ _ _ _ _ _ hM=>⟨hM,rfl⟩
 ·have key:∀p b,Owns (σ.move n m k) ((.a m,.sl sz true (rows.take k) d)::(.a n,.un)::hp) p b→(p=(true,m)∧Owns σ hp (true,n) b)∨(p≠(true,m)∧p≠(true,n)∧Owns σ hp p b):=by
   rintro⟨f,p⟩ b (⟨h1,h2,j,c,h3⟩|⟨h1,⟨sz',rows',d',h2⟩,o,cap,h3,h4⟩)
   ·simp only at h1 h2 h3
    subst h1
    rw[hc] at h3
    exact .inr ⟨by simp,by simp,.inl ⟨rfl,h2,j,c,h3⟩⟩
   ·simp only at h1 h2 h3
    subst h1
    rw[ha] at h2
    by_cases e:p=m
    ·subst e
     exact .inl ⟨rfl,.inr ⟨rfl,⟨_,_,_,hn⟩,o,cap,by simpa [Cf.move] using h3,h4⟩⟩
    ·rw[if_neg e] at h2
     by_cases e2:p=n
     ·rw[if_pos e2] at h2;cases h2
     ·rw[if_neg e2] at h2
      exact .inr ⟨by simp[e],by simp[e2],.inr ⟨rfl,⟨_,_,_,h2⟩,o,cap,by simpa [Cf.move,e] using h3,h4⟩⟩
  rcases key p b hp' with⟨rfl,a1⟩|⟨a0,a2,a1⟩<;>rcases key q b hq' with⟨rfl,b1⟩|⟨b0,b2,b1⟩
  ·rfl
  ·exact absurd (h.inj _ _ _ a1 b1).symm b2
  ·exact absurd (h.inj _ _ _ a1 b1) a2
  ·exact h.inj _ _ _ a1 b1
theorem Vy (h:HInv σ hp) (hnm:¬σ.al nm) {t e:TypeId} {x:Operand} {lo hi mx:Option Operand} {X:AV} {i:TypeInfo} {f:Operand→AV} (ho:o.op= .slice t x lo hi mx) (ht:P.underlying t=some (.slice e)) (hi':P.info? e=some i) (hx:Rep σ X (a.eval x))
  (hr:∀x,Rep σ (f x) (a.eval x)) (hex:H0 hp nm i.size X (lo.map f) (hi.map f) (mx.map f)=some (vc,r,ws)) (hvc:vc):Step P o a σ nm (ws++hp) r:=by
 unfold H0 at hex
 split at hex
 ·rename_i n l kk k e1 e2 e3
  cases hsn:Gq n with
  |true=>rw[hsn] at hex;cases hex
  |false=>
  rw[hsn,cond_false] at hex
  split at hex
  ·rename_i sz' live rows d hn
   simp only[yE,Prod.mk.injEq] at hex
   obtain⟨rfl,rfl,rfl⟩:=hex
   obtain⟨rfl,v2,rfl,v4,v5⟩:=hvc
   have hlo:lo=none:=by cases lo with|none=>rfl|some y=>simp at e1
   have hmx:mx=none:=by cases mx with|none=>rfl|some y=>simp at e3
   obtain⟨y,rfl,hy⟩:∃y,hi=some y∧f y= .v (.int kk k):=by
    cases hi with
    |none=>simp at e2
    |some y=>exact⟨y,rfl,by simpa using e2⟩
   subst hlo hmx
   have hv:=GZ h hn hx v2
   have hy':=hr y
   rw[hy] at hy'
   have hyv:=Db (X:= .un) hy'
   have hA:=h.arr n i.size true rows d hn
   have hcap:rows.length≤(σ.ra n).2:=by
    rcases hA.2.2.2 with⟨a,g1,rfl⟩|⟨b,o,cap,g1,_,g3,_⟩
    ·simp
    ·rw[g1];exact g3
   have hb:(Instr.sliceBounds true rows.length (σ.ra n).2 none (some (a.eval y)) none).run P σ.w= .ok (0,k.toNat,(σ.ra n).2) σ.w:=by
    simp[Instr.sliceBounds,Jo (P:=P) (X:= .v (.int kk k)) hy' rfl (σ.ra n).2 .sliceAcap v4 (by omega)]
   have ev:=Evo.move (n:=n) (k:=k.toNat) hnm
   refine .inl ⟨.slice (σ.ra n).1 k.toNat (σ.ra n).2,σ.w,σ.move n nm k.toNat,.inl ?_,⟨ev,h.move hsn hnm hn (by omega),rfl,fun m hm=>hm⟩, ?_⟩
   ·simp[execOp,ho,Instr.sliceAt,Instr.slice,run_underlying ht,hv,hb,Dw hi',Addr.add]
   ·simp[Rep,Cf.move,Bq];try omega
  ·simp at hex
 ·rename_i X' l' h' m' hne
  exact Rv h ho ht hi' hx hr hex hvc
theorem Hd {p:PK} {Xs:List AV} {vc:Prop} {r:AV} {ws:Hp} (h:vr (Bv p Xs)=some (vc,r,ws)):ws=[]∧Bv p Xs=some (vc,r):=by
 unfold vr at h
 split at h
 ·rename_i a b he;simp only[yE,Prod.mk.injEq] at h;obtain⟨rfl,rfl,rfl⟩:=h;exact⟨rfl,he⟩
 ·simp at h
theorem XJ (s t:ByteArray):(s.toList==t.toList)=decide (bL s=bL t):=by
 rw[ByteArray.toList_eq,ByteArray.toList_eq]
 by_cases h:bL s=bL t
 ·rw[decide_eq_true h];simpa [bL] using h
 ·rw[decide_eq_false h];simpa [bL] using h
theorem Ou (s:ByteArray):(bL s).length=s.size:=rfl
theorem Lu (s:ByteArray) (l h:Nat):s.extract l h=sB (((bL s).drop l).take (h-l)):=by
 rw[←Kq (s.extract l h)]
 congr 1
 simp[bL,List.extract]
theorem FE {v u:Value} (h:Rep σ (.v v) u):u=v:=by simpa [Rep] using h
theorem XK (h:HInv σ hp) {t yt:TypeId} {op:BinOp} {x y:Operand} {X Y:AV} (hop:op= .shl∨op= .shr) (ho:o.op= .binOp op t x y yt) (hx:Rep σ X (a.eval x)) (hy:Rep σ Y (a.eval y))
  (hex:vr (Bv (.shf op) [X,Y])=some (vc,r,ws)) (hvc:vc):Step P o a σ nm (ws++hp) r:=by
 obtain⟨rfl,he⟩:=Hd hex
 cases X with
 |v X=>cases X with
  |int k n=>cases Y with
   |v Y=>cases Y with
    |int k' m=>
     simp only[Bv,yE,Prod.mk.injEq] at he
     obtain⟨rfl,rfl⟩:=he
     have e1:=FE hx
     have e2:=FE hy
     refine Step.quiet h (v:= .int k (Cp op k n m)) ?_ (by simp[Rep])
     rcases hop with rfl|rfl<;>simp[execOp,ho,e1,e2,binOp,Op.shift,Cp,Int.not_lt.2 hvc,eqGuard]
    |_=>simp[Bv] at he
   |_=>simp[Bv] at he
  |_=>simp[Bv] at he
 |_=>simp[Bv] at he
theorem Vz (h:HInv σ hp) {t yt:TypeId} {op:BinOp} {x y:Operand} {X Y:AV} (hop:op= .and∨op= .or∨op= .xor∨op= .andNot) (ho:o.op= .binOp op t x y yt) (hx:Rep σ X (a.eval x)) (hy:Rep σ Y (a.eval y))
  (hex:vr (Bv (.bits op) [X,Y])=some (vc,r,ws)) (hvc:vc):Step P o a σ nm (ws++hp) r:=by
 obtain⟨rfl,he⟩:=Hd hex
 cases X with
 |v X=>cases X with
  |int k n=>cases Y with
   |v Y=>cases Y with
    |int k' m=>
     simp only[Bv,yE,Prod.mk.injEq] at he
     obtain⟨rfl,rfl⟩:=he
     have e1:=FE hx
     have e2:=FE hy
     subst hvc
     refine Step.quiet h (v:= .int k (BW op k n m)) ?_ (by simp[Rep])
     rcases hop with rfl|rfl|rfl|rfl<;>simp[execOp,ho,e1,e2,binOp,Op.intBits,BW,eqGuard]
    |_=>simp[Bv] at he
   |_=>simp[Bv] at he
  |_=>simp[Bv] at he
 |_=>simp[Bv] at he
theorem VA (h:HInv σ hp) {t yt:TypeId} {x y:Operand} {X Y:AV} (ho:o.op= .binOp .add t x y yt) (hx:Rep σ X (a.eval x)) (hy:Rep σ Y (a.eval y))
  (hex:vr (Bv .scat [X,Y])=some (vc,r,ws)) (hvc:vc):Step P o a σ nm (ws++hp) r:=by
 obtain⟨rfl,he⟩:=Hd hex
 cases X with
 |v X=>cases X with
  |string s=>cases Y with
   |v Y=>cases Y with
    |string s'=>
     simp only[Bv,yE,Prod.mk.injEq] at he
     obtain⟨rfl,rfl⟩:=he
     have e1:=FE hx
     have e2:=FE hy
     refine Step.quiet h (v:= .string (s++s')) ?_ ?_
     ·have:¬(((s.size+s'.size:Nat):Int)>IntKind.i64.max):=by
       rw[List.length_append,Ou,Ou] at hvc
       have:IntKind.i64.max=9223372036854775807:=rfl
       omega
      simp only[execOp,ho,e1,e2,binOp,Op.stringOp,eqGuard,if_neg this]
      try rfl
     ·simp only[Rep];rw[←Kq (s++s')];congr 2;try simp[bL]
    |_=>simp[Bv] at he
   |_=>simp[Bv] at he
  |_=>simp[Bv] at he
 |_=>simp[Bv] at he
theorem Rx (h:HInv σ hp) {t yt:TypeId} {op:BinOp} {neg:Bool} {x y:Operand} {X Y:AV} (hop:op= .eql∧neg=false∨op= .neq∧neg=true) (ho:o.op= .binOp op t x y yt) (hx:Rep σ X (a.eval x)) (hy:Rep σ Y (a.eval y))
  (hex:vr (Bv (.seq neg) [X,Y])=some (vc,r,ws)) (hvc:vc):Step P o a σ nm (ws++hp) r:=by
 obtain⟨rfl,he⟩:=Hd hex
 cases X with
 |v X=>cases X with
  |string s=>cases Y with
   |v Y=>cases Y with
    |string s'=>
     simp only[Bv,yE,Prod.mk.injEq] at he
     obtain⟨rfl,rfl⟩:=he
     have e1:=FE hx
     have e2:=FE hy
     refine Step.quiet h (v:= .bool (bif neg then !decide (bL s=bL s') else decide (bL s=bL s'))) ?_ (by simp[Rep])
     rcases hop with⟨rfl,rfl⟩|⟨rfl,rfl⟩<;>simp[execOp,ho,e1,e2,binOp,Op.stringOp,eqGuard,XJ]
    |_=>simp[Bv] at he
   |_=>simp[Bv] at he
  |_=>simp[Bv] at he
 |_=>simp[Bv] at he
theorem XL (h:HInv σ hp) {src dst:TypeId} {x:Operand} {X:AV} {k k':IntKind} (ho:o.op= .convert src dst x) (hs:P.underlying src=some (.int k')) (hd:P.underlying dst=some (.int k)) (hx:Rep σ X (a.eval x))
  (hex:vr (Bv (.cvw k) [X])=some (vc,r,ws)):Step P o a σ nm (ws++hp) r:=by
 obtain⟨rfl,he⟩:=Hd hex
 cases X with
 |v X=>cases X with
  |int k0 n=>
   simp only[Bv,yE,Prod.mk.injEq] at he
   obtain⟨_,rfl⟩:=he
   have e:=FE hx
   refine Step.quiet h (v:= .int k (k.wrap n)) ?_ (by simp[Rep])
   simp[execOp,ho,convert,run_underlying hs,run_underlying hd,e,Conv.intToInt]
  |_=>simp[Bv] at he
 |_=>simp[Bv] at he
theorem XM (h:HInv σ hp) {t:TypeId} {x:Operand} {X:AV} {fs:Array Field} (ho:o.op= .makeInterface t x) (hs:P.underlying t=some (.struct fs)) (hx:Rep σ X (a.eval x))
  (hex:vr (Bv (.mkI t) [X])=some (vc,r,ws)):Step P o a σ nm (ws++hp) r:=by
 obtain⟨rfl,he⟩:=Hd hex
 cases X with
 |agg cs=>cases cs with
  |nil=>
   simp only[Bv,yE,Prod.mk.injEq] at he
   obtain⟨_,rfl⟩:=he
   simp only[Rep,RepL] at hx
   obtain⟨xs,e,_,rfl⟩:=hx
   refine Step.quiet h (v:= .iface t (.agg #[])) ?_ (by simp[Rep])
   simp[execOp,ho,Instr.makeInterface,run_underlying hs,e]
  |cons _ _=>simp[Bv] at he
 |_=>simp[Bv] at he
theorem XN (h:HInv σ hp) {t xt:TypeId} {x:Operand} {X:AV} {fs:Array Field} (ho:o.op= .typeAssert x xt t true) (hs:P.underlying t=some (.struct fs)) (hx:Rep σ X (a.eval x))
  (hex:vr (Bv (.tas t) [X])=some (vc,r,ws)) (hvc:vc):Step P o a σ nm (ws++hp) r:=by
 obtain⟨rfl,he⟩:=Hd hex
 unfold Bv at he
 split at he
 case h_13 e1 e2=>
  rename_i t0 t1 cs
  cases e1
  cases e2
  simp only[yE,Prod.mk.injEq] at he
  obtain⟨rfl,rfl⟩:=he
  obtain⟨rfl,rfl⟩:=hvc
  have hx:=FE hx
  refine Step.quiet h (v:= .tuple #[.agg #[],.bool true]) ?_ ?_
  ·simp[execOp,ho,Instr.typeAssert,run_underlying hs,hx]
  ·simp only[Rep,RepL]
   exact⟨_,rfl,_,_,rfl,⟨[],rfl,by simp,rfl⟩,_,_,rfl,rfl,rfl⟩
 all_goals first|(rename_i e1 _;cases e1)|cases he
theorem VB (h:HInv σ hp) {c:Call} {x:Operand} {X:AV} {t:TypeId} (ho:o.op= .call c) (hc:c.callee= .builtin .len) (ha:c.args.toList=[x]) (hat:c.argTypes.toList=[t]) (ht:P.underlying t=some .string) (hx:Rep σ X (a.eval x))
  (hex:vr (Bv .slen [X])=some (vc,r,ws)):Step P o a σ nm (ws++hp) r:=by
 obtain⟨rfl,he⟩:=Hd hex
 have h1:c.args= #[x]:=by apply Array.ext';simpa using ha
 have h2:c.argTypes= #[t]:=by apply Array.ext';simpa using hat
 cases X with
 |v X=>cases X with
  |string s=>
   simp only[Bv,yE,Prod.mk.injEq] at he
   obtain⟨_,rfl⟩:=he
   have e:=FE hx
   refine Step.quiet h (v:= .int .i64 s.size) ?_ (by simp[Rep,Ou])
   simp[execOp,ho,resolve,hc,h1,h2,e,invoke,builtin,Builtin.len_,run_underlying ht,goInt]
  |_=>simp[Bv] at he
 |_=>simp[Bv] at he
theorem VC (h:HInv σ hp) {t:TypeId} {x ix:Operand} {X I:AV} (ho:o.op= .index t x ix) (ht:P.underlying t=some .string) (hx:Rep σ X (a.eval x)) (hi:Rep σ I (a.eval ix))
  (hex:vr (Bv .sidx [X,I])=some (vc,r,ws)) (hvc:vc):Step P o a σ nm (ws++hp) r:=by
 obtain⟨rfl,he⟩:=Hd hex
 cases X with
 |v X=>cases X with
  |string s=>cases I with
   |v I=>cases I with
    |int k i=>
     simp only[Bv,yE,Prod.mk.injEq] at he
     obtain⟨rfl,rfl⟩:=he
     have e1:=FE hx
     have e2:=FE hi
     obtain⟨g1,g2⟩:=hvc
     have hlt:i.toNat<s.size:=by rw[Ou] at g2;omega
     have hg:s[i.toNat]? =some s[i.toNat]:=getElem?_pos s _ hlt
     refine Step.quiet h (v:= .int .u8 s[i.toNat].toNat) ?_ ?_
     ·simp[execOp,ho,Instr.index,asIntOf,run_underlying ht,e1,e2,g1,hg]
     ·simp only[Rep]
      congr 4
      rw[List.getD_eq_getElem?_getD]
      have:(bL s)[i.toNat]? =some s[i.toNat]:=by
       unfold bL
       rw[Array.getElem?_toList]
       exact getElem?_pos s.data _ hlt
      rw[this];rfl
    |_=>simp[Bv] at he
   |_=>simp[Bv] at he
  |_=>simp[Bv] at he
 |_=>simp[Bv] at he
theorem Lv (h:HInv σ hp) {t:TypeId} {x:Operand} {lo hi:Option Operand} {X:AV} {f:Operand→AV} (ho:o.op= .slice t x lo hi none) (ht:P.underlying t=some .string) (hx:Rep σ X (a.eval x)) (hf:∀y,Rep σ (f y) (a.eval y))
  (hex:vr (Bv (.ssl lo.isSome hi.isSome) (X::((lo.map f).toList++(hi.map f).toList)))=some (vc,r,ws)) (hvc:vc):Step P o a σ nm (ws++hp) r:=by
 obtain⟨rfl,he⟩:=Hd hex
 have bad:∀{u:Operand} {Y:AV} (k:IntKind) (n:Int),f u=Y→Y= .v (.int k n)→a.eval u= .int k n:=fun k n e1 e2=>by
  have:=hf ‹Operand›
  rw[e1,e2] at this
  exact FE this
 have sb:∀(k:IntKind) (n:Int) (y:Nat) (cd:BoundsCode),0≤n→n≤y→(Instr.sliceBound (.int k n) y cd).run P σ.w= .ok n.toNat σ.w:=fun k n y cd h0 h1=>by
  simp[Instr.sliceBound,asIntOf,h0,h1]
 cases X with
 |v X=>cases X with
  |string s=>
   have e1:=FE hx
   have hsz:(bL s).length=s.size:=rfl
   cases lo with
   |none=>cases hi with
    |none=>
     simp only[Option.isSome_none,Option.map_none,Option.toList_none,List.append_nil,Bv,yE,Prod.mk.injEq] at he
     obtain⟨_,rfl⟩:=he
     refine Step.quiet h (v:= .string (s.extract 0 s.size)) ?_ (by simp only[Rep];rw[ByteArray.extract_zero_size])
     simp[execOp,ho,Instr.sliceAt,Instr.slice,Instr.sliceBounds,run_underlying ht,e1]
    |some hh=>
     simp only[Option.isSome_none,Option.isSome_some,Option.map_none,Option.map_some,Option.toList_none,Option.toList_some,List.nil_append] at he
     generalize hY:f hh=Y at he
     cases Y with
     |v Y=>cases Y with
      |int k n=>
       simp only[Bv,yE,Prod.mk.injEq] at he
       obtain⟨rfl,rfl⟩:=he
       have e2:=bad k n hY rfl
       rw[hsz] at hvc
       refine Step.quiet h (v:= .string (s.extract 0 n.toNat)) ?_ (by simp only[Rep];rw[Lu];simp)
       simp[execOp,ho,Instr.sliceAt,Instr.slice,Instr.sliceBounds,run_underlying ht,e1,e2,sb k n s.size .sliceAlen hvc.1 hvc.2]
      |_=>simp[Bv] at he
     |_=>simp[Bv] at he
   |some ll=>cases hi with
    |none=>
     simp only[Option.isSome_none,Option.isSome_some,Option.map_none,Option.map_some,Option.toList_none,Option.toList_some,List.append_nil] at he
     generalize hY:f ll=Y at he
     cases Y with
     |v Y=>cases Y with
      |int k n=>
       simp only[Bv,yE,Prod.mk.injEq] at he
       obtain⟨rfl,rfl⟩:=he
       have e2:=bad k n hY rfl
       rw[hsz] at hvc
       refine Step.quiet h (v:= .string (s.extract n.toNat s.size)) ?_ (by
        simp only[Rep];rw[Lu,List.take_of_length_le (by rw[List.length_drop,hsz];omega)])
       simp[execOp,ho,Instr.sliceAt,Instr.slice,Instr.sliceBounds,run_underlying ht,e1,e2,sb k n s.size .sliceB hvc.1 hvc.2]
      |_=>simp[Bv] at he
     |_=>simp[Bv] at he
    |some hh=>
     simp only[Option.isSome_some,Option.map_some,Option.toList_some,List.cons_append,List.nil_append] at he
     generalize hY:f ll=Y at he
     generalize hZ:f hh=Z at he
     cases Y with
     |v Y=>cases Y with
      |int k n=>cases Z with
       |v Z=>cases Z with
        |int k' m=>
         simp only[Bv,yE,Prod.mk.injEq] at he
         obtain⟨rfl,rfl⟩:=he
         have e2:=bad k n hY rfl
         have e3:=bad k' m hZ rfl
         rw[hsz] at hvc
         refine Step.quiet h (v:= .string (s.extract n.toNat m.toNat)) ?_ (by simp only[Rep];rw[Lu])
         simp[execOp,ho,Instr.sliceAt,Instr.slice,Instr.sliceBounds,run_underlying ht,e1,e2,e3,sb k' m s.size .sliceAlen (by omega) hvc.2.2,sb k n m.toNat .sliceB hvc.1 (by omega)]
        |_=>simp[Bv] at he
       |_=>simp[Bv] at he
      |_=>simp[Bv] at he
     |_=>simp[Bv] at he
  |_=>cases lo<;>cases hi<;>simp[Bv] at he
 |_=>cases lo<;>cases hi<;>simp[Bv] at he
theorem XO {y:Operand} (h:opd y= .k (.v .nilIface)):y= .const .nilIface:=by
 cases y with
 |const v=>
  simp only[opd,Opd.k.injEq] at h
  congr
  unfold ofV at h
  split at h
  ·split at h<;>simp at h
  ·unfold ofC at h
   split at h
   ·cases h
   ·simpa using h
 |tmp n=>simp[opd] at h
 |global g=>simp[opd] at h
 |func f=>simp[opd] at h
theorem XP {y:Operand} (h:opd y= .k (.v (.pointer none))):y= .const (.pointer none):=by
 cases y with
 |const v=>
  simp only[opd,Opd.k.injEq] at h
  congr
  unfold ofV at h
  split at h
  ·split at h<;>simp at h
  ·unfold ofC at h
   split at h
   ·cases h
   ·simpa using h
 |tmp n=>simp[opd] at h
 |global g=>simp[opd] at h
 |func f=>simp[opd] at h
theorem Qa (h:HInv σ hp) {t yt:TypeId} {op:BinOp} {neg:Bool} {x y:Operand} {X:AV} {ms:Array (String×TypeId)} (hop:op= .eql∧neg=false∨op= .neq∧neg=true) (ho:o.op= .binOp op t x y yt) (hu:P.underlying t=some (.interface ms)) (hy:opd y= .k (.v .nilIface)) (hx:Rep σ X (a.eval x))
  (hex:vr (Bv (.inil neg) [X])=some (vc,r,ws)):Step P o a σ nm (ws++hp) r:=by
 obtain⟨rfl,he⟩:=Hd hex
 have ey:=XO hy
 subst ey
 have ec:a.eval (.const .nilIface)= .nilIface:=rfl
 have en:∀d w,(Op.equalIn (d+1) t .nilIface .nilIface).run P w= .ok true w:=fun d w=>by simp[Op.equalIn,run_underlying hu]
 have es:∀d T v w,(Op.equalIn (d+1) t (.iface T v) .nilIface).run P w= .ok false w:=fun d T v w=>by simp[Op.equalIn,run_underlying hu]
 cases X with
 |v X=>cases X with
  |nilIface=>
   simp only[Bv,yE,Prod.mk.injEq] at he
   obtain⟨_,rfl⟩:=he
   have e1:=FE hx
   refine Step.quiet h (v:= .bool (!neg)) ?_ (by simp[Rep])
   rcases hop with⟨rfl,rfl⟩|⟨rfl,rfl⟩<;>simp[execOp,ho,e1,ec,binOp,eqGuard,Op.equal,Op.maxDepth,en 9999]
  |iface T v=>
   simp only[Bv,yE,Prod.mk.injEq] at he
   obtain⟨_,rfl⟩:=he
   have e1:=FE hx
   refine Step.quiet h (v:= .bool neg) ?_ (by simp[Rep])
   rcases hop with⟨rfl,rfl⟩|⟨rfl,rfl⟩<;>simp[execOp,ho,e1,ec,binOp,eqGuard,Op.equal,Op.maxDepth,es 9999]
  |_=>simp[Bv] at he
 |_=>simp[Bv] at he
theorem Qb (h:HInv σ hp) {t yt e:TypeId} {op:BinOp} {neg:Bool} {x y:Operand} {X:AV} (hop:op= .eql∧neg=false∨op= .neq∧neg=true) (ho:o.op= .binOp op t x y yt) (hu:P.underlying t=some (.pointer e)) (hy:opd y= .k (.v (.pointer none))) (hx:Rep σ X (a.eval x))
  (hex:vr (Bv (.pnil neg) [X])=some (vc,r,ws)):Step P o a σ nm (ws++hp) r:=by
 obtain⟨rfl,he⟩:=Hd hex
 have ey:=XP hy
 subst ey
 have ec:a.eval (.const (.pointer none))= .pointer none:=rfl
 have en:∀d p w,(Op.equalIn (d+1) t (.pointer p) (.pointer none)).run P w= .ok p.isNone w:=fun d p w=>by cases p<;>simp[Op.equalIn,run_underlying hu]
 cases X with
 |v X=>cases X with
  |pointer p=>
   simp only[Bv,yE,Prod.mk.injEq] at he
   obtain⟨_,rfl⟩:=he
   have e1:=FE hx
   refine Step.quiet h (v:= .bool (p.isNone !=neg)) ?_ (by simp[Rep])
   rcases hop with⟨rfl,rfl⟩|⟨rfl,rfl⟩<;>simp[execOp,ho,e1,ec,binOp,eqGuard,Op.equal,Op.maxDepth,en 9999]
  |_=>simp[Bv] at he
 |box n k=>
  simp only[Bv,yE,Prod.mk.injEq] at he
  obtain⟨_,rfl⟩:=he
  simp only[Rep] at hx
  have e1:=hx.2
  refine Step.quiet h (v:= .bool neg) ?_ (by simp[Rep])
  rcases hop with⟨rfl,rfl⟩|⟨rfl,rfl⟩<;>simp[execOp,ho,e1,ec,binOp,eqGuard,Op.equal,Op.maxDepth,en 9999]
 |_=>simp[Bv] at he
theorem Ry:∀{rows:List (List AV)} {vs:List Value},rows.all isB=true→RepL σ rows.flatten vs→∃ns:List Int,vs=ns.map (Value.int .u8)∧rows.map KO=ns.map fun n=>UInt8.ofNat n.toNat
 |[],vs,_,hr=>by simp[RepL] at hr;exact⟨[],by simp[hr],rfl⟩
 |r::rows,vs,hb,hr=>by
  simp only[List.all_cons,Bool.and_eq_true] at hb
  obtain⟨h1,h2⟩:=hb
  unfold isB at h1
  split at h1
  ·rename_i n
   simp only[List.flatten_cons,List.cons_append,List.nil_append,RepL] at hr
   obtain⟨y,ys,rfl,e1,e2⟩:=hr
   obtain⟨ns,rfl,e3⟩:=Ry h2 e2
   have:=FE e1
   subst this
   exact⟨n::ns,rfl,by simp[e3,KO]⟩
  ·cases h1
theorem XQ (h:HInv σ hp) {src dst e:TypeId} {x:Operand} {X:AV} (ho:o.op= .convert src dst x) (hs:P.underlying src=some (.slice e)) (hd:P.underlying dst=some .string) (hu:P.underlying e=some (.int .u8)) (hx:Rep σ X (a.eval x))
  (hex:Kt hp X=some (vc,r,ws)) (hvc:vc):Step P o a σ nm (ws++hp) r:=by
 have run0:∀(l c:Nat),a.eval x= .slice none l c→(execOp a.eval o).run P σ.w= .ok (.value (.string (sB []))) σ.w:=by
  intro l c e1
  simp only[execOp,ho,e1,Sem.run_bind,run_convert_bytes_nil σ.w src e hs hu l c dst hd]
  rfl
 have run:∀(b k c sz:Nat) (rows:List (List AV)),sz=1→rows.all isB=true→RepRows σ sz b k rows→a.eval x= .slice (some ⟨b,k,none⟩) rows.length c→(execOp a.eval o).run P σ.w= .ok (.value (.string (sB (rows.map KO)))) σ.w:=by
  rintro b k c sz rows rfl hb hr e1
  obtain⟨vs,g1,g2,g3,g4,g5⟩:=Hu hr
  obtain⟨ns,rfl,e3⟩:=Ry hb g1
  have hl:ns.length=rows.length:=by simpa using g5
  have:=run_convert_bytes_arg (P:=P) σ.w src e hs hu b k rows.length c ns hl (fun i hi=>by
   have:=g3 i (.int .u8 (ns.getD i 0)) (by simp[List.getElem?_eq_getElem (show i<ns.length by omega),List.getD_eq_getElem?_getD])
   exact this) dst hd
  simp only[execOp,ho,e1,Sem.run_bind,this,Result.andThen]
  rw[e3]
  rfl
 cases X with
 |sl sz f rows d=>
  simp only[Kt,yE,Prod.mk.injEq] at hex
  obtain⟨rfl,rfl,rfl⟩:=hex
  obtain⟨v1,v2⟩:=hvc
  simp only[Rep] at hx
  obtain⟨base,cap,e1,_,_,_,e4⟩:=hx
  rcases e4 with rfl|⟨b,k,rfl,hf,hr⟩
  ·cases base with
   |none=>exact Step.quiet h (run0 _ _ e1) (by simp[Rep])
   |some ad=>
    refine Step.quiet h (v:= .string (sB [])) ?_ (by simp[Rep])
    have:=run_convert_bytes_back (P:=P) σ.w src dst e ad cap [] hs hu hd (by simp)
    simp only[execOp,ho,e1,Sem.run_bind]
    simp only[List.length_nil] at this⊢
    rw[this];rfl
  ·rcases v1 with v1|rfl
   ·exact Step.quiet h (run b k cap sz rows v1 v2 hr e1) (by simp[Rep])
   ·exact Step.quiet h (run b k cap 1 [] rfl rfl (by simp[RepRows]) e1) (by simp[Rep])
 |own n l=>
  simp only[Kt] at hex
  split at hex
  ·rename_i sz live rows d hn
   simp only[yE,Prod.mk.injEq] at hex
   obtain⟨rfl,rfl,rfl⟩:=hex
   obtain⟨rfl,v2,v3⟩:=hvc
   have hv:=GZ h hn hx v2
   have hA:=h.arr n 1 live rows d hn
   rcases hA.2.2.2 with⟨ad,g1,rfl⟩|⟨b,k,cap,g1,_,_,g4,_⟩
   ·rw[g1] at hv
    cases ad with
    |none=>exact Step.quiet h (run0 _ _ hv) (by simp[Rep])
    |some ad=>
     refine Step.quiet h (v:= .string (sB [])) ?_ (by simp[Rep])
     have:=run_convert_bytes_back (P:=P) σ.w src dst e ad 0 [] hs hu hd (by simp)
     simp only[execOp,ho,hv,Sem.run_bind]
     simp only[List.length_nil] at this⊢
     rw[this];rfl
   ·rw[g1] at hv
    exact Step.quiet h (run b k cap 1 rows rfl v3 g4 hv) (by simp[Rep])
  ·simp at hex
 |_=>simp[Kt] at hex
mutual
theorem GQ {τ:Cf}:∀(x:AV) (v:Value),FD x=true→Rep σ x v→Rep τ x v
 | .v x,v,_,h=>by simpa [Rep] using h
 | .agg cs,v,hf,h=>by
  simp only[Rep] at h⊢
  obtain⟨xs,h1,h2,h3⟩:=h
  exact⟨xs,h1,h2,Lw cs xs (by simpa [FD] using hf) h3⟩
 | .tup cs,v,hf,h=>by
  simp only[Rep] at h⊢
  obtain⟨xs,h1,h3⟩:=h
  exact⟨xs,h1,Lw cs xs (by simpa [FD] using hf) h3⟩
 | .sl _ _ _ _,v,hf,_=>by simp[FD] at hf
 | .ro _ _,v,hf,_=>by simp[FD] at hf
 | .clo _ _ _,v,hf,_=>by simp[FD] at hf
 | .box _ _,v,hf,_=>by simp[FD] at hf
 | .own _ _,v,hf,_=>by simp[FD] at hf
 | .elem _ _ _ _ _,v,hf,_=>by simp[FD] at hf
 | .gd _ _,v,hf,_=>by simp[FD] at hf
 | .mp _,v,hf,_=>by simp[FD] at hf
 | .un,v,hf,_=>by simp[FD] at hf
theorem Lw {τ:Cf}:∀(xs:List AV) (vs:List Value),GX xs=true→RepL σ xs vs→RepL τ xs vs
 |[],vs,_,h=>by simpa [RepL] using h
 |x::xs,vs,hf,h=>by
  simp only[GX,Bool.and_eq_true] at hf
  simp only[RepL] at h⊢
  obtain⟨y,ys,h1,h2,h3⟩:=h
  exact⟨y,ys,h1,GQ x y hf.1 h2,Lw xs ys hf.2 h3⟩
end
theorem EH {f:Nat} (hf:okF P f) (args:Array Value) (w:World):(callFunc f args).run P w= .ok (.enter f args) w:=by
 obtain⟨fn,h1,h2,h3⟩:=hf
 have h4:fn.name≠ "runtime.NumGoroutine" :=by simpa using h3
 have h5:fn.body≠none:=by intro e;simp[e] at h2
 unfold callFunc
 simp[program,Sem.run,h1,h4,h5]
theorem KA {hp:Hp} {n:Nm} {k o j:Nat} {c:AV} (h:(Cr hp n o k)[j]? =some c):hl hp (.c n (o+j))=some c:=Oh k o j c h
theorem Tc {n m:Nm} {j:Nat}:∀(us:List (Nat×AV)),m≠n→hl (If n us) (.c m j)=none
 |[],_=>rfl
 |u::us,h=>by
  have:=Tc (j:=j) us h
  simp only[If,List.map_cons,hl] at this⊢
  rw[if_neg (by simp[Ne.symm h])];exact this
theorem Mj {n m:Nm}:∀(us:List (Nat×AV)),hl (If n us) (.a m)=none
 |[]=>rfl
 |u::us=>by
  have:=Mj (n:=n) (m:=m) us
  simp only[If,List.map_cons,hl] at this⊢
  rw[if_neg (by simp)];exact this
theorem Ns {n:Nm} {j:Nat} {c:AV}:∀(us:List (Nat×AV)),hl (If n us) (.c n j)=some c→c∈us.map (·.2)
 |[],h=>by simp[If,hl] at h
 |u::us,h=>by
  simp only[If,List.map_cons,hl] at h
  split at h
  ·simp at h;simp[h]
  ·have:=Ns us h;simp at this⊢;exact .inr this
theorem Jp:∀{cs:List AV} {c:AV},GX cs=true→c∈cs→FD c=true
 |c::cs,x,h,hx=>by
  simp only[GX,Bool.and_eq_true] at h
  rcases List.mem_cons.1 hx with rfl|hx
  ·exact h.1
  ·exact Jp h.2 hx
def Cf.only (σ:Cf) (n:Nm):Cf:={rb:=σ.rb,ra:=σ.ra,M:=fun b=>b=σ.rb n∧σ.M b,O:=σ.O,ln:=fun _=>none,al:=fun m=>m=n∧σ.al n,w:=σ.w}
theorem Fz.only {σ:Cf} {n:Nm} {b:Nat} (h:Fz σ b):Fz (σ.only n) b:=⟨fun k=>h.1 k.2,h.2.1,h.2.2⟩
theorem Lx {n:Nm}:∀{args:List AV} {vs:List Value},GD args=true→EA args=some n→RepL σ args vs→RepL (σ.only n) args vs
 |[],_,h,_,_=>by simp[GD] at h
 |c::cs,vs,h1,h2,hr=>by
  simp only[RepL] at hr⊢
  obtain⟨y,ys,rfl,g1,g2⟩:=hr
  refine⟨y,ys,rfl, ?_⟩
  have pu:∀(a:AV) (v:Value),Cg a=true→Rep σ a v→Rep (σ.only n) a v:=fun a v=>Rep.ofPure (fun b hb=>hb.only) (fun _ _=>rfl) a v
  cases c with
  |box m o=>
   simp only[GD] at h1
   simp only[EA,yE] at h2
   subst h2
   simp only[Rep] at g1
   refine⟨?_,RepL.ofPure (fun b hb=>hb.only) (fun _ _=>rfl) _ _ h1 g2⟩
   simp only[Rep]
   exact⟨⟨rfl,g1.1⟩,g1.2⟩
  |_=>simp only[GD,Bool.and_eq_true,EA] at h1 h2;exact⟨pu _ _ h1.1 g1,Lx h1.2 h2 g2⟩
theorem Rz {c:AV} (h:FD c=true):isM c=false:=by cases c<;>first|rfl|simp[FD] at h
theorem HInv.only (h:HInv σ hp) {n:Nm} {cells:List AV} (hc:∀j c,cells[j]? =some c→hl hp (.c n j)=some c) (hf:GX cells=true):HInv (σ.only n) (CX n 0 cells):=by
 have key:∀m j c,hl (CX n 0 cells) (.c m j)=some c→m=n∧hl hp (.c n j)=some c∧FD c=true:=by
  intro m j c hm
  rw[JX] at hm
  split at hm
  ·rename_i e
   rw[Nat.sub_zero] at hm
   exact⟨e.1,hc j c hm,Jp hf (List.mem_of_getElem? hm)⟩
  ·cases hm
 refine⟨fun m=>by simp[Cf.only,lenOf,F5],fun m j c hm=> ?_,fun m sz live rows d hm=>by simp[F5] at hm, ?_,fun b hb=>h.lt b hb.2,h.ou,fun b hb=>h.dis b hb.2⟩
 ·obtain⟨rfl,h1,h2⟩:=key m j c hm
  obtain⟨k1,k2,cs,T,x,k3,k4,k5,k6⟩:=(h.cel _ _ _ h1).cells (Rz h2)
  exact⟨⟨rfl,k1⟩,⟨rfl,k2⟩,.inl ⟨cs,T,x,k3,k4,k5,GQ c x h2 k6⟩⟩
 ·have own:∀p b,Owns (σ.only n) (CX n 0 cells) p b→p=(false,n):=by
   rintro⟨k,m⟩ b (⟨h1,_,j,c,h3⟩|⟨_,⟨_,_,_,h3⟩,_⟩)
   ·obtain⟨rfl,_⟩:=key m j c h3
    simp only at h1;rw[h1]
   ·simp[F5] at h3
  intro p q b hp hq
  rw[own p b hp,own q b hq]
theorem HInv.back (h:HInv σ hp) {n:Nm} {cells:List AV} {us:List (Nat×AV)} {w':World} {σ':Cf} (hc:∀j c,cells[j]? =some c↔hl hp (.c n j)=some c) (hne:cells.isEmpty=false) (hf:GX cells=true) (hu:GX (us.map (·.2))=true)
  (hw:σ'.w=w') (ev:Evo (σ.only n) σ') (hcel:∀j c,hl (If n us++CX n 0 cells) (.c n j)=some c→CelF σ' n j c):Evo σ (σ.at w')∧HInv (σ.at w') (If n us++hp):=by
 subst hw
 have e:Evo σ (σ.at σ'.w):=⟨fun _ h=>⟨h,rfl⟩,fun _ _ l h=>⟨l,h,Nat.le_refl _,fun _=>rfl⟩,fun b o hb hM=>⟨(ev.fro b o hb fun k=>hM k.2).1,hM⟩,rfl,ev.sz,ev.io⟩
 refine⟨e, ?_⟩
 obtain⟨c0,h0⟩:∃c0,cells[0]? =some c0:=by cases cells with|nil=>simp at hne|cons c _=>exact⟨c,rfl⟩
 have own:Owns σ hp (false,n) (σ.rb n):= .inl ⟨rfl,rfl,0,c0,(hc 0 c0).1 h0⟩
 refine h.upd e (false,n) (fun x hx hno=>⟨hx, ?_⟩) (fun l hl'=> ?_) (fun _ _ _=>rfl) (fun m=> ?_) (fun m j c hm hj=> ?_) (fun _ _ _ _ _ h=>by cases h) (fun x hx=> .inl ?_) (fun b hb=> ?_) ev.sz (fun b h1 h2=>absurd h1 h2)
 ·have hlt:=h.lt x hx
  have:=Array.getElem?_eq_getElem hlt
  show σ'.w.heap[x]? =_
  rw[this]
  exact(ev.fro x _ this fun k=>hno (k.1▸own)).1
 ·rw[H2]
  cases l with
  |c m j=>rw[Tc us (by rintro rfl;exact hl' rfl)];rfl
  |a m=>rw[Mj];rfl
 ·simp only[lenOf,H2,Mj,Option.none_or]
  exact h.ln m
 ·cases hm
  have hj':hl (If n us++CX n 0 cells) (.c n j)=some c∧FD c=true:=by
   rw[H2] at hj⊢
   cases hq:hl (If n us) (.c n j) with
   |some c'=>
    rw[hq] at hj
    simp at hj;subst hj
    exact⟨rfl,Jp hu (Ns us hq)⟩
   |none=>
    rw[hq] at hj
    simp only[Option.none_or] at hj⊢
    have:=(hc j c).2 hj
    refine⟨?_,Jp hf (List.mem_of_getElem? this)⟩
    rw[JX,if_pos ⟨rfl,Nat.zero_le _⟩,Nat.sub_zero];exact this
  obtain⟨k1,k2,cs,T,x,k3,k4,k5,k6⟩:=(hcel j c hj'.1).cells (Rz hj'.2)
  have hn:=h.cel n 0 c0 ((hc 0 c0).1 h0)
  have hb:=ev.box n ⟨rfl,hn.1⟩
  rw[hb.2] at k3
  exact⟨hn.1,hn.2.1,.inl ⟨cs,T,x,k3,k4,k5,GQ c x hj'.2 k6⟩⟩
 ·rcases hx with⟨_,hx,_⟩|⟨hx,_⟩
  ·have:σ.rb n=x:=hx
   rw[←this];exact own
  ·cases hx
 ·have:=h.lt b hb
  exact Nat.lt_of_lt_of_le this ev.sz
theorem Ov {S:Tab} (hS:TabOK P S) (gl:Gl σ) (h:HInv σ hp) (hal:∃c,∀m,σ.al m→m.2≤c) {f:Nat} {args:List AV} {vs:List Value} (hx:RepL σ args vs) (hex:Ix S hp f args=some (vc,r,ws)) (hvc:vc):
  okF P f∧Calls P f vs.toArray σ.w fun e w'=>∃v σ',e= .returned v∧Next σ nm (ws++hp) w' σ'∧Rep σ' r v:=by
 unfold Ix at hex
 split at hex
 ·rename_i p r' hs
  cases hfl:FD r' with
  |true=>
   simp only[hfl,cond_true,yE,Prod.mk.injEq] at hex
   obtain⟨rfl,rfl,rfl⟩:=hex
   obtain⟨v1,v2,v3⟩:=hvc
   obtain⟨k1,k2⟩:=hS.f f _ _ _ hs v3
   refine⟨k1, ?_⟩
   let τ:Cf:={σ with M:=fun _=>False}
   have e:Evo σ τ:=⟨fun _ h=>⟨h,rfl⟩,fun _ _ l h=>⟨l,h,Nat.le_refl _,fun _=>rfl⟩,fun _ _ h _=>⟨h,fun h=>h⟩,rfl,Nat.le_refl _,SameO.refl _⟩
   have hr:=G0 (τ:=τ) h e rfl (fun _ h=>h) args vs v1 hx
   refine(k2 τ vs (gl.mono e) (fun b hb=>hb.elim False.elim (h.ou b)) v2 hr).mono ?_
   rintro en w' ⟨v,rfl,g1,go,g2,g3⟩
   have g1':∀(b:Nat) (o:Obj),σ.w.heap[b]? =some o→w'.heap[b]? =some o:=g1
   exact⟨v,σ.at w',rfl,⟨Evo.at g1' go,h.at g1' go,rfl,fun m hm=> .inl hm⟩,GQ _ v hfl g3⟩
  |false=>
   simp only[hfl,cond_false] at hex
   cases hnb:E8 args with
   |false=>simp[hnb] at hex
   |true=>
    simp only[hnb,cond_true,yE,Prod.mk.injEq] at hex
    obtain⟨rfl,rfl,rfl⟩:=hex
    obtain⟨v1,v2,v3⟩:=hvc
    obtain⟨k1,k2⟩:=hS.f f _ _ _ hs v3
    refine⟨k1, ?_⟩
    obtain⟨σ1,f1,f2,f3,f4,f5,f6,f7,f8⟩:=h.frz (B8 args)
    have hr:=G1 h f1 f3 (B8 args) f7 args vs v1 hnb (fun _ h=>h) hx
    have:=k2 σ1 vs (gl.mono f1) (fun b hb=>hb.elim (f2.lt b) (f2.ou b)) v2 hr
    rw[f3] at this
    refine this.mono ?_
    rintro en w' ⟨v,rfl,g1,go,g2,g3⟩
    have g1':∀(b:Nat) (o:Obj),σ1.w.heap[b]? =some o→w'.heap[b]? =some o:=by rw[f3];exact g1
    have go':SameO σ1.w w':=by rw[f3];exact go
    exact⟨v,σ1.at w',rfl,⟨f1.trans (Evo.at g1' go'),f2.at g1' go',rfl,fun m hm=> .inl (f4 m hm)⟩,g3⟩
 ·split at hex
  ·rename_i n hn
   split at hex
   ·rename_i p r' us hs
    simp only[yE,Prod.mk.injEq] at hex
    obtain⟨rfl,rfl,rfl⟩:=hex
    obtain⟨v1,v2,v3,v4,v5,v6,v7⟩:=hvc
    obtain⟨k1,k2⟩:=hS.e f _ _ _ _ _ n hs v7 hn
    refine⟨k1, ?_⟩
    have hc:∀j c,(Cr hp n 0 40)[j]? =some c↔hl hp (.c n j)=some c:=fun j c=>by
     refine⟨fun h=>by simpa using KA h,fun h=> ?_⟩
     rcases Nat.lt_or_ge j (Cr hp n 0 40).length with h1|h1
     ·rw[List.getElem?_eq_getElem h1]
      have:=KA (List.getElem?_eq_getElem h1)
      rw[Nat.zero_add,h] at this
      exact this.symm
     ·rw[v6 j h1] at h;cases h
    refine(k2 (σ.only n) vs (fun b j hj=>⟨(gl b j hj).1.only,(gl b j hj).2⟩) (h.only (fun j c h=>(hc j c).1 h) v4) (fun m hm=>hm.1) (Lx v1 hn hx)).mono ?_
    rintro en w' ⟨v,σ',rfl,hw,ev,hcel,hr⟩
    obtain⟨e1,e2⟩:=h.back hc v5 v4 v3 hw ev hcel
    exact⟨v,σ.at w',rfl,⟨e1,e2,rfl,fun m hm=> .inl hm⟩,GQ _ v v2 hr⟩
   ·split at hex
    ·rename_i p r' hs
     simp only[yE,Prod.mk.injEq] at hex
     obtain⟨rfl,rfl,rfl⟩:=hex
     obtain⟨k1,k2⟩:=hS.q f _ _ _ _ hs hvc
     refine⟨k1,(k2 σ hp vs gl h hal hx rfl).mono ?_⟩
     rintro en w' ⟨v,σ',rfl,g1,g2,g3,g4,g5⟩
     exact⟨v,σ',rfl,⟨g2,g3,g1,fun m hm=> .inl (g4 m hm)⟩,g5⟩
    ·simp at hex
  ·simp at hex
theorem ZP {k:AV} {a:Int} (h:kI k=some a):k= .v (.int .i64 a):=by
 unfold kI at h
 split at h
 ·cases h;rfl
 ·cases h
theorem XR {r:List AV} {rs:List (List AV)} (h:J4 (r::rs)=true):(∃a x,r=[.v (.int .i64 a),x])∧J4 rs=true:=by
 simp only[J4,List.all_cons,Bool.and_eq_true] at h
 refine⟨?_,h.2⟩
 have h1:=h.1
 split at h1
 ·rename_i k x
  obtain⟨a,ha⟩:=yX h1
  exact⟨a,x,by rw[ZP ha]⟩
 ·cases h1
theorem Ada {σ:Cf} (a:Int):∀{rows:List (List AV)} {es:List MapEntry} (i:Nat),RepEnts σ rows es→J4 rows=true→
  (Instr.findNow (.int .i64) (.int .i64 a) es i=some none∧HJ rows a=false∧(∀d,F4 rows a d=d)∧∀x v b,Rep σ x v→RepEnts σ (E1 rows a x) (es++[⟨.int .i64 a,v,b⟩]))∨
  ∃j e,Instr.findNow (.int .i64) (.int .i64 a) es i=some (some (i+j,e.val))∧es[j]? =some e∧e.key= .int .i64 a∧HJ rows a=true∧(∀d,Rep σ (F4 rows a d) e.val)∧∀x v,Rep σ x v→RepEnts σ (E1 rows a x) (es.set j {e with key:= .int .i64 a,val:=v})
 |[],es,i,h,_=>by
  simp only[RepEnts] at h;subst h
  refine .inl ⟨rfl,rfl,fun _=>rfl,fun x v b hx=>⟨_,[],rfl, ?_,rfl⟩⟩
  simp only[RepL]
  exact⟨_,_,rfl,by simp[Rep],_,_,rfl,hx,rfl⟩
 |r::rs,es,i,h,hm=>by
  obtain⟨⟨b,x,rfl⟩,hm'⟩:=XR hm
  obtain⟨e,es',rfl,h2,h3⟩:=h
  have h2':=h2
  simp only[RepL,List.cons.injEq] at h2
  obtain⟨y,ys,⟨rfl,rfl⟩,g1,z,zs,⟨rfl,rfl⟩,g2,_⟩:=h2
  have g1:e.key= .int .i64 b:=by simpa [Rep] using g1
  by_cases hab:b=a
  ·subst hab
   refine .inr ⟨0,e,by simp[Instr.findNow,Instr.sameNow,g1],rfl,g1,by simp[HJ,kI],fun d=>by simpa [F4,kI] using g2,fun x' v hx=> ?_⟩
   simp only[E1,kI,decide_true,cond_true,List.set_cons_zero]
   refine⟨_,_,rfl, ?_,h3⟩
   simp only[RepL]
   exact⟨_,_,rfl,by simp[Rep],_,_,rfl,hx,rfl⟩
  ·have hne:(a==b)=false:=by simp;omega
   have hk:¬kI (.v (.int .i64 b))=some a:=by simp[kI,hab]
   have hf:Instr.findNow (.int .i64) (.int .i64 a) (e::es') i=Instr.findNow (.int .i64) (.int .i64 a) es' (i+1):=by simp[Instr.findNow,Instr.sameNow,g1,hne]
   rcases Ada a (i+1) h3 hm' with⟨q1,q2,q3,q4⟩|⟨j,e',q1,q2,q3,q4,q5,q6⟩
   ·refine .inl ⟨hf.trans q1,by simp[HJ,hk,q2],fun d=>by simp[F4,hk,q3],fun x' v b' hx=> ?_⟩
    simp only[E1,decide_eq_false hk,cond_false,List.cons_append]
    exact⟨_,_,rfl,h2',q4 x' v b' hx⟩
   ·refine .inr ⟨j+1,e',by rw[hf,q1];congr 3;omega,by simpa using q2,q3,by simp[HJ,q4],fun d=>by simpa [F4,hk] using q5 d,fun x' v hx=> ?_⟩
    simp only[E1,decide_eq_false hk,cond_false,List.set_cons_succ]
    exact⟨_,_,rfl,h2',q6 x' v hx⟩
theorem MapF.of {σ:Cf} {n:Nm} {rows:List (List AV)} (h:HInv σ hp) (hn:hl hp (.c n 0)=some (.gd false (.sl 0 true rows []))):σ.al n∧σ.M (σ.rb n)∧∃es:Array MapEntry,σ.w.heap[σ.rb n]? =some (.map es es.size)∧(∀r∈rows,AB r=true)∧RepEnts σ rows es.toList∧∀(i:Nat) (e:MapEntry),es[i]? =some e→e.born=i:=by
 obtain⟨h1,h2,h3⟩:=h.cel n 0 _ hn
 refine⟨h1,h2, ?_⟩
 rcases h3 with⟨cs,T,x,g1,g2,g3,g4⟩|⟨rows',es,g1,g2,g3,g4,g5⟩
 ·simp only[Rep] at g4
  have:=g4.2 trivial
  subst this
  simp[undef,Bq] at g3
 ·cases g1.1
  exact⟨es,g2,g3,g4,g5⟩
theorem Ly {hp:Hp} {n:Nm} {j:Nat}:∀(ns:List Nm),hl (frz hp ns++hp) (.c n j)=hl hp (.c n j)
 |[]=>rfl
 |m::ns=>by
  simp only[frz]
  split
  ·simp only[List.cons_append,hl,reduceCtorEq,if_false];exact Ly ns
  ·exact Ly ns
theorem XS (h:HInv σ hp) (hnm:¬σ.al nm) {t:TypeId} (ho:o.op= .makeMap t none):Step P o a σ nm ([(.c nm 0,mpE [])]++hp) (.mp nm):=by
 have e:=Evo.newBox (σ:=σ) (n:=nm) (o:= .map #[] 0) hnm
 have hno:∀j c,hl hp (.c nm j)=some c→False:=fun j c hc=>hnm (h.cel nm j c hc).1
 refine .inl ⟨.map (some σ.w.heap.size),_,σ.newBox nm (σ.w.alloc (.map #[] 0)),.inl ?_,⟨e, ?_,rfl,fun m hm=>hm⟩,⟨.inr rfl,by simp[Cf.newBox]⟩⟩
 ·simp[execOp,ho,Instr.makeMap,newObj,Sem.run,Cf.newBox]
 ·refine h.upd e (false,nm) (fun x hx _=>⟨.inl hx,BL (h.lt x hx)⟩) (fun l hl'=> ?_) (fun _ _ _=>rfl) (fun m=> ?_) (fun m j c hm hc=> ?_) (fun _ _ _ _ _ hm=>by cases hm) (fun x hx=> .inr ?_) (fun b hb=> ?_) e.sz (fun b hb hn=> ?_)
  ·simp only[List.cons_append,List.nil_append,hl]
   rw[if_neg (by rintro rfl;exact hl' rfl)]
  ·simp only[lenOf,List.cons_append,List.nil_append,hl,reduceCtorEq,if_false]
   exact h.ln m
  ·cases hm
   simp only[List.cons_append,List.nil_append,hl,Loc.c.injEq,true_and] at hc
   split at hc
   ·cases hc
    refine⟨.inr rfl,.inr (by simp[Cf.newBox]),.inr ⟨[],#[],⟨rfl,‹0=j›.symm⟩, ?_,by simp,rfl,by simp⟩⟩
    simp only[Cf.newBox,if_true]
    exact FK
   ·exact(hno j c hc).elim
  ·rcases hx with⟨_,hx,_⟩|⟨hx,_⟩
   ·simp[Cf.newBox] at hx;omega
   ·cases hx
  ·rcases hb with hb|hb
   ·have:=h.lt b hb;simp[Cf.newBox];omega
   ·simp[Cf.newBox];omega
  ·rcases hb with hb|hb
   ·exact absurd hb hn
   ·omega
theorem RA {n:Nm} {rows:List (List AV)} (h:Iw hp (.mp n)=some rows):hl hp (.c n 0)=some (.gd false (.sl 0 true rows [])):=by
 unfold Iw at h
 simp only at h
 split at h
 ·rename_i hn;cases h;exact hn
 ·cases h
theorem VD (h:HInv σ hp) {X:AV} {v:Value} {rows:List (List AV)} (hX:Rep σ X v) (hn:Iw hp X=some rows):(∃b,∃es:Array MapEntry,v= .map (some b)∧σ.w.heap[b]? =some (.map es es.size)∧RepEnts σ rows es.toList)∨v= .map none∧rows=[]:=by
 unfold Iw at hn
 split at hn
 ·split at hn
  ·rename_i hn'
   cases hn
   simp only[Rep] at hX
   obtain⟨q1,q2,es,q3,q4,q5,_⟩:=MapF.of h hn'
   exact .inl ⟨_,es,hX.2,q3,q5⟩
  ·cases hn
 ·cases hn
  simp only[Rep] at hX
  exact .inr ⟨hX,rfl⟩
 ·cases hn
theorem XT (h:HInv σ hp) {t kt et:TypeId} {m x:Operand} {X Y zd:AV} {ok:Bool} (ho:o.op= .lookup t m x ok) (ht:P.underlying t=some (.map kt et)) (hk:P.underlying kt=some (.int .i64)) (hz:cZv P et=some zd)
  (hX:Rep σ X (a.eval m)) (hY:Rep σ Y (a.eval x)) (hex:Kv hp zd ok X Y=some (vc,r,ws)) (hvc:vc):Step P o a σ nm (ws++hp) r:=by
 obtain⟨z,hz1,hz2⟩:=Xu hz
 unfold Kv at hex
 split at hex
 ·rename_i rows k hn
  cases hex
  simp only[Rep] at hY
  have zero:(Instr.lookup t (a.eval m) (.int .i64 k) ok).run P σ.w= .ok (if ok then .tuple #[z,.bool false] else z) σ.w→HJ rows k=false→(∀d,F4 rows k d=d)→Step P o a σ nm ([]++hp) (bif ok then .tup [F4 rows k zd,.b (HJ rows k)] else F4 rows k zd):=fun hr f2 f3=>by
   refine Step.quiet h (v:=if ok then .tuple #[z,.bool false] else z) (by simp[execOp,ho,hY,hr,Result.andThen]) ?_
   cases ok with
   |false=>simpa [f3] using hz2 σ
   |true=>
    simp only[cond_true,f2,f3,if_true,Rep]
    exact⟨[z,.bool false],rfl,z,_,rfl,hz2 σ,_,_,rfl,by simp[Rep],rfl⟩
  rcases VD h hX hn with⟨b,es,e1,e2,e3⟩|⟨e1,rfl⟩
  ·have hck:(Instr.checkKey es.isEmpty 10000 kt (.int .i64 k)).run P σ.w= .ok () σ.w:=MapKept.run_checkKey hk (by simp[MapKept.IsKey]) _ 9999
   rcases Ada (σ:=σ) k 0 e3 hvc with⟨f1,f2,f3,_⟩|⟨j,e,f1,f2,f3,f4,f5,_⟩
   ·exact zero (by rw[e1];simp[Instr.lookup,run_underlying ht,MapKept.run_getObj_map e2,hck,MapKept.run_findKey hk f1,hz1,Result.andThen]) f2 f3
   ·have hr:(Instr.lookup t (a.eval m) (.int .i64 k) ok).run P σ.w= .ok (if ok then .tuple #[e.val,.bool true] else e.val) σ.w:=by
     rw[e1];simp[Instr.lookup,run_underlying ht,MapKept.run_getObj_map e2,hck,MapKept.run_findKey hk f1,Result.andThen]
    refine Step.quiet h (v:=if ok then .tuple #[e.val,.bool true] else e.val) (by simp[execOp,ho,hY,hr,Result.andThen]) ?_
    cases ok with
    |false=>simpa using f5 zd
    |true=>
     simp only[cond_true,f4,if_true,Rep]
     exact⟨[e.val,.bool true],rfl,_,_,rfl,f5 zd,_,_,rfl,by simp[Rep],rfl⟩
  ·have hck:(Instr.checkKey true 10000 kt (.int .i64 k)).run P σ.w= .ok () σ.w:=MapKept.run_checkKey hk (by simp[MapKept.IsKey]) _ 9999
   exact zero (by rw[e1];simp[Instr.lookup,run_underlying ht,hck,MapKept.run_findKey hk (show Instr.findNow (.int .i64) (.int .i64 k) [] 0=some none from rfl),hz1,Result.andThen]) rfl fun _=>rfl
 ·cases hex
theorem Ow {a:Int} {x:AV} (hx:Cg x=true):∀{rows:List (List AV)},(∀r∈rows,AB r=true)→∀r∈E1 rows a x,AB r=true
 |[],_,r,hr=>by
  simp only[E1,List.mem_singleton] at hr;subst hr
  simp[AB,Cg,hx]
 |q::rs,h,r,hr=>by
  have ih:=Ow hx (rows:=rs) (a:=a) fun r hr=>h r (by simp[hr])
  have h0:=h q (by simp)
  rcases q with _|⟨k,_|⟨y,_|⟨z,zs⟩⟩⟩
  ·simp only[E1,List.mem_cons] at hr
   rcases hr with rfl|hr
   ·exact h0
   ·exact ih r hr
  ·simp only[E1,List.mem_cons] at hr
   rcases hr with rfl|hr
   ·exact h0
   ·exact ih r hr
  ·simp only[E1] at hr
   cases hd:decide (kI k=some a) with
   |true=>
    rw[hd,cond_true] at hr
    rcases List.mem_cons.1 hr with rfl|hr
    ·simp only[AB,Bool.and_eq_true,and_true] at h0⊢;exact⟨h0.1,hx⟩
    ·exact h r (by simp[hr])
   |false=>
    rw[hd,cond_false] at hr
    rcases List.mem_cons.1 hr with rfl|hr
    ·exact h0
    ·exact ih r hr
  ·simp only[E1,List.mem_cons] at hr
   rcases hr with rfl|hr
   ·exact h0
   ·exact ih r hr
theorem RB (h:HInv σ hp) {t kt et:TypeId} {m x y:Operand} {X Y Z:AV} (ho:o.op= .mapUpdate t m x y∨o.op= .insert t m x y) (ht:P.underlying t=some (.map kt et)) (hk:P.underlying kt=some (.int .i64))
  (hX:Rep σ X (a.eval m)) (hY:Rep σ Y (a.eval x)) (hZ:Rep σ Z (a.eval y)) (hex:Lk hp X Y Z=some (vc,r,ws)) (hvc:vc):Step P o a σ nm (ws++hp) r:=by
 unfold Lk at hex
 split at hex
 ·rename_i n
  split at hex
  ·rename_i rows k hn
   have hn:=RA hn
   cases hex
   obtain⟨v1,v2,v3,v4⟩:=hvc
   simp only[Rep] at hX hY
   obtain⟨σ1,f1,f2,f3,f4,f5,f6,f7,f8⟩:=h.frz (ons Z)
   have hr:=K0 h f1 f3 (ons Z) f7 Z _ v2 v3 (fun _ h=>h) hZ
   have hn1:hl (frz hp (ons Z)++hp) (.c n 0)=some (.gd false (.sl 0 true rows [])):=by rw[Ly];exact hn
   obtain⟨q1,q2,es,q3,q4,q5,q6⟩:=MapF.of f2 hn1
   have hrb:σ1.rb n=σ.rb n:=(f1.box n hX.1).2
   have hX2:a.eval m= .map (some (σ1.rb n)):=by rw[hrb];exact hX.2
   have hck:(Instr.checkKey false 10000 kt (.int .i64 k)).run P σ1.w= .ok () σ1.w:=MapKept.run_checkKey hk (by simp[MapKept.IsKey]) _ 9999
   have key:∃es':Array MapEntry,(Instr.mapUpdate t (.map (some (σ1.rb n))) (.int .i64 k) (a.eval y)).run P σ1.w= .ok () {σ1.w with heap:=σ1.w.heap.setIfInBounds (σ1.rb n) (.map es' es'.size)}∧
     RepEnts σ1 (E1 rows k (res hp Z)) es'.toList∧∀(i:Nat) (e:MapEntry),es'[i]? =some e→e.born=i:=by
    rcases Ada (σ:=σ1) k 0 q5 v1 with⟨g1,_,_,g4⟩|⟨j,e,g1,g2,g3,_,_,g6⟩
    ·refine⟨es.push ⟨.int .i64 k,a.eval y,es.size⟩, ?_,by rw[Array.toList_push];exact g4 _ _ _ hr,fun i e he=> ?_⟩
     ·simp[Instr.mapUpdate,run_underlying ht,MapKept.run_getObj_map q3,hck,MapKept.run_findKey hk g1,MapKept.run_setObj_map _ q3,Result.andThen]
     ·rw[Array.getElem?_push] at he
      split at he
      ·cases he;exact ‹_=_›.symm
      ·exact q6 i e he
    ·refine⟨es.modify j fun e=>{e with key:= .int .i64 k,val:=a.eval y}, ?_, ?_,fun i e' he=> ?_⟩
     ·have hkk:((es[j]?).map (·.key)).getD (.int .i64 k)= .int .i64 k:=by
       have:es[j]? =some e:=by simpa using g2
       rw[this];exact g3
      simp only[Instr.mapUpdate,Sem.run_bind,run_underlying ht,Result.andThen,MapKept.run_getObj_map q3,hck,MapKept.run_findKey hk g1,Nat.zero_add,hkk,MapKept.run_keyThatStays (d:= .int .i64) (k:= .int .i64 k) (by simp[MapKept.IsKey]),MapKept.run_setObj_map _ q3,Array.size_modify]
     ·have:(es.modify j fun e=>{e with key:= .int .i64 k,val:=a.eval y}).toList=es.toList.set j {e with key:= .int .i64 k,val:=a.eval y}:=by
       apply List.ext_getElem?
       intro i
       have ge:es[j]? =some e:=by simpa using g2
       rw[Array.getElem?_toList,Array.getElem?_modify,List.getElem?_set]
       by_cases hij:j=i
       ·subst hij
        obtain⟨hlt,hge⟩:=Array.getElem?_eq_some_iff.1 ge
        simp[hlt,hge]
       ·simp[hij]
      rw[this];exact g6 _ _ hr
     ·rw[Array.getElem?_modify] at he
      split at he
      ·rename_i hij
       subst hij
       cases hj:es[j]? with
       |none=>rw[hj] at he;simp at he
       |some e1=>rw[hj] at he;simp at he;subst he;exact q6 j e1 hj
      ·exact q6 i e' he
   obtain⟨es',k1,k2,k3⟩:=key
   rw[f3] at k1
   let w2:World:={σ.w with heap:=σ.w.heap.setIfInBounds (σ1.rb n) (.map es' es'.size)}
   have hlt:σ1.rb n<σ.w.heap.size:=by have:=f2.lt _ q2;rw[f3] at this;exact this
   have hoth:∀b,b≠σ1.rb n→w2.heap[b]? =σ1.w.heap[b]? :=fun b hb=>by
    rw[f3];simp[w2,Ne.symm hb]
   have hsm:w2.heap[σ1.rb n]? =some (.map es' es'.size):=by simp[w2,hlt]
   have hsz:σ1.w.heap.size≤w2.heap.size:=by rw[f3];simp[w2]
   have e2:Evo σ1 (σ1.at w2):=⟨fun _ h=>⟨h,rfl⟩,fun _ _ l h=>⟨l,h,Nat.le_refl _,fun _=>rfl⟩,fun b x hb hM=>⟨by
    show w2.heap[b]? =_
    rw[hoth b (fun e=>hM (e▸q2))];exact hb,hM⟩,rfl,hsz,by rw[f3];exact⟨rfl,rfl⟩⟩
   have own:Owns σ1 (frz hp (ons Z)++hp) (false,n) (σ1.rb n):= .inl ⟨rfl,rfl,0,_,hn1⟩
   have inv2:HInv (σ1.at w2) ((.c n 0,mpE (E1 rows k (res hp Z)))::(frz hp (ons Z)++hp)):=by
    refine f2.upd e2 (false,n) (fun x hx hno=>⟨hx,hoth x fun e=>hno (e▸own)⟩) (fun l hl'=> ?_) (fun _ _ _=>rfl) (fun m'=> ?_) (fun m' j c hm hc=> ?_) (fun _ _ _ _ _ hm=>by cases hm) (fun x hx=> .inl ?_) (fun b hb=>Nat.lt_of_lt_of_le (f2.lt b hb) hsz) hsz (fun b hb hn=>absurd hb hn)
    ·simp only[hl]
     rw[if_neg (by rintro rfl;exact hl' rfl)]
    ·simp only[lenOf,hl,reduceCtorEq,if_false]
     exact f2.ln m'
    ·cases hm
     simp only[hl,Loc.c.injEq,true_and] at hc
     split at hc
     ·cases hc
      exact⟨q1,q2,.inr ⟨_,es',⟨rfl,‹0=j›.symm⟩,hsm,Ow v4 q4,k2.map fun r vs=>RepL.mono e2 r vs,k3⟩⟩
     ·obtain⟨c1,c2,c3⟩:=f2.cel n j c hc
      rcases c3 with⟨cs,T,xx,d1,_⟩|⟨rows2,es2,⟨_,d1⟩,_⟩
      ·rw[q3] at d1;cases d1
      ·exact absurd d1.symm ‹¬0=j›
    ·rcases hx with⟨_,hx,_⟩|⟨hx,_⟩
     ·have:σ1.rb n=x:=hx
      rw[←this];exact own
     ·cases hx
   refine .inl ⟨undef,w2,σ1.at w2,.inr ⟨?_,rfl⟩,⟨f1.trans e2,inv2,rfl,fun m' hm=> .inl (f4 m' hm)⟩,by simp[Rep]⟩
   rcases ho with ho|ho<;>simp[execOp,ho,hX2,hY,k1,Result.andThen,w2]
  ·cases hex
 ·cases hex
theorem VE {S:Tab} (hS:TabOK P S) (gl:Gl σ) (h:HInv σ hp) (hal:∃c,∀m,σ.al m→m.2≤c) {c:Call} {f:Nat} {args:List AV} (ho:o.op= .call c) (hc:c.callee= .value (.func f)) (hx:RepL σ args (c.args.toList.map a.eval))
  (hex:Ix S hp f args=some (vc,r,ws)) (hvc:vc):Step P o a σ nm (ws++hp) r:=by
 obtain⟨k1,k2⟩:=Ov (nm:=nm) hS gl h hal hx hex hvc
 refine .inr ⟨f,_, ?_,k2⟩
 have hr:=EH k1 (c.args.map a.eval) σ.w
 rw[←Array.toList_map,Array.toArray_toList]
 simp[execOp,ho,resolve,hc,Act.eval,Deferred.ofValue,invoke,hr]
theorem Pw {S:Tab} (hS:TabOK P S) (gl:Gl σ) (h:HInv σ hp) (hal:∃c,∀m,σ.al m→m.2≤c) {c:Call} {x:Operand} {X:AV} {args:List AV} (ho:o.op= .call c) (hc:c.callee= .value x) (hX:Rep σ X (a.eval x)) (hx:RepL σ args (c.args.toList.map a.eval))
  (hex:Rc S hp X args=some (vc,r,ws)) (hvc:vc):Step P o a σ nm (ws++hp) r:=by
 unfold Rc at hex
 split at hex
 ·rename_i f first caps
  simp only[Rep] at hX
  obtain⟨xs,ys,e1,e2,e3⟩:=hX
  obtain⟨k1,k2⟩:=Ov (nm:=nm) hS gl h hal (DL (DL e2 hx) e3) hex hvc
  refine .inr ⟨f,_, ?_,k2⟩
  have hr:=fun args=>EH k1 args σ.w
  simp only[execOp,ho,resolve,hc,e1,Sem.run_bind,Deferred.ofValue,Sem.run_pure,Result.andThen,invoke,hr]
  congr 1
  congr 1
  apply Array.ext'
  simp
 ·simp at hex
end
section
variable {P:Program} {o:Oper} {a:Act} {σ:Cf} {nm:Nm} {hp:Hp} {r:AV} {vc:Prop} {ws:Hp}
theorem It {S:Tab} {env:Env} {g:Bool} {k:AK} (hk:k= .bad) (hex:exK S env hp nm g k=some (vc,r,ws)):False:=by
 subst hk;simp[exK] at hex
theorem VF {S:Tab} (hS:TabOK P S) (gl:Gl σ) (h:HInv σ hp) {env:Env} (ht:TInv σ env a) (hnm:¬σ.al nm∧∃c,∀m,σ.al m→m.2≤c) {g:Bool} (hg:g=true) {c:Call} (ho:o.op= .call c)
  (hex:exK S env hp nm g (HM P c)=some (vc,r,ws)) (hvc:vc):Step P o a σ nm (ws++hp) r:=by
 have bad:exK S env hp nm g .bad=some (vc,r,ws)→Step P o a σ nm (ws++hp) r:=fun e=>(It rfl e).elim
 have A:=Eo hg ht
 have AL:=EX hg ht c.args.toList
 unfold HM at hex
 cases hcal:c.callee with
 |value f=>
  rw[hcal] at hex
  cases f with
  |func f=>
   simp only[exK] at hex
   exact VE hS gl h hnm.2 ho hcal AL hex hvc
  |tmp t=>
   simp only[exK] at hex
   exact Pw hS gl h hnm.2 ho hcal (A _) AL hex hvc
  |const v=>
   simp only[exK] at hex
   exact Pw hS gl h hnm.2 ho hcal (A _) AL hex hvc
  |global g'=>
   simp only[exK] at hex
   exact Pw hS gl h hnm.2 ho hcal (A _) AL hex hvc
 |invoke r' m=>rw[hcal] at hex;exact bad hex
 |builtin b=>
  rw[hcal] at hex
  cases b
  case len=>
   simp only at hex
   split at hex
   ·rename_i x t hx htt
    split at hex
    ·rename_i e he
     simp only[exK] at hex
     exact Xz h ho hcal hx htt he (A x) hex hvc
    ·rename_i he
     simp only[exK,List.map_cons,List.map_nil] at hex
     exact VB h ho hcal hx htt he (A x) hex
    ·exact bad hex
   ·exact bad hex
  case cap=>
   simp only at hex
   split at hex
   ·rename_i x t hx htt
    split at hex
    ·rename_i e he
     simp only[exK] at hex
     exact XA h ho hcal hx htt he (A x) hex hvc
    ·exact bad hex
   ·exact bad hex
  case append=>
   simp only at hex
   split at hex
   ·rename_i s x t t' hx htt
    split at hex
    ·rename_i hteq
     subst hteq
     split at hex
     ·rename_i e he
      split at hex
      ·rename_i i zs hi hz
       split at hex
       ·rename_i h0
        simp only[exK] at hex
        exact XB h hnm.1 ho hcal hx htt he hi hz h0 (A s) (A x) hex hvc
       ·exact bad hex
      ·exact bad hex
     ·exact bad hex
    ·split at hex
     ·rename_i e kk he he'
      split at hex
      ·rename_i i zs hi hz
       split at hex
       ·rename_i h0
        simp only[exK] at hex
        exact Vx h hnm.1 ho hcal hx htt he he' hi hz h0 (A s) (A x) hex hvc
       ·exact bad hex
      ·exact bad hex
     ·exact bad hex
   ·exact bad hex
  case recover=>exact absurd hex (by simp[exK])
  case max=>
   simp only[exK] at hex
   exact Tb (isMax:=true) h ho hcal AL hex
  case min=>
   simp only[exK] at hex
   exact Tb (isMax:=false) h ho hcal AL hex
  all_goals exact bad hex
theorem ZQ {y:Operand} (h:opd y= .k (.sl 0 true [] [])):a.eval y= .slice none 0 0:=by
 cases y with
 |const v=>
  simp only[opd,Opd.k.injEq] at h
  unfold ofV at h
  split at h
  ·split at h<;>cases h
  ·unfold ofC at h
   split at h
   ·rfl
   ·cases h
 |tmp n=>simp[opd] at h
 |global g=>simp[opd] at h
 |func f=>simp[opd] at h
theorem XU {S:Tab} (h:HInv σ hp) {env:Env} (ht:TInv σ env a) {g:Bool} (hg:g=true) {op:BinOp} {t yt:TypeId} {x y:Operand} (ho:o.op= .binOp op t x y yt)
  (hex:exK S env hp nm g (En P op t (opd x) (opd y))=some (vc,r,ws)) (hvc:vc):Step P o a σ nm (ws++hp) r:=by
 have A:=Eo hg ht
 have sh:∀op',op=op'→(op'= .shl∨op'= .shr)→exK S env hp nm g (match P.underlying t with|some (.int _)=> .pr (.shf op') [opd x,opd y]|_=> .bad)=some (vc,r,ws)→Step P o a σ nm (ws++hp) r:=by
  rintro op' rfl ho' he
  split at he
  ·simp only[exK,List.map_cons,List.map_nil] at he
   exact XK h ho' ho (A x) (A y) he hvc
  ·exact(It rfl he).elim
 have bt:∀op',op=op'→(op'= .and∨op'= .or∨op'= .xor∨op'= .andNot)→exK S env hp nm g (match P.underlying t with|some (.int _)=> .pr (.bits op') [opd x,opd y]|_=> .bad)=some (vc,r,ws)→Step P o a σ nm (ws++hp) r:=by
  rintro op' rfl ho' he
  split at he
  ·simp only[exK,List.map_cons,List.map_nil] at he
   exact Vz h ho' ho (A x) (A y) he hvc
  ·exact(It rfl he).elim
 by_cases q1:op= .shl
 ·exact sh _ q1 (.inl rfl) (by rw[q1] at hex;exact hex)
 by_cases q2:op= .shr
 ·exact sh _ q2 (.inr rfl) (by rw[q2] at hex;exact hex)
 by_cases q3:op= .and
 ·exact bt _ q3 (.inl rfl) (by rw[q3] at hex;exact hex)
 by_cases q4:op= .or
 ·exact bt _ q4 (.inr (.inl rfl)) (by rw[q4] at hex;exact hex)
 by_cases q5:op= .xor
 ·exact bt _ q5 (.inr (.inr (.inl rfl))) (by rw[q5] at hex;exact hex)
 by_cases q6:op= .andNot
 ·exact bt _ q6 (.inr (.inr (.inr rfl))) (by rw[q6] at hex;exact hex)
 by_cases qs:P.underlying t=some .string
 ·have hc:exK S env hp nm g (IA op (opd x) (opd y))=some (vc,r,ws):=by
   unfold En at hex
   rw[qs] at hex
   cases op<;>first|exact absurd rfl q1|exact absurd rfl q2|exact absurd rfl q3|exact absurd rfl q4|exact absurd rfl q5|exact absurd rfl q6|exact hex
  unfold IA at hc
  cases op
  case add=>simp only[exK,List.map_cons,List.map_nil] at hc;exact VA h ho (A x) (A y) hc hvc
  case eql=>simp only[exK,List.map_cons,List.map_nil] at hc;exact Rx h (.inl ⟨rfl,rfl⟩) ho (A x) (A y) hc hvc
  case neq=>simp only[exK,List.map_cons,List.map_nil] at hc;exact Rx h (.inr ⟨rfl,rfl⟩) ho (A x) (A y) hc hvc
  all_goals exact(It rfl hc).elim
 by_cases qi:∃ms,P.underlying t=some (.interface ms)
 ·obtain⟨ms,qi⟩:=qi
  have hc:exK S env hp nm g (IB op (opd x) (opd y))=some (vc,r,ws):=by
   unfold En at hex
   rw[qi] at hex
   cases op<;>first|exact absurd rfl q1|exact absurd rfl q2|exact absurd rfl q3|exact absurd rfl q4|exact absurd rfl q5|exact absurd rfl q6|exact hex
  unfold IB at hc
  split at hc
  ·rename_i hy
   simp only[exK,List.map_cons,List.map_nil] at hc;exact Qa h (.inl ⟨rfl,rfl⟩) ho qi hy (A x) hc
  ·rename_i hy
   simp only[exK,List.map_cons,List.map_nil] at hc;exact Qa h (.inr ⟨rfl,rfl⟩) ho qi hy (A x) hc
  ·exact(It rfl hc).elim
 by_cases qp:∃e,P.underlying t=some (.pointer e)
 ·obtain⟨e,qp⟩:=qp
  have hc:exK S env hp nm g (IC op (opd x) (opd y))=some (vc,r,ws):=by
   unfold En at hex
   rw[qp] at hex
   cases op<;>first|exact absurd rfl q1|exact absurd rfl q2|exact absurd rfl q3|exact absurd rfl q4|exact absurd rfl q5|exact absurd rfl q6|exact hex
  unfold IC at hc
  split at hc
  ·rename_i hy
   simp only[exK,List.map_cons,List.map_nil] at hc;exact Qb h (.inl ⟨rfl,rfl⟩) ho qp hy (A x) hc
  ·rename_i hy
   simp only[exK,List.map_cons,List.map_nil] at hc;exact Qb h (.inr ⟨rfl,rfl⟩) ho qp hy (A x) hc
  ·exact(It rfl hc).elim
 have key:En P op t (opd x) (opd y)= .bad∨(∃n e,P.underlying t=some (.slice e)∧(op= .eql∧n=false∨op= .neq∧n=true)∧opd y= .k (.sl 0 true [] [])∧En P op t (opd x) (opd y)= .nils n (opd x))∨(∃td ks,P.underlying t=some td∧BU td=true∧FR P 8 t=some ks∧En P op t (opd x) (opd y)= .bin op (.cells ks) (opd x) (opd y))∨
   En P op t (opd x) (opd y)= .bin op .int (opd x) (opd y)∨En P op t (opd x) (opd y)= .bin op .bool (opd x) (opd y)∧P.underlying t=some .bool:=by
  unfold En
  split
  ·exact absurd rfl q1
  ·exact absurd rfl q2
  ·exact absurd rfl q3
  ·exact absurd rfl q4
  ·exact absurd rfl q5
  ·exact absurd rfl q6
  ·split
   ·exact .inr (.inr (.inr (.inl rfl)))
   ·rename_i hu;exact .inr (.inr (.inr (.inr ⟨rfl,hu⟩)))
   ·rename_i hu;exact absurd hu qs
   ·rename_i ms hu;exact absurd ⟨ms,hu⟩ qi
   ·rename_i e hu;exact absurd ⟨e,hu⟩ qp
   ·rename_i fs hu
    split
    ·rename_i ks hk;exact .inr (.inr (.inl ⟨_,ks,hu,rfl,hk,rfl⟩))
    ·exact .inl rfl
   ·rename_i n e hu
    split
    ·rename_i ks hk;exact .inr (.inr (.inl ⟨_,ks,hu,rfl,hk,rfl⟩))
    ·exact .inl rfl
   ·rename_i e hu
    split
    ·exact .inr (.inl ⟨_,e,hu,.inl ⟨rfl,rfl⟩,‹opd y=_›,rfl⟩)
    ·exact .inr (.inl ⟨_,e,hu,.inr ⟨rfl,rfl⟩,‹opd y=_›,rfl⟩)
    ·exact .inl rfl
   ·exact .inl rfl
 rcases key with k|⟨n,e,ku,kop,ky,k⟩|⟨td,ks,ku,kd,kk,k⟩|k|⟨k,ku⟩
 ·rw[k] at hex;exact(It rfl hex).elim
 ·rw[k] at hex
  simp only[exK] at hex
  exact Vv h ho kop ku (ZQ ky) (A x) hex hvc
 ·rw[k] at hex
  simp only[exK] at hex
  exact XG h ho ku kd kk (A x) (A y) hex hvc
 ·have hop:En P op t (opd x) (opd y)= .bin op .int (opd x) (opd y)∨En P op t (opd x) (opd y)= .bin op .bool (opd x) (opd y)∧P.underlying t=some .bool:= .inl k
  rw[k] at hex
  simp only[exK] at hex
  exact P9 h ho hop k (A x) (A y) hex hvc
 ·have hop:En P op t (opd x) (opd y)= .bin op .int (opd x) (opd y)∨En P op t (opd x) (opd y)= .bin op .bool (opd x) (opd y)∧P.underlying t=some .bool:= .inr ⟨k,ku⟩
  rw[k] at hex
  simp only[exK] at hex
  exact P9 h ho hop k (A x) (A y) hex hvc
theorem Ml {S:Tab} (hS:TabOK P S) (gl:Gl σ) (h:HInv σ hp) {env:Env} (ht:TInv σ env a) (hnm:¬σ.al nm∧∃c,∀m,σ.al m→m.2≤c) {g:Bool} (hg:g=true)
  (hex:exK S env hp nm g (cK P o.op)=some (vc,r,ws)) (hvc:vc):Step P o a σ nm (ws++hp) r:=by
 have bad:exK S env hp nm g .bad=some (vc,r,ws)→Step P o a σ nm (ws++hp) r:=fun e=>(It rfl e).elim
 have A:=Eo hg ht
 cases ho:o.op with
 |move x=>
  simp only[ho,cK,exK,yE,Prod.mk.injEq] at hex
  obtain⟨_,rfl,rfl⟩:=hex
  exact Ta h (.inl ho) (A x)
 |assign x=>
  simp only[ho,cK,exK,yE,Prod.mk.injEq] at hex
  obtain⟨_,rfl,rfl⟩:=hex
  exact Ta h (.inr ho) (A x)
 |pick c x y=>
  simp only[ho,cK,exK] at hex
  exact Vq h hg ho (MW ht c) (MW ht x) (MW ht y) hex
 |alloc t=>
  simp only[ho,cK] at hex
  split at hex
  ·rename_i zs hz
   split at hex
   ·simp[exK] at hex
   simp only[exK,yE,Prod.mk.injEq] at hex
   obtain⟨_,rfl,rfl⟩:=hex
   exact T9 h hnm.1 ho hz
  ·exact bad hex
 |box t x=>
  simp only[ho,cK,exK,TZ] at hex
  split at hex
  ·rename_i cs hcs
   split at hex
   ·simp only[yE,Prod.mk.injEq] at hex
    obtain⟨_,rfl,rfl⟩:=hex
    exact Xv h hnm.1 ho (A x) hcs
   ·simp at hex
  ·simp at hex
 |build t parts=>
  simp only[ho,cK,Hc] at hex
  split at hex
  ·rename_i zs pf hz hpf
   split at hex
   ·rename_i ps hps
    simp only[exK] at hex
    exact Ub h (f:=fun x=>ung g (opv env x)) ho hz hpf hps (fun x=>A x) hex
   ·exact bad hex
  ·exact bad hex
 |buildSlice t len parts=>
  simp only[ho,cK] at hex
  split at hex
  ·rename_i e he
   split at hex
   ·rename_i i zs hi hz
    split at hex
    ·rename_i h0
     simp only[exK] at hex
     exact XH h hnm.1 (f:=fun x=>ung g (opv env x)) ho he hi hz h0 (fun x=>A x) hex hvc
    ·exact bad hex
   ·exact bad hex
  ·exact bad hex
 |load t x=>
  simp only[ho,cK] at hex
  split at hex
  ·rename_i d i hd hi
   simp only[exK] at hex
   exact ZK gl h ho hd hi (A x) hex hvc
  ·exact bad hex
 |store t x y=>
  simp only[ho,cK] at hex
  split at hex
  ·rename_i i hi
   simp only[exK] at hex
   exact ZL h ho hi (A x) (A y) hex hvc (fun _ h=> .inl h)
  ·exact bad hex
 |fieldAddr s x f=>
  simp only[ho,cK] at hex
  split at hex
  ·rename_i fs hfs
   split at hex
   ·rename_i fd hfd
    split at hex
    ·rename_i i hi
     split at hex
     ·exact bad hex
     ·rename_i h0
      simp only[exK] at hex
      exact ZM h ho hfs hfd hi h0 (A x) hex
    ·exact bad hex
   ·exact bad hex
  ·exact bad hex
 |field t x f=>
  simp only[ho,cK] at hex
  split at hex
  ·rename_i fs hfs
   split at hex
   ·rename_i fd hfd
    split at hex
    ·rename_i d i hd hi
     simp only[exK] at hex
     exact Xw h ho hfs hfd hd hi (A x) hex
    ·exact bad hex
   ·exact bad hex
  ·exact bad hex
 |indexAddr t x ix=>
  simp only[ho,cK] at hex
  split at hex
  ·rename_i e he
   split at hex
   ·rename_i i hi
    simp only[exK] at hex
    exact ZN h ho he hi (A x) (A ix) hex hvc
   ·exact bad hex
  ·rename_i n e he
   split at hex
   ·rename_i i hi
    simp only[exK] at hex
    exact Xx h ho he hi (A x) (A ix) hex hvc
   ·exact bad hex
  ·exact bad hex
 |index t x ix=>
  simp only[ho,cK] at hex
  split at hex
  ·rename_i n e he
   split at hex
   ·rename_i d i hd hi
    simp only[exK] at hex
    exact Vr h ho he hd hi (A x) (A ix) hex hvc
   ·exact bad hex
  ·rename_i he
   simp only[exK,List.map_cons,List.map_nil] at hex
   exact VC h ho he (A x) (A ix) hex hvc
  ·exact bad hex
 |binOp op t x y yt=>
  simp only[ho,cK] at hex
  exact XU h ht hg ho hex hvc
 |unOp op t x=>
  simp only[ho,cK,exK] at hex
  exact ZO h ho (A x) hex hvc
 |extract x i=>
  simp only[ho,cK,exK] at hex
  exact Xy h ho (A x) hex
 |call c=>
  simp only[ho,cK] at hex
  exact VF hS gl h ht hnm hg ho hex hvc
 |makeFunc fn f c=>
  simp only[ho,cK,exK,yE,Prod.mk.injEq] at hex
  obtain⟨_,rfl,rfl⟩:=hex
  exact XC h ho (EX hg ht _) (EX hg ht _)
 |slice t x lo hi mx=>
  simp only[ho,cK] at hex
  split at hex
  ·rename_i e he
   split at hex
   ·rename_i i hi'
    simp only[exK] at hex
    cases hm:S.m with
    |false=>
     rw[hm,cond_false] at hex
     refine Rv (f:=fun y=>ung g (opv env (opd y))) h ho he hi' (A x) (fun y=>A y) ?_ hvc
     rw[←hex]
     cases lo<;>cases hi<;>cases mx<;>rfl
    |true=>
     rw[hm,cond_true] at hex
     refine Vy (f:=fun y=>ung g (opv env (opd y))) h hnm.1 ho he hi' (A x) (fun y=>A y) ?_ hvc
     rw[←hex]
     cases lo<;>cases hi<;>cases mx<;>rfl
   ·exact bad hex
  ·rename_i he
   split at hex
   ·simp only[exK,List.map_cons,List.map_nil] at hex
    exact Lv (lo:=none) (hi:=none) (f:=fun y=>ung g (opv env (opd y))) h ho he (A x) (fun y=>A y) hex hvc
   ·rename_i l
    simp only[exK,List.map_cons,List.map_nil] at hex
    exact Lv (lo:=some l) (hi:=none) (f:=fun y=>ung g (opv env (opd y))) h ho he (A x) (fun y=>A y) hex hvc
   ·rename_i l
    simp only[exK,List.map_cons,List.map_nil] at hex
    exact Lv (lo:=none) (hi:=some l) (f:=fun y=>ung g (opv env (opd y))) h ho he (A x) (fun y=>A y) hex hvc
   ·rename_i l l'
    simp only[exK,List.map_cons,List.map_nil] at hex
    exact Lv (lo:=some l) (hi:=some l') (f:=fun y=>ung g (opv env (opd y))) h ho he (A x) (fun y=>A y) hex hvc
   ·exact bad hex
  ·exact bad hex
 |makeInterface t x=>
  simp only[ho,cK] at hex
  split at hex
  ·rename_i fs hs
   simp only[exK,List.map_cons,List.map_nil] at hex
   exact XM h ho hs (A x) hex
  ·exact bad hex
 |typeAssert x xt t b=>
  simp only[ho,cK] at hex
  split at hex
  ·rename_i fs hs
   simp only[exK,List.map_cons,List.map_nil] at hex
   exact XN h ho hs (A x) hex hvc
  ·exact bad hex
 |panic x=>simp only[ho,cK,exK] at hex;simp at hex
 |defer c=>
  simp only[ho,cK] at hex
  split at hex
  ·simp[exK] at hex
  ·exact bad hex
 |nilCheck x=>
  simp only[ho,cK,exK] at hex
  exact XD h ho (A x) hex
 |convert src dst x=>
  simp only[ho,cK] at hex
  split at hex
  ·rename_i hs hd
   simp only[exK] at hex
   exact XE h ho hs hd (A x) hex hvc
  ·rename_i k1 k2 hne hs hd
   simp only[exK,List.map_cons,List.map_nil] at hex
   exact XL h ho hs hd (A x) hex
  ·rename_i e hs hd
   split at hex
   ·rename_i i hu hi
    split at hex
    ·simp only[exK] at hex
     exact XQ h ho hs hd hu (A x) hex hvc
    ·exact bad hex
   ·exact bad hex
  ·exact bad hex
 |makeSlice t x y=>
  simp only[ho,cK] at hex
  split at hex
  ·rename_i e he
   split at hex
   ·rename_i i zs hi hz
    split at hex
    ·rename_i h0
     simp only[exK] at hex
     exact XI h hnm.1 ho he hi hz h0 (A x) (A y) hex hvc
    ·exact bad hex
   ·exact bad hex
  ·exact bad hex
 |entry x=>simp[ho,cK,exK] at hex
 |makeMap t r0=>
  cases r0 with
  |none=>
   simp only[ho,cK,exK,yE,Prod.mk.injEq] at hex
   obtain⟨_,rfl,rfl⟩:=hex
   exact XS h hnm.1 ho
  |some _=>simp only[ho,cK] at hex;exact bad hex
 |lookup t m x ok=>
  simp only[ho,cK,JB] at hex
  split at hex
  ·rename_i kt et he
   split at hex
   ·rename_i zd hk hz
    simp only[exK] at hex
    exact XT h ho he hk hz (A m) (A x) hex hvc
   ·exact bad hex
  ·exact bad hex
 |mapUpdate t m x y=>
  simp only[ho,cK,ID] at hex
  split at hex
  ·rename_i kt et he
   split at hex
   ·rename_i hk
    simp only[exK] at hex
    exact RB h (.inl ho) he hk (A m) (A x) (A y) hex hvc
   ·exact bad hex
  ·exact bad hex
 |insert t m x y=>
  simp only[ho,cK,ID] at hex
  split at hex
  ·rename_i kt et he
   split at hex
   ·rename_i hk
    simp only[exK] at hex
    exact RB h (.inr ho) he hk (A m) (A x) (A y) hex hvc
   ·exact bad hex
  ·exact bad hex
 |range t x=>
  simp only[ho,cK] at hex
  split at hex
  ·simp[exK] at hex
  ·exact bad hex
 |next x s=>
  cases s
  ·simp[ho,cK,exK] at hex
  ·simp only[ho,cK] at hex;exact bad hex
 |_=>simp only[ho,cK] at hex;exact bad hex
def cG (ops:Array Oper) (g:Option (Nat×Bool)):Option (Option (Nat×Bool)):=
 match g with
 |none=>some none
 |some (j,want)=>match(ops[j]?).bind (·.dst) with
  |some d=>some (some (d,want))
  |none=>none
def dOK (nt:Nat):Option Nat→Bool
 |some d=>decide (d<nt)
 |none=>true
def cOp (P:Program) (nt:Nat) (ops:Array Oper) (o:Oper):Option AOp:=
 match cG ops o.guard with
 |none=>none
 |some g=>if dOK nt o.dst=true then some ⟨o.dst,g,cK P o.op⟩ else none
theorem TInv.mono {σ σ':Cf} {env:Env} {a:Act} (h:TInv σ env a) (e:Evo σ σ'):TInv σ' env a:=fun t=>(h t).mono e
theorem TInv.put {env:Env} {d:Option Nat} {v:Value} (h:TInv σ env a) (hd:∀k,d=some k→k<a.tmps.size) (hr:Rep σ r v):TInv σ (BX d r env) (a.put d v):=by
 intro t
 cases d with
 |none=>exact h t
 |some k=>
  simp only[BX,lk,Act.put]
  by_cases e:k=t
  ·subst e
   rw[if_pos rfl]
   have:=hd k rfl
   simpa [Array.getD_eq_getD_getElem?,this] using hr
  ·rw[if_neg e]
   have:=h t
   simp only[Array.getD_eq_getD_getElem?,Array.getElem?_setIfInBounds_ne e] at this⊢
   exact this
theorem E3 {env:Env} {ops:Array Oper} {o:Oper} {ao:Option (Nat×Bool)} {g:Bool} (ht:TInv σ env a) (hc:cG ops o.guard=some ao) (hg:EF env ao=some g):Region.wanted o (yielded ops a.tmps)=g:=by
 unfold Region.wanted
 cases hgd:o.guard with
 |none=>
  rw[hgd] at hc
  simp[cG] at hc
  subst hc
  simp[EF] at hg
  simpa using hg
 |some p=>
  obtain⟨j,want⟩:=p
  rw[hgd] at hc
  simp only[cG] at hc
  split at hc
  ·rename_i d hd
   simp at hc
   subst hc
   simp only[EF] at hg
   have hr:=ht d
   have hy:yielded ops a.tmps j=match a.tmps[d]? with|some (.bool b)=>some b|_=>none:=by
    unfold yielded
    rw[hd]
    simp only[Option.bind_some]
    cases a.tmps[d]? with
    |none=>rfl
    |some v=>cases v<;>rfl
   simp only[hy]
   unfold gb at hg
   split at hg
   ·rename_i b hb
    rw[hb] at hr
    simp[Rep] at hr
    simp at hg
    cases hv:a.tmps[d]? with
    |none=>simp[hv,undef] at hr
    |some v=>simp[hv] at hr;subst hr;subst hg;cases b<;>cases want<;>rfl
   ·rename_i c b hb
    rw[hb] at hr
    simp only[Rep] at hr
    simp at hg
    subst hg
    cases c with
    |true=>
     have hr':=hr.1 rfl
     cases hv:a.tmps[d]? with
     |none=>simp[hv,undef] at hr'
     |some v=>simp[hv] at hr';subst hr';cases b<;>cases want<;>rfl
    |false=>
     have hr':=hr.2 rfl
     cases hv:a.tmps[d]? with
     |none=>simp
     |some v=>simp[hv,undef] at hr';subst hr';simp
   ·simp at hg
  ·simp at hc
end
def Cu:Opd→List Nat
 | .t n=>[n]
 | .k _=>[]
def HN (xs:List Opd):List Nat:=xs.flatMap Cu
def akT:AK→List Nat
 | .mv x=>Cu x
 | .pr _ xs=>HN xs
 | .b2s x=>Cu x
 | .pick c a b=>Cu c++Cu a++Cu b
 | .box _ x=>Cu x
 | .alloc _=>[]
 | .build _ ps=>ps.flatMap fun p=>Cu p.2.2
 | .bsl _ _ _ ps=>ps.flatMap fun p=>Cu p.2
 | .ld _ _ x=>Cu x
 | .st _ a x=>Cu a++Cu x
 | .fa _ x=>Cu x
 | .fld _ _ _ x=>Cu x
 | .ia _ x i=>Cu x++Cu i
 | .iaA _ _ x i=>Cu x++Cu i
 | .idxA _ _ _ x i=>Cu x++Cu i
 | .bin _ _ x y=>Cu x++Cu y
 | .un _ x=>Cu x
 | .ext x _=>Cu x
 | .call _ as=>HN as
 | .cv x as=>Cu x++HN as
 | .len x=>Cu x
 | .app _ _ _ s x=>Cu s++Cu x
 | .mm _ xs=>HN xs
 | .mkf _ a b=>HN a++HN b
 | .slc _ x l h m=>Cu x++HN l.toList++HN h.toList++HN m.toList
 | .nilc x=>Cu x
 | .cnv _ x=>Cu x
 | .nils _ x=>Cu x
 | .cap x=>Cu x
 | .appn _ _ _ s x=>Cu s++Cu x
 | .pan x=>Cu x
 | .dfr x=>Cu x
 | .rcv=>[]
 | .allocB _=>[]
 | .mks _ _ _ n c=>Cu n++Cu c
 | .ent x=>Cu x
 | .mkm=>[]
 | .mlk _ _ m k=>Cu m++Cu k
 | .mup m k x=>Cu m++Cu k++Cu x
 | .rng x=>Cu x
 | .nxt x=>Cu x
 | .bad=>[]
def J7 (o:AOp):List Nat:=
 (match o.g with|some (t,_)=>[t]|none=>[])++akT o.k
def hw:AK→Bool
 | .allocB _| .pan _| .dfr _| .rcv| .mks _ _ _ _ _| .ent _| .mkm| .mup _ _ _| .rng _| .nxt _| .box _ _| .alloc _| .bsl _ _ _ _| .st _ _ _| .call _ _| .cv _ _| .app _ _ _ _ _| .appn _ _ _ _ _| .slc _ _ _ _ _=>true
 |_=>false
def ht:AK→Bool
 | .ld _ _ _| .ia _ _ _| .len _| .b2s _| .mlk _ _ _ _=>true
 |k=>hw k
def CY (o:Oper):List Nat:=(o.after.toList.filter fun e=>Region.binds .any e).map (·.on)
def He (B:List Nat) (es:List Nat):Nat:=es.foldl (fun s e=>s|||2^e|||B.getD e 0) 0
def M0 (B:List Nat):Nat→List Oper→Bool
 |_,[]=>true
 |j,o::r=>(CY o).all (fun e=>decide (e<j))&&(B.getD j 0==He B (CY o))&&M0 B (j+1) r
def HO (a b:AOp):Bool:=
 (match a.d with|none=>true|some t=> !(J7 b).contains t&&b.d !=some t)&&(match b.d with|none=>true|some t=> !(J7 a).contains t)
def Ox (B:Nat) (o:AOp):Nat→List AOp→Bool
 |_,[]=>true
 |k,p::r=>(B.testBit k||HO p o)&&Ox B o (k+1) r
def M1 (B:Nat) (j:Nat) (o:AOp):Nat→List AOp→List (Nat×Nat)
 |_,[]=>[]
 |k,p::r=>bif !B.testBit k&&((hw p.k&&ht o.k)||(ht p.k&&hw o.k)) then(k,j)::M1 B j o (k+1) r else M1 B j o (k+1) r
def tOK (B:List Nat) (all:List AOp):Nat→List AOp→Bool
 |_,[]=>true
 |j,o::r=>Ox (B.getD j 0) o 0 (all.take j)&&tOK B all (j+1) r
def unl (B:List Nat) (all:List AOp):Nat→List AOp→List (Nat×Nat)
 |_,[]=>[]
 |j,o::r=>M1 (B.getD j 0) j o 0 (all.take j)++unl B all (j+1) r
def Oy {α:Type}:List Nat→(List Nat→α)→α
 |[],k=>k []
 |x::xs,k=>CheckFast.force x fun v=>Oy xs fun vs=>k (v::vs)
theorem Qc {α:Type}:∀(l:List Nat) (k:List Nat→α),Oy l k=k l
 |[],_=>rfl
 |x::xs,k=>by simp only[Oy,CheckFast.force_eq,Qc xs]
def Oz (ops:Array Oper) (l:List AOp):Option (List (Nat×Nat)):=
 Oy (CheckFast.beforeF ops).toList fun B=>bif M0 B 0 ops.toList&&tOK B l 0 l then some (unl B l 0 l) else none
end Go.Proofs.YtciphecegkfaiaaGreat.Am
