import Derived.Test.YtciphecegkfaiaaGreatA1
import Derived.CheckFast
set_option linter.unusedSimpArgs false
set_option linter.unusedVariables false
namespace Go.Proofs.YtciphecegkfaiaaGreat.Am
open Go
def Iq(P:Program)(t:TypeId):Option (List AV):=match P.info? t with
 |some i=>match i.zero with|some z=>if z.cells.toList.all Bs=true/\z.cells.size=i.size then some (z.cells.toList.map JY)else none|none=>none
 |none=>none
def SR(P:Program)(t:TypeId):Option (Nat->Option (Nat×Nat)):=match P.underlying t with|some (.struct fs)=>(fs.toList.mapM (λf=>(P.info? f.type).map λi=>(f.offset,i.size))).map λpl=>(pl.toArray[·]?)|some (.array _ e)=>(P.info? e).map λj=>λi=>some (i*j.size,j.size)|_=>none
def La(pf:Nat->Option (Nat×Nat)):List (Nat×Operand)->Option (List (Nat×Nat×Opd))|[]=>some []|(i,x)::r=>match pf i,La pf r with|some (o,s),some ps=>some ((o,s,Aq x)::ps)|_,_=>none
def Iy(P:Program)(t:TypeId)(parts:List (Nat×Operand)):AK:=match Iq P t,SR P t with
 |some zs,some pf=>match La pf parts with|some ps=>.build zs ps|none=>.bad
 |_,_=>.bad
def Nq(e:TypeId->Option (List Bool))(P:Program):List Field->Nat->Option (List Bool)|[],_=>some []|f::fs,o=>if f.name= "_" \/f.offset≠o then none else match e f.type,P.info? f.type with|some ks,some i=>if i.size=ks.length/\ks.isEmpty=false then(Nq e P fs (o+ks.length)).map (ks++·)else none|_,_=>none
def G7(P:Program):Nat->TypeId->Option (List Bool)
 |0,_=>none
 |d+1,t=>match P.underlying t with
  |some (.int _)=>some [true]
  |some .bool=>some [false]
  |some (.struct fs)=>if P.stoodInHeld t=true\/P.eqGuardType P.depth t=true\/fs.isEmpty=true then none else Nq (G7 P d) P fs.toList 0
  |some (.array n e)=>match G7 P d e,P.info? e with|some [k],some i=>if P.eqGuardType P.depth t=true\/i.size≠1 then none else some (List.replicate n k)|_,_=>none
  |_=>none
def Kb(op:BinOp)(x y:Opd):AK:=match op with|.add=>.pr .scat [x,y]|.eql=>.pr (.seq false) [x,y]|.neq=>.pr (.seq true) [x,y]|_=>.bad
def Kc(op:BinOp)(x y:Opd):AK:=match op,y with|.eql,.k (.v .nilIface)=>.pr (.inil false) [x]|.neq,.k (.v .nilIface)=>.pr (.inil true) [x]|_,_=>.bad
def Kd(op:BinOp)(x y:Opd):AK:=match op,y with|.eql,.k (.v (.pointer none))=>.pr (.pnil false) [x]|.neq,.k (.v (.pointer none))=>.pr (.pnil true) [x]|_,_=>.bad
def Fk(P:Program)(op:BinOp)(t:TypeId)(x y:Opd):AK:=match op with
 |.shl=>match P.underlying t with|some (.int _)=>.pr (.shf .shl) [x,y]|_=>.bad
 |.shr=>match P.underlying t with|some (.int _)=>.pr (.shf .shr) [x,y]|_=>.bad
 |.and=>match P.underlying t with|some (.int _)=>.pr (.bits .and) [x,y]|_=>.bad
 |.or=>match P.underlying t with|some (.int _)=>.pr (.bits .or) [x,y]|_=>.bad
 |.xor=>match P.underlying t with|some (.int _)=>.pr (.bits .xor) [x,y]|_=>.bad
 |.andNot=>match P.underlying t with|some (.int _)=>.pr (.bits .andNot) [x,y]|_=>.bad
 |op=>match P.underlying t with
  |some (.int _)=>.bin op .int x y
  |some .bool=>.bin op .bool x y
  |some .string=>Kb op x y
  |some (.interface _)=>Kc op x y
  |some (.pointer _)=>Kd op x y
  |some (.struct _)=>match G7 P 8 t with|some ks=>.bin op (.cells ks) x y|none=>.bad
  |some (.array _ _)=>match G7 P 8 t with|some ks=>.bin op (.cells ks) x y|none=>.bad
  |some (.slice _)=>match op,y with|.eql,.k (.sl 0 true [] [])=>.nils false x|.neq,.k (.sl 0 true [] [])=>.nils true x|_,_=>.bad
  |_=>.bad
def YX:List AV->Bool|[.v (.pointer none),.sl _ _ [] _]=>true|_=>false
def Jg(P:Program)(c:Call):AK:=match c.callee with
 |.value (.func f)=>.call f (c.args.toList.map Aq)
 |.value x=>.cv (Aq x) (c.args.toList.map Aq)
 |.builtin .len=>match c.args.toList,c.argTypes.toList with
  |[x],[t]=>match P.underlying t with|some (.slice _)=>.len (Aq x)|some .string=>.pr .slen [Aq x]|_=>.bad
  |_,_=>.bad
 |.builtin .append=>match c.args.toList,c.argTypes.toList with
  |[s,x],[t,t']=>if t=t' then match P.underlying t with
   |some (.slice e)=>match P.info? e,Iq P e with|some i,some zs=>if 0<i.size/\0<i.bytes then .app i.size i.bytes zs (Aq s) (Aq x)else .bad|_,_=>.bad
   |_=>.bad
   else match P.underlying t,P.underlying t' with
    |some (.slice e),some (.int _)=>match P.info? e,Iq P e with|some i,some zs=>if 0<i.size/\0<i.bytes then .appn i.size i.bytes zs (Aq s) (Aq x)else .bad|_,_=>.bad
    |_,_=>.bad
  |_,_=>.bad
 |.builtin .cap=>match c.args.toList,c.argTypes.toList with
  |[x],[t]=>match P.underlying t with|some (.slice _)=>.cap (Aq x)|_=>.bad
  |_,_=>.bad
 |.builtin .recover=>.rcv
 |.builtin .max=>.mm true (c.args.toList.map Aq)
 |.builtin .min=>.mm false (c.args.toList.map Aq)
 |_=>.bad
def nV(P:Program)(t:TypeId):Option AV:=match P.info? t with
 |some i=>match i.zero with|some (.agg cs)=>if cs.toList.all Bs=true then some (.agg (cs.toList.map JY))else none|some v=>some (JY v)|none=>none
 |none=>none
theorem jB{P:Program}{t:TypeId}{z:AV}(h:nV P t=some z):∃v,(∀w,(zeroValue t).run P w=.ok v w)/\∀U,Rep U z v:=by
 unfold nV at h;split at h
 ·rename_i i hi;split at h
  ·rename_i cs hz;split at h
   ·rename_i hc;cases h
    refine⟨.agg cs,λw=>by simp[zeroValue,typeInfo,hi,hz,Sem.run,Result.andThen],λU=>?_⟩;simp only[Rep];exact⟨cs.toList,by simp,Ft.1 hc,L4 U _⟩
   ·cases h
  ·rename_i v _ hz;cases h
   exact⟨v,λw=>by simp[zeroValue,typeInfo,hi,hz,Sem.run,Result.andThen],λU=>LV U v⟩
  ·cases h
 ·cases h
def Ly(P:Program)(t:TypeId)(m k:Opd)(ok:Bool):AK:=match P.underlying t with
 |some (.map kt e)=>match P.underlying kt,nV P e with|some (.int .i64),some zd=>.mlk zd ok m k|_,_=>.bad
 |_=>.bad
def Ke(P:Program)(t:TypeId)(m k x:Opd):AK:=match P.underlying t with
 |some (.map kt _)=>match P.underlying kt with|some (.int .i64)=>.mup m k x|_=>.bad
 |_=>.bad
def cK(P:Program)(op:Op):AK:=match op with
 |.move x=>.mv (Aq x)
 |.assign x=>.mv (Aq x)
 |.pick c a b=>.pick (Aq c) (Aq a) (Aq b)
 |.alloc t=>match Iq P t with|some zs=>if YX zs=true then .allocB t else .alloc zs|none=>.bad
 |.box t x=>.box (P.cellsOf t) (Aq x)
 |.build t parts=>Iy P t parts.toList
 |.buildSlice t len parts=>match P.underlying t with
  |some (.slice e)=>match P.info? e,Iq P e with|some i,some zs=>if 0<i.size/\len*i.size<=16777216 then .bsl i.size len zs (parts.toList.map λ(j,x)=>(j,Aq x))else .bad|_,_=>.bad
  |_=>.bad
 |.load t x=>match P.underlying t,P.info? t with|some d,some i=>.ld i.size (B8 d) (Aq x)|_,_=>.bad
 |.store t a x=>match P.info? t with|some i=>.st i.size (Aq a) (Aq x)|none=>.bad
 |.fieldAddr s x f=>match P.underlying s with
  |some (.struct fs)=>match fs[f]? with
   |some fd=>match P.info? fd.type with|some i=>if i.size=0 then .bad else .fa fd.offset (Aq x)|none=>.bad
   |none=>.bad
  |_=>.bad
 |.field t x f=>match P.underlying t with
  |some (.struct fs)=>match fs[f]? with
   |some fd=>match P.underlying fd.type,P.info? fd.type with|some d,some i=>.fld fd.offset i.size (B8 d) (Aq x)|_,_=>.bad
   |none=>.bad
  |_=>.bad
 |.indexAddr t x ix=>match P.underlying t with
  |some (.slice e)=>match P.info? e with|some i=>.ia i.size (Aq x) (Aq ix)|none=>.bad
  |some (.array n e)=>match P.info? e with|some i=>.iaA n i.size (Aq x) (Aq ix)|none=>.bad
  |_=>.bad
 |.index t x ix=>match P.underlying t with
  |some (.array n e)=>match P.underlying e,P.info? e with|some d,some i=>.idxA n i.size (B8 d) (Aq x) (Aq ix)|_,_=>.bad
  |some .string=>.pr .sidx [Aq x,Aq ix]
  |_=>.bad
 |.binOp op t x y _=>Fk P op t (Aq x) (Aq y)
 |.unOp op _ x=>.un op (Aq x)
 |.extract x i=>.ext (Aq x) i
 |.call c=>Jg P c
 |.makeFunc fn a b=>.mkf fn (a.toList.map Aq) (b.toList.map Aq)
 |.slice t x lo hi mx=>match P.underlying t with
  |some (.slice e)=>match P.info? e with|some i=>.slc i.size (Aq x) (lo.map Aq) (hi.map Aq) (mx.map Aq)|none=>.bad
  |some .string=>match lo,hi,mx with|none,none,none=>.pr (.ssl false false) [Aq x]|some l,none,none=>.pr (.ssl true false) [Aq x,Aq l]|none,some h,none=>.pr (.ssl false true) [Aq x,Aq h]|some l,some h,none=>.pr (.ssl true true) [Aq x,Aq l,Aq h]|_,_,_=>.bad
  |_=>.bad
 |.nilCheck x=>.nilc (Aq x)
 |.convert src dst x=>match P.underlying src,P.underlying dst with
  |some (.int .i64),some (.int .i64)=>.cnv .i64 (Aq x)
  |some (.int _),some (.int k)=>.pr (.cvw k) [Aq x]
  |some (.slice e),some .string=>match P.underlying e,P.info? e with|some (.int .u8),some i=>if i.size=1 then .b2s (Aq x)else .bad|_,_=>.bad
  |_,_=>.bad
 |.panic x=>.pan (Aq x)
 |.defer c=>match c.callee,c.args.toList with|.value x,[]=>.dfr (Aq x)|_,_=>.bad
 |.makeInterface t x=>match P.underlying t with|some (.struct _)=>.pr (.mkI t) [Aq x]|_=>.bad
 |.typeAssert x _ t b=>match b,P.underlying t with|true,some (.struct _)=>.pr (.tas t) [Aq x]|_,_=>.bad
 |.makeSlice t n c=>match P.underlying t with
  |some (.slice e)=>match P.info? e,Iq P e with|some i,some zs=>if 0<i.size/\0<i.bytes then .mks i.size i.bytes zs (Aq n) (Aq c)else .bad|_,_=>.bad
  |_=>.bad
 |.entry x=>.ent (Aq x)
 |.makeMap _ r=>match r with|none=>.mkm|some _=>.bad
 |.lookup t m k ok=>Ly P t (Aq m) (Aq k) ok
 |.mapUpdate t m k x=>Ke P t (Aq m) (Aq k) (Aq x)
 |.insert t m k x=>Ke P t (Aq m) (Aq k) (Aq x)
 |.range t x=>match P.underlying t with|some (.map _ _)=>.rng (Aq x)|_=>.bad
 |.next x b=>match b with|false=>.nxt (Aq x)|true=>.bad
 |_=>.bad
section
variable{P:Program}{o:Oper}{a:Act}{U:Cf}{nm:Nm}{hp:Hp}{r:AV}{vc:Prop}{ws:Hp}
theorem Ir{t:TypeId}{zs:List AV}(h:Iq P t=some zs):∃i z,P.info? t=some i/\i.zero=some z/\(∀x∈z.cells.toList,Bs x=true)/\z.cells.size=i.size/\zs=z.cells.toList.map JY:=by
 unfold Iq at h;split at h
 ·rename_i i hi;split at h
  ·rename_i z hz;split at h
   ·rename_i hc;simp at h;exact⟨i,z,hi,hz,Ft.1 hc.1,hc.2,h.symm⟩
   ·simp at h
  ·simp at h
 ·simp at h
theorem jC(h:HInv U hp)(hnm:¬U.al nm){t:TypeId}{x:Operand}{X:AV}{cs:List AV}(ho:o.op=.box t x)(hx:Rep U X (a.eval x))(hc:X.cells=some cs):Step P o a U nm (DM nm 0 cs++hp) (.box nm 0):=by obtain⟨h1,h2⟩:=O1 hc hx;have e:=Evo.newBox (U:=U) (n:=nm) (o:=.cells (a.eval x).cells t) hnm;have hi:=h.newBox hnm (T:=t) h1 h2;rw[Q7]at hi;refine .inl ⟨_,_,_,.inl ?_,⟨e,hi,rfl,λm hm=>hm⟩,⟨.inr rfl,rfl⟩⟩;simp[execOp,ho,Instr.box,newVar,newRow,newObj,Sem.run,Cf.newBox]
theorem YY(h:HInv U hp)(hnm:¬U.al nm){t:TypeId}{zs:List AV}(ho:o.op=.alloc t)(hz:Iq P t=some zs):Step P o a U nm (DM nm 0 zs++hp) (.box nm 0):=by obtain⟨i,z,h1,h2,h3,_,rfl⟩:=Ir hz;have e:=Evo.newBox (U:=U) (n:=nm) (o:=.cells z.cells t) hnm;have hi:=h.newBox hnm (T:=t) (L4 U z.cells.toList) h3;rw[Q7]at hi;refine .inl ⟨_,_,_,.inl ?_,⟨e,hi,rfl,λm hm=>hm⟩,⟨.inr rfl,rfl⟩⟩;simp[execOp,ho,Instr.alloc,zeroValue,typeInfo,h1,h2,newVar,newRow,newObj,Sem.run,Cf.newBox]
theorem O3(h:HInv U hp){n:Nm}{l es i' k sz:Nat}{live:Bool}{rows:List (List AV)}{d:List AV}{v:Value}(hn:hl hp (.a n)=some (.sl sz live rows d))(hr:Rep U (.elem n l es i' k) v)(he:es=sz)(hl1:l=rows.length)(hlt:i'<rows.length):∃b k0 cap,U.ra n=(some ⟨b,k0,none⟩,cap)/\v=.pointer (some ⟨b,k0+i'*sz+k,none⟩)/\0<cap/\rows.length<=cap/\RepRows U sz b k0 rows/\(live=true->U.M b/\∃cs T,U.w.heap[b]? =some (.cells cs T (0,0))/\k0+cap*sz<=cs.size):=by
 subst he hl1;have hln:U.ln n=some rows.length:=by have:=h.ln n;simpa[lenOf,hn]using this
 simp only[Rep]at hr;obtain⟨b,k0,h1,h2⟩:=(hr.2.2 _ hln).2 rfl;obtain⟨_,_,_,h3⟩:=h.arr n es live rows d hn;rcases h3 with⟨a,h3,rfl⟩|⟨b',o',cap,h3,h4,h5,h6,h7,_⟩
 ·simp at hlt
 ·rw[h3]at h1;simp at h1;obtain⟨rfl,rfl⟩:=h1;exact⟨b',o',cap,h3,h2,h4,h5,h6,h7⟩
theorem aM(gl:Gl U)(h:HInv U hp){t:TypeId}{xv:Value}{X:AV}{d:TypeDesc}{i:TypeInfo}(hd:P.underlying t=some d)(hi:P.info? t=some i)(hx:Rep U X xv)(hex:Jw hp i.size (B8 d) X=some (vc,r,ws))(hvc:vc):ws=[]/\∃b k u,xv=.pointer (some ⟨b,k,none⟩)/\(loadVar t ⟨b,k,none⟩).run P U.w=.ok u U.w/\Rep U r u:=by
 have fin:∀(b k:Nat)(vs:List Value)(cs:List AV),xv=.pointer (some ⟨b,k,none⟩)->Lies U.w b k vs->vs.length=i.size->RepL U cs vs->(∀y∈vs,Bs y=true)->GC (B8 d) cs=some r->ws=[]->ws=[]/\∃b k u,xv=.pointer (some ⟨b,k,none⟩)/\(loadVar t ⟨b,k,none⟩).run P U.w=.ok u U.w/\Rep U r u:=by intro b k vs cs e1 e2 e3 e4 e5 e6 e7;obtain⟨v,g1,g2⟩:=W0 hd hi e2 e3 e4 e5 e6;exact⟨e7,b,k,v,e1,g1,g2⟩
 have fromCut:∀(b k0 k:Nat)(cs ds:List AV),xv=.pointer (some ⟨b,k0+k,none⟩)->RepCells U b k0 cs->cut k i.size cs=some ds->GC (B8 d) ds=some r->ws=[]->ws=[]/\∃b k u,xv=.pointer (some ⟨b,k,none⟩)/\(loadVar t ⟨b,k,none⟩).run P U.w=.ok u U.w/\Rep U r u:=by intro b k0 k cs ds e1 e4 hds hm e7;obtain⟨vs,g1,g2,g3⟩:=JG e4;obtain⟨us,rfl,k1,k2⟩:=UX hds g1;refine fin _ _ _ ds e1 (λj v hj=>?_) k2 k1 (λy hy=>g2 y (Tc (Q1 hy))) hm e7;have hlt:=(i5.1 hj).1;rw[List.getElem?_take_of_lt (by omega),S6]at hj;rw[t6];exact g3 _ _ hj
 cases X with
 |v X=>cases X with
  |pointer p=>cases p with
   |some ad=>
    obtain⟨b,k,sp⟩:=ad;cases sp with
    |none=>
     simp only[Jw]at hex;cases hm:GC (B8 d) (JA b k i.size)with
     |none=>simp[hm,vr]at hex
     |some r'=>
      simp only[hm,vr,t8,yE,Wt]at hex;obtain⟨rfl,rfl,rfl⟩:=hex;have e1:xv=.pointer (some ⟨b,k,none⟩):=by simpa[Rep]using hx
      obtain⟨vs,g1,g2,g3⟩:=JG (gl.cells hvc);exact fin _ _ vs _ e1 g3 (by rw[BD g1,NP]) g1 g2 hm rfl
    |some _=>simp[Jw]at hex
   |none=>simp[Jw]at hex
  |_=>simp[Jw]at hex
 |box n k=>
  simp only[Rep]at hx;simp only[Jw]at hex;split at hex
  ·rename_i cs hcs;cases hm:GC (B8 d) cs with
   |none=>simp[hm,vr]at hex
   |some r'=>simp only[hm,vr,t8,yE,Wt]at hex;obtain⟨_,rfl,rfl⟩:=hex;obtain⟨vs,g1,g2,g3,g4⟩:=Tu h hcs;exact fin _ _ vs cs hx.2 g3 g4 g1 g2 hm rfl
  ·simp at hex
 |ro cs k=>
  simp only[Rep]at hx;obtain⟨b,k0,e1,e2,_,e4⟩:=hx;simp only[Jw]at hex;split at hex
  ·rename_i ds hds;cases hm:GC (B8 d) ds with
   |none=>simp[hm,vr]at hex
   |some r'=>simp only[hm,vr,t8,yE,Wt]at hex;obtain⟨_,rfl,rfl⟩:=hex;exact fromCut b k0 k cs ds e1 e4 hds hm rfl
  ·simp at hex
 |elem n l es i' k=>
  simp only[Jw]at hex;split at hex
  ·rename_i sz live rows d' hn;split at hex
   ·rename_i ds hds;cases hm:GC (B8 d) ds with
    |none=>simp[hm,vr]at hex
    |some r'=>simp only[hm,vr,t8,yE,Wt]at hex;obtain⟨rfl,rfl,rfl⟩:=hex;obtain⟨he,hl1,hlt⟩:=hvc;obtain⟨b,k0,cap,g1,g2,_,_,g5,_⟩:=O3 h hn hx he hl1 hlt;exact fromCut b (k0+i'*sz) k _ ds g2 (Ga g5 i' _ (MM hlt)).2 hds hm rfl
   ·simp at hex
  ·simp at hex
 |_=>simp[Jw]at hex
theorem rJ(gl:Gl U)(h:HInv U hp){t:TypeId}{x:Operand}{X:AV}{d:TypeDesc}{i:TypeInfo}(ho:o.op=.load t x)(hd:P.underlying t=some d)(hi:P.info? t=some i)(hx:Rep U X (a.eval x))(hex:Jw hp i.size (B8 d) X=some (vc,r,ws))(hvc:vc):Step P o a U nm (ws++hp) r:=by obtain⟨rfl,b,k,u,e1,e2,e3⟩:=aM gl h hd hi hx hex hvc;refine Step.quiet h ?_ e3;simp[execOp,ho,Instr.loadAt,Instr.sureAddr,e1,e2]
theorem MP:∀{cs ds rs:List AV}{k:Nat},G5 cs k ds=some rs->rs.length=cs.length/\k+ds.length<=cs.length/\∀j,rs[j]? =if k<=j/\j<k+ds.length then ds[j-k]? else cs[j]?
 |cs,[],rs,0,h=>by
  have:rs=cs:=by cases cs<;>simp[G5]at h<;>simp[h]
  subst this;refine⟨rfl,by simp,λj=>?_⟩;rw[eW (by simp)]
 |c::cs,ds,rs,k+1,h=>by
  simp only[G5]at h;cases hk:G5 cs k ds with
  |none=>simp[hk]at h
  |some rs'=>
   simp[hk]at h;subst h;obtain⟨h1,h2,h3⟩:=MP hk;refine⟨by simp[h1],by simp;omega,λj=>?_⟩;cases j with
   |zero=>simp
   |succ j=>simp[h3 j,Nat.succ_le_succ_iff,show k+1+ds.length=(k+ds.length)+1 from by omega]
 |[],ds,rs,k+1,h=>by simp[G5]at h
 |c::cs,d::ds,rs,0,h=>by
  simp only[G5]at h;cases hk:G5 cs 0 ds with
  |none=>simp[hk]at h
  |some rs'=>
   simp[hk]at h;subst h;obtain⟨h1,h2,h3⟩:=MP hk;refine⟨by simp[h1],by simp at h2⊢;omega,λj=>?_⟩;cases j with
   |zero=>simp
   |succ j=>simp at h3;simp[h3 j]
 |[],d::ds,rs,0,h=>by simp[G5]at h
theorem HInv.stElem(h:HInv U hp){n:Nm}{sz i' k:Nat}{rows:List (List AV)}{d row cs:List AV}{xs:List Value}{b k0 cap:Nat}(hn:hl hp (.a n)=some (.sl sz true rows d))(hra:U.ra n=(some ⟨b,k0,none⟩,cap))(hcap:0<cap)(hle:rows.length<=cap)(hrows:RepRows U sz b k0 rows)(hM:U.M b){ar:Array Value}{T:TypeId}(har:U.w.heap[b]? =some (.cells ar T (0,0)))(hfit:k0+cap*sz<=ar.size)(hlt:i'<rows.length)(hrow:G5 (BG rows d i') k cs=some row)(hpu:HM n=false->AS row=true)(hx:RepL U cs xs)(h1:∀x∈xs,Bs x=true):∃w',(storeCells ⟨b,k0+i'*sz+k,none⟩ xs).run P U.w=.ok () w'/\∃σ',Next U n ((.a n,.sl sz true (rows.set i' row) d)::hp) w' σ':=by
 obtain⟨q1,q2,q3⟩:=MP hrow;obtain⟨r1,r2⟩:=Ga hrows i' _ (MM (d:=d) hlt);have hxl:=BD hx;have hmul:(i'+1)*sz<=cap*sz:=Q0 _ (by omega);rw[OB]at hmul;have hbound:k0+i'*sz+k+xs.length<=ar.size:=by omega
 have hln:U.ln n=some rows.length:=by have:=h.ln n;simpa[lenOf,hn]using this
 have hown:Owns U hp (true,n) b:=.inr ⟨rfl,⟨_,_,_,hn⟩,k0,cap,hra,hcap⟩;have hlen:(rows.set i' row).length=rows.length:=by simp
 have evo:Evo U (U.setArr n (U.ra n) U.M (rows.set i' row).length (Hu U.w b (k0+i'*sz+k) xs)):=by refine Evo.setArr (.inr ⟨_,hln,by simp,λ_=>rfl⟩) (λc ob hb hMc=>⟨?_,hMc⟩) (by rw[Fy];exact fA _) (JC _ _ _ _);rw[EH (λ(e:c=b)=>hMc (by rw[e];exact hM))];exact hb
 obtain⟨ds,d1,d2,d3⟩:=IR xs (k0+i'*sz+k) U.w ar har;obtain⟨a1,a2,a3,_⟩:=h.arr n sz true rows d hn;refine⟨_,Je xs _ 0 U.w ar T har h1 (by simpa using hbound),U.setArr n (U.ra n) U.M (rows.set i' row).length (Hu U.w b (k0+i'*sz+k) xs),evo,?_,rfl,λm hm=>hm⟩;refine h.setArr evo (λx hxM hno=>⟨hxM,EH (λ(e:x=b)=>hno (by rw[e];exact hown)) _ _ _⟩) ⟨.inr rfl,a2,λe r hr=>?_,.inr ⟨b,k0,cap,by simp[Cf.setArr,hra],hcap,by simpa using hle,?_,λ_=>⟨hM,ds,T,d1,by rw[d2];exact hfit⟩,by simp⟩⟩
  (λ_ b' o' cap' g1 g2=>.inl (.inr ⟨rfl,⟨_,_,_,hn⟩,o',cap',g1,g2⟩)) (λc hc=>by rw[Fy];exact h.lt c hc) (by rw[Fy];exact fA _)
 ·rcases List.mem_or_eq_of_mem_set hr with hr|rfl
  ·exact a3 e r hr
  ·exact hpu e
 ·refine Im λi2 r2' hi2=>?_
  have hi2l:=(i5.1 hi2).1;rw[hlen]at hi2l;have hmul2:(i2+1)*sz<=cap*sz:=Q0 _ (by omega);rw[OB]at hmul2;by_cases hie:i'=i2
  ·subst hie;rw[List.getElem?_set_self hlt]at hi2;simp at hi2;subst hi2;refine⟨by rw[q1];exact r1,Fw λj c hc=>?_⟩;have hj:=(i5.1 hc).1;rw[q3]at hc;by_cases hin:k<=j/\j<k+cs.length
   ·rw[eX hin]at hc;obtain⟨x,e1,e2⟩:=Ep hx (j-k) c hc;refine⟨x,?_,h1 x (tU e1),e2.mono evo⟩;simp only[Cf.setArr,World.cell?,d1,SM,if_false,yF];rw[d3,eX ⟨by omega,by omega,by omega⟩,show k0+i'*sz+j-(k0+i'*sz+k)=j-k from by omega];exact e1
   ·rw[eW hin]at hc;obtain⟨x,e1,e2,e3⟩:=G6 r2 j c hc;refine⟨x,?_,e2,e3.mono evo⟩;simp only[Cf.setArr,World.cell?,d1,SM,if_false,yF];rw[d3,eW (by omega)];simpa[World.cell?,har]using e1
  ·rw[List.getElem?_set_ne hie]at hi2;obtain⟨f1,f2⟩:=Ga hrows i2 _ hi2;refine⟨f1,f2.keep evo λj x hj hc=>?_⟩;simp only[Cf.setArr,World.cell?,d1,SM,if_false,yF];rw[d3,eW]
   ·simpa[World.cell?,har]using hc
   ·rintro⟨g1,g2,_⟩;rw[r1]at q2;rcases Nat.lt_or_gt_of_ne hie with hlt2|hlt2
    ·have:(i'+1)*sz<=i2*sz:=Q0 _ hlt2;rw[OB]at this;omega
    ·have:(i2+1)*sz<=i'*sz:=Q0 _ hlt2;rw[OB]at this;omega
mutual
theorem wD{hp:Hp}:∀x:AV,K9 x=true->FT x=[]->res hp x=x
 |.own n l,_,h=>by simp[FT]at h
 |.box n l,h,_=>by simp[K9]at h
 |.agg cs,h,k=>by simp only[res];rw[LW cs (by simpa[K9]using h) (by simpa[FT]using k)]
 |.tup cs,h,k=>by simp only[res];rw[LW cs (by simpa[K9]using h) (by simpa[FT]using k)]
 |.clo f xs ys,h,k=>by simp only[K9,lP]at h;simp only[FT,List.append_eq_nil_iff]at k;simp only[res];rw[LW xs h.1 k.1,LW ys h.2 k.2]
 |.v _,_,_=>rfl
 |.sl _ _ _ _,_,_=>rfl
 |.ro _ _,_,_=>rfl
 |.elem _ _ _ _ _,_,_=>rfl
 |.gd _ _,_,_=>rfl
 |.mp _,h,_=>by simp[K9]at h
 |.un,_,_=>rfl
theorem LW{hp:Hp}:∀xs:List AV,Gc xs=true->Cu xs=[]->Fd hp xs=xs
 |[],_,_=>rfl
 |x::xs,h,k=>by simp only[Gc,lP]at h;simp only[Cu,List.append_eq_nil_iff]at k;simp only[Fd];rw[wD x h.1 k.1,LW xs h.2 k.2]
end
theorem rK(h:HInv U hp){t:TypeId}{x y:Operand}{X Y:AV}{i:TypeInfo}(ho:o.op=.store t x y)(hi:P.info? t=some i)(hx:Rep U X (a.eval x))(hy:Rep U Y (a.eval y))(hex:UU hp i.size X Y=some (vc,r,ws))(hvc:vc)(hnm:∀m,U.al m->U.al m\/m=nm):Step P o a U nm (ws++hp) r:=by
 unfold UU at hex;split at hex
 ·simp at hex
 rename_i cs hcs;split at hex
 case isFalse=>simp at hex
 rename_i hsz;obtain⟨g1,g2⟩:=O1 hcs hy;have hlen:=BD g1;have run:∀(ad:Addr)(w':World),a.eval x=.pointer (some ad)->(storeCells ad (a.eval y).cells.toList).run P U.w=.ok () w'->(execOp a.eval o).run P U.w=.ok .skip w':=by
  intro ad w' e1 e2;have hsz':(a.eval y).cells.size=i.size:=by rw[<-hsz,<-hlen];simp
  simp[execOp,ho,Instr.storeAt,Instr.sureAddr,e1,storeVar,Eu hi,hsz',e2]
 cases X with
 |box n k=>
  simp only at hex;split at hex
  ·rename_i ws' hws;simp only[yE,Wt]at hex;obtain⟨_,rfl,rfl⟩:=hex;simp only[Rep]at hx;obtain⟨w',e1,e2,e3⟩:=h.store (P:=P) hws g1 g2;exact .inl ⟨undef,w',U.at w',.inr ⟨run _ w' hx.2 e1,rfl⟩,⟨e2,e3,rfl,λm hm=>.inl hm⟩,by simp[Rep]⟩
  ·simp at hex
 |elem n l es i' k=>
  simp only at hex;split at hex
  ·rename_i sz live rows d hn;cases hsn:HM n with
   |true=>
    rw[hsn,Cg]at hex;split at hex
    ·rename_i row hrow;simp only[yE,Wt]at hex;obtain⟨rfl,rfl,rfl⟩:=hex;obtain⟨rfl,v6,v7,v8⟩:=hvc;obtain⟨b,k0,cap,f1,f2,f3,f4,f5,f6⟩:=O3 h hn hx v6 v7 v8;obtain⟨f7,ar,T,f8,f9⟩:=f6 rfl;obtain⟨w',e1,σ',e2⟩:=h.stElem (P:=P) hn f1 f3 f4 f5 f7 f8 f9 v8 hrow (λe=>by rw[hsn]at e;cases e) g1 g2;exact .inl ⟨undef,w',σ',.inr ⟨run _ w' f2 e1,rfl⟩,⟨e2.evo,e2.inv,e2.w,λm hm=>(e2.al m hm).elim .inl (λe=>.inl (e▸(h.arr n sz true rows d hn).1))⟩,by simp[Rep]⟩
    ·simp at hex
   |false=>
   rw[hsn,tN]at hex;split at hex
   ·rename_i row hrow;simp only[yE,Wt]at hex;obtain⟨rfl,rfl,rfl⟩:=hex;obtain⟨v1,v2,v3,v4,rfl,v6,v7,v8⟩:=hvc;rw[LW cs v2 v4]at hrow;obtain⟨b,k0,cap,f1,f2,f3,f4,f5,f6⟩:=O3 h hn hx v6 v7 v8;obtain⟨f7,ar,T,f8,f9⟩:=f6 rfl;obtain⟨w',e1,σ',e2⟩:=h.stElem (P:=P) hn f1 f3 f4 f5 f7 f8 f9 v8 hrow (λ_=>v3) g1 g2;exact .inl ⟨undef,w',σ',.inr ⟨run _ w' f2 e1,rfl⟩,⟨e2.evo,e2.inv,e2.w,λm hm=>(e2.al m hm).elim .inl (λe=>.inl (e▸(h.arr n sz true rows d hn).1))⟩,by simp[Rep]⟩
   ·simp at hex
  ·simp at hex
 |_=>simp at hex
end
section
variable{P:Program}{o:Oper}{a:Act}{U:Cf}{nm:Nm}{hp:Hp}{r:AV}{vc:Prop}{ws:Hp}
theorem Xy(h:HInv U hp){x:Operand}{X:AV}(ho:o.op=.move x\/o.op=.assign x)(hx:Rep U X (a.eval x)):Step P o a U nm ([]++hp) X:=by refine Step.quiet h (v:=a.eval x) ?_ hx;rcases ho with ho|ho<;>simp[execOp,ho]
theorem aN(h:HInv U hp){c x y:Operand}{C X Y:AV}{g:Bool}(hg:g=true)(ho:o.op=.pick c x y)(hc:Rep U C (a.eval c))(hx:Rep U X (a.eval x))(hy:Rep U Y (a.eval y))(hex:OW g C X Y=some (vc,r,ws)):Step P o a U nm (ws++hp) r:=by
 unfold OW at hex;split at hex
 case h_2=>simp at hex
 rename_i cb hcb;have hc':=JX hg hc;rw[hcb]at hc';simp only[Rep]at hc';have key:ws=[]/\Rep U r (if cb=true then a.eval x else a.eval y):=by
  subst hg;split at hex
  ·rename_i bx by' hX hY;simp only[yE,Wt]at hex;obtain⟨_,rfl,rfl⟩:=hex;refine⟨rfl,?_⟩;cases cb with
   |true=>have:=JX (g:=true&&true) rfl hx;rw[hX]at this;simpa[Rep]using this
   |false=>have:=JX (g:=true&& !false) rfl hy;rw[hY]at this;simpa[Rep]using this
  ·simp only[yE,Wt]at hex;obtain⟨_,rfl,rfl⟩:=hex;refine⟨rfl,?_⟩;cases cb with
   |true=>simpa using JX (g:=true&&true) rfl hx
   |false=>simpa using JX (g:=true&& !false) rfl hy
 obtain⟨rfl,hr⟩:=key;refine Step.quiet h ?_ hr;simp[execOp,ho,hc',asBool]
theorem rL(h:HInv U hp){s:TypeId}{x:Operand}{f:Nat}{X:AV}{fs:Array Field}{fd:Field}{i:TypeInfo}(ho:o.op=.fieldAddr s x f)(hs:P.underlying s=some (.struct fs))(hf:fs[f]? =some fd)(hi:P.info? fd.type=some i)(hi0:i.size≠0)(hx:Rep U X (a.eval x))(hex:Lx fd.offset X=some (vc,r,ws)):Step P o a U nm (ws++hp) r:=by
 have run:∀b k:Nat,a.eval x=.pointer (some ⟨b,k,none⟩)->(execOp a.eval o).run P U.w=.ok (.value (.pointer (some ⟨b,k+fd.offset,none⟩))) U.w:=by intro b k e;simp[execOp,ho,Instr.fieldAt,run_underlying hs,hf,Instr.sureAddr,e,fieldPlace,Eu hi,hi0,JN]
 cases X with
 |box n k=>simp only[Lx,yE,Wt]at hex;obtain⟨_,rfl,rfl⟩:=hex;simp only[Rep]at hx;exact Step.quiet h (run _ _ hx.2) (by simp only[Rep];exact⟨hx.1,trivial⟩)
 |ro cs k=>simp only[Lx,yE,Wt]at hex;obtain⟨_,rfl,rfl⟩:=hex;simp only[Rep]at hx;obtain⟨b,k0,e1,e2,e3,e4⟩:=hx;exact Step.quiet h (run _ _ e1) (by simp only[Rep];exact⟨b,k0,by rw[t6],e2,e3,e4⟩)
 |elem n l sz i' k=>simp only[Lx,yE,Wt]at hex;obtain⟨_,rfl,rfl⟩:=hex;simp only[Rep]at hx;obtain⟨h1,h2,h3⟩:=hx;obtain⟨b,k0,e⟩:=h2;refine Step.quiet h (run _ _ e) ?_;simp only[Rep];refine⟨h1,⟨_,_,rfl⟩,λl' hl'=>⟨(h3 l' hl').1,λhe=>?_⟩⟩;obtain⟨b',k',g1,g2⟩:=(h3 l' hl').2 he;rw[e]at g2;simp at g2;exact⟨b',k',g1,by rw[g2.1,g2.2];simp[t6]⟩
 |v X=>cases X with
  |pointer p=>cases p with
   |some ad=>
    obtain⟨b,k,sp⟩:=ad;cases sp with
    |none=>simp only[Lx,yE,Wt]at hex;obtain⟨_,rfl,rfl⟩:=hex;simp only[Rep]at hx;exact Step.quiet h (run _ _ hx) (by simp[Rep])
    |some _=>simp[Lx]at hex
   |none=>simp[Lx]at hex
  |_=>simp[Lx]at hex
 |_=>simp[Lx]at hex
theorem D4{X:AV}{v:Value}{k:IntKind}{n:Int}(h:Rep U (.v (.int k n)) v):v=.int k n:=by simpa[Rep]using h
theorem KE{t:TypeId}{d:TypeDesc}{i:TypeInfo}(hd:P.underlying t=some d)(hi:P.info? t=some i){xs:List Value}{cs ds:List AV}{off:Nat}(hr:RepL U cs xs)(h1:∀x∈xs,Bs x=true)(hc:cut off i.size cs=some ds)(hm:GC (B8 d) ds=some r):∃v,(part t xs.toArray off).run P U.w=.ok v U.w/\Rep U r v:=by
 obtain⟨us,rfl,k1,k2⟩:=UX hc hr;unfold part;cases ha:B8 d with
 |true=>rw[ha]at hm;simp[GC]at hm;subst hm;refine⟨.agg ((xs.drop off).take i.size).toArray,?_,by simp only[Rep];exact⟨_,rfl,λy hy=>h1 y (Tc (Q1 hy)),k1⟩⟩;simp[JZ hd,ha,Eu hi,List.extract_eq_take_drop]
 |false=>
  rw[ha]at hm;cases ds with
  |nil=>simp[GC]at hm
  |cons c cs'=>
   cases cs' with
   |cons _ _=>simp[GC]at hm
   |nil=>
    simp[GC]at hm;subst hm;simp only[RepL]at k1;obtain⟨v,ys,e1,e2,rfl⟩:=k1;refine⟨v,?_,e2⟩;have h0:i.size=1:=by rw[e1]at k2;simpa using k2.symm
    have hx:xs[off]? =some v:=by
     have:((xs.drop off).take i.size)[0]? =some v:=by rw[e1];rfl
     rw[h0]at this;simpa using this
    simp[JZ hd,ha,hx]
theorem jD(h:HInv U hp){t:TypeId}{x:Operand}{f:Nat}{X:AV}{fs:Array Field}{fd:Field}{d:TypeDesc}{i:TypeInfo}(ho:o.op=.field t x f)(hs:P.underlying t=some (.struct fs))(hf:fs[f]? =some fd)(hd:P.underlying fd.type=some d)(hi:P.info? fd.type=some i)(hx:Rep U X (a.eval x))(hex:PP fd.offset i.size (B8 d) X=some (vc,r,ws)):Step P o a U nm (ws++hp) r:=by
 cases X with
 |agg cs=>
  simp only[PP]at hex;split at hex
  ·rename_i ds hds;cases hm:GC (B8 d) ds with
   |none=>simp[hm,vr]at hex
   |some r'=>simp only[hm,vr,t8,yE,Wt]at hex;obtain⟨_,rfl,rfl⟩:=hex;simp only[Rep]at hx;obtain⟨xs,e1,e2,e3⟩:=hx;obtain⟨v,g1,g2⟩:=KE hd hi e3 e2 hds hm;refine Step.quiet h ?_ g2;simp[execOp,ho,Instr.field,run_underlying hs,hf,e1,asAgg,g1]
  ·simp at hex
 |_=>simp[PP]at hex
theorem rM(h:HInv U hp){t e:TypeId}{x ix:Operand}{X I:AV}{i:TypeInfo}(ho:o.op=.indexAddr t x ix)(ht:P.underlying t=some (.slice e))(hi:P.info? e=some i)(hx:Rep U X (a.eval x))(hI:Rep U I (a.eval ix))(hex:SN hp i.size X I=some (vc,r,ws))(hvc:vc):Step P o a U nm (ws++hp) r:=by
 have run:∀(b k len cap:Nat)(ik:IntKind)(n:Int),a.eval x=.slice (some ⟨b,k,none⟩) len cap->a.eval ix=.int ik n->0<=n->n<len->(execOp a.eval o).run P U.w=.ok (.value (.pointer (some ⟨b,k+n.toNat*i.size,none⟩))) U.w:=by intro b k len cap ik n e1 e2 e3 e4;simp[execOp,ho,Instr.indexAt,run_underlying ht,e1,e2,asIntOf,e3,e4,Eu hi,JN]
 unfold SN at hex;split at hex
 ·rename_i sz' f rows d ik n;simp only[yE,Wt]at hex;obtain⟨rfl,rfl,rfl⟩:=hex;obtain⟨rfl,v1,v2⟩:=hvc;have hI':=D4 (X:=.un) hI;simp only[Rep]at hx;obtain⟨base,cap,e1,e2,e3,e4,e5⟩:=hx;rcases e5 with rfl|⟨b,k,rfl,e6,e7⟩
  ·simp at v2;omega
  ·refine Step.quiet h (run b k _ cap ik n e1 hI' v1 v2) ?_;have hlt:n.toNat<rows.length:=by omega
   obtain⟨g1,g2⟩:=Ga e7 n.toNat _ (MM (d:=d) hlt);simp only[Rep];exact⟨b,_,rfl,e6,e4 _ (tU (MM (d:=d) hlt)),g2⟩
 ·rename_i n l ik j;split at hex
  ·rename_i sz' live rows d hn;simp only[yE,Wt]at hex;obtain⟨rfl,rfl,rfl⟩:=hex;obtain⟨rfl,hl1,v1,v2⟩:=hvc;have hI':=D4 (X:=.un) hI;have hv:=In h hn hx hl1;obtain⟨a1,a2,a3,a4⟩:=h.arr n i.size live rows d hn;have hln:U.ln n=some rows.length:=by have:=h.ln n;simpa[lenOf,hn]using this
   rcases a4 with⟨a4,a5,rfl⟩|⟨b,k,cap,a4,_⟩
   ·simp at v2;omega
   ·rw[a4]at hv;refine Step.quiet h (run b k _ _ ik j hv hI' v1 v2) ?_;simp only[Rep];subst hl1;refine⟨a1,⟨_,_,rfl⟩,λl' hl'=>?_⟩;rw[hln]at hl';simp at hl';subst hl';exact⟨fA _,λ_=>⟨b,k,by rw[a4],by simp⟩⟩
  ·simp at hex
 ·simp at hex
theorem jE(h:HInv U hp){t e:TypeId}{x ix:Operand}{X I:AV}{i:TypeInfo}{n:Nat}(ho:o.op=.indexAddr t x ix)(ht:P.underlying t=some (.array n e))(hi:P.info? e=some i)(hx:Rep U X (a.eval x))(hI:Rep U I (a.eval ix))(hex:Rr n i.size X I=some (vc,r,ws))(hvc:vc):Step P o a U nm (ws++hp) r:=by
 have run:∀(b k:Nat)(ik:IntKind)(j:Int),a.eval x=.pointer (some ⟨b,k,none⟩)->a.eval ix=.int ik j->0<=j->j<n->(execOp a.eval o).run P U.w=.ok (.value (.pointer (some ⟨b,k+j.toNat*i.size,none⟩))) U.w:=by intro b k ik j e1 e2 e3 e4;simp[execOp,ho,Instr.indexAt,run_underlying ht,e1,e2,asIntOf,e3,e4,Eu hi,JN,Instr.sureAddr]
 unfold Rr at hex;split at hex
 ·rename_i m k ik j;simp only[yE,Wt]at hex;obtain⟨rfl,rfl,rfl⟩:=hex;simp only[Rep]at hx;exact Step.quiet h (run _ _ ik j hx.2 (D4 (X:=.un) hI) hvc.1 hvc.2) (by simp only[Rep];exact⟨hx.1,trivial⟩)
 ·rename_i cs k ik j;simp only[yE,Wt]at hex;obtain⟨rfl,rfl,rfl⟩:=hex;simp only[Rep]at hx;obtain⟨b,k0,e1,e2,e3,e4⟩:=hx;exact Step.quiet h (run _ _ ik j e1 (D4 (X:=.un) hI) hvc.1 hvc.2) (by simp only[Rep];exact⟨b,k0,by rw[t6],e2,e3,e4⟩)
 ·rename_i m l es k' o' ik j;simp only[yE,Wt]at hex;obtain⟨rfl,rfl,rfl⟩:=hex;simp only[Rep]at hx;obtain⟨h1,h2,h3⟩:=hx;obtain⟨b,k0,e⟩:=h2;refine Step.quiet h (run _ _ ik j e (D4 (X:=.un) hI) hvc.1 hvc.2) ?_;simp only[Rep];refine⟨h1,⟨_,_,rfl⟩,λl' hl'=>⟨(h3 l' hl').1,λhe=>?_⟩⟩;obtain⟨b',k',g1,g2⟩:=(h3 l' hl').2 he;rw[e]at g2;simp at g2;exact⟨b',k',g1,by rw[g2.1,g2.2];simp[t6]⟩
 ·rename_i b k ik j;simp only[yE,Wt]at hex;obtain⟨rfl,rfl,rfl⟩:=hex;simp only[Rep]at hx;exact Step.quiet h (run _ _ ik j hx (D4 (X:=.un) hI) hvc.1 hvc.2) (by simp[Rep])
 ·simp at hex
theorem aO(h:HInv U hp){t e:TypeId}{x ix:Operand}{X I:AV}{d:TypeDesc}{i:TypeInfo}{n:Nat}(ho:o.op=.index t x ix)(ht:P.underlying t=some (.array n e))(hd:P.underlying e=some d)(hi:P.info? e=some i)(hx:Rep U X (a.eval x))(hI:Rep U I (a.eval ix))(hex:OX n i.size (B8 d) X I=some (vc,r,ws))(hvc:vc):Step P o a U nm (ws++hp) r:=by
 unfold OX at hex;split at hex
 ·rename_i cs ik j;split at hex
  ·rename_i ds hds;cases hm:GC (B8 d) ds with
   |none=>simp[hm,vr]at hex
   |some r'=>simp only[hm,vr,t8,yE,Wt]at hex;obtain⟨rfl,rfl,rfl⟩:=hex;simp only[Rep]at hx;obtain⟨xs,e1,e2,e3⟩:=hx;obtain⟨v,g1,g2⟩:=KE hd hi e3 e2 hds hm;refine Step.quiet h ?_ g2;have hI':=D4 (X:=.un) hI;simp[execOp,ho,Instr.index,run_underlying ht,e1,hI',asIntOf,hvc.1,hvc.2,Eu hi,g1]
  ·simp at hex
 ·simp at hex
theorem jF(h:HInv U hp){x:Operand}{X:AV}{i:Nat}(ho:o.op=.extract x i)(hx:Rep U X (a.eval x))(hex:PQ i X=some (vc,r,ws)):Step P o a U nm (ws++hp) r:=by
 cases X with
 |tup cs=>
  simp only[PQ]at hex;split at hex
  ·rename_i c hc;simp only[yE,Wt]at hex;obtain⟨_,rfl,rfl⟩:=hex;simp only[Rep]at hx;obtain⟨xs,e1,e2⟩:=hx;obtain⟨v,g1,g2⟩:=Ep e2 i _ hc;refine Step.quiet h ?_ g2;simp[execOp,ho,Instr.extract,e1,g1]
  ·simp at hex
 |_=>simp[PQ]at hex
theorem jG(h:HInv U hp){c:Call}{x:Operand}{X:AV}{t e:TypeId}(ho:o.op=.call c)(hc:c.callee=.builtin .len)(ha:c.args.toList=[x])(hat:c.argTypes.toList=[t])(ht:P.underlying t=some (.slice e))(hx:Rep U X (a.eval x))(hex:MJ hp X=some (vc,r,ws))(hvc:vc):Step P o a U nm (ws++hp) r:=by
 have ha':c.args=#[x]:=SK.1 ha;have hat':c.argTypes=#[t]:=SK.1 hat;have run:∀(base:Option Addr)(n cap:Nat),a.eval x=.slice base n cap->(execOp a.eval o).run P U.w=.ok (.value (.int .i64 n)) U.w:=by intro base n cap e1;simp[execOp,ho,resolve,hc,invoke,builtin,ha',hat',Builtin.len_,run_underlying ht,e1,goInt]
 cases X with
 |sl sz f rows d=>simp only[MJ,yE,Wt]at hex;obtain⟨_,rfl,rfl⟩:=hex;simp only[Rep]at hx;obtain⟨base,cap,e1,_⟩:=hx;exact Step.quiet h (run _ _ _ e1) (by simp[Rep])
 |own n l=>
  simp only[MJ]at hex;split at hex
  ·rename_i sz live rows d hn;simp only[yE,Wt]at hex;obtain⟨rfl,rfl,rfl⟩:=hex;exact Step.quiet h (run _ _ _ (In h hn hx hvc)) (by simp[Rep])
  ·simp at hex
 |_=>simp[MJ]at hex
theorem jH(h:HInv U hp){c:Call}{x:Operand}{X:AV}{t e:TypeId}(ho:o.op=.call c)(hc:c.callee=.builtin .cap)(ha:c.args.toList=[x])(hat:c.argTypes.toList=[t])(ht:P.underlying t=some (.slice e))(hx:Rep U X (a.eval x))(hex:Rq X=some (vc,r,ws))(hvc:vc):Step P o a U nm (ws++hp) r:=by
 have ha':c.args=#[x]:=SK.1 ha;have hat':c.argTypes=#[t]:=SK.1 hat;have run:∀(base:Option Addr)(n cap:Nat),a.eval x=.slice base n cap->(execOp a.eval o).run P U.w=.ok (.value (.int .i64 cap)) U.w:=by intro base n cap e1;simp[execOp,ho,resolve,hc,invoke,builtin,ha',hat',Builtin.cap_,run_underlying ht,e1,goInt]
 unfold Rq at hex;split at hex
 ·rename_i sz rows d;simp only[yE,Wt]at hex;obtain⟨_,rfl,rfl⟩:=hex;simp only[Rep]at hx;obtain⟨base,cap,e1,_,e3,_⟩:=hx;rw[e3 trivial]at e1;exact Step.quiet h (run _ _ _ e1) (by simp[Rep])
 ·simp at hex
theorem jI(h:HInv U hp)(hnm:¬U.al nm){c:Call}{s x:Operand}{X Y:AV}{t e:TypeId}{i:TypeInfo}{zs:List AV}(ho:o.op=.call c)(hc:c.callee=.builtin .append)(ha:c.args.toList=[s,x])(hat:c.argTypes.toList=[t,t])(ht:P.underlying t=some (.slice e))(hi:P.info? e=some i)(hz:Iq P e=some zs)(h0:0<i.size/\0<i.bytes)(hx:Rep U X (a.eval s))(hy:Rep U Y (a.eval x))(hex:PO hp nm i.size i.bytes zs X Y=some (vc,r,ws))(hvc:vc):Step P o a U nm (ws++hp) r:=by
 have ha':c.args=#[s,x]:=SK.1 ha;have hat':c.argTypes=#[t,t]:=SK.1 hat;obtain⟨i',z,e1,e2,e3,e4,e5⟩:=Ir hz;rw[hi]at e1;cases e1
 obtain⟨v,w',σ',g1,g2,g3⟩:=Z8 h hnm t o.type e i z ht hi e2 rfl rfl e4 h0.1 h0.2 hex hvc hx hy;refine .inl ⟨v,w',σ',.inl ?_,g2,g3⟩;simp[execOp,ho,resolve,hc,invoke,builtin,ha',hat',g1]
theorem U5{isMax:Bool}:∀{ys:List AV}{X τ:AV}{vs:List Value}{v:Value},Xm isMax X ys=some τ->Rep U X v->RepL U ys vs->∃z,(vs.foldlM (if isMax then Builtin.max2 else Builtin.min2) v).run P U.w=.ok z U.w/\Rep U τ z
 |[],X,τ,vs,v,hm,hx,hy=>by simp[Xm]at hm;subst hm;simp[RepL]at hy;subst hy;exact⟨v,by simp,hx⟩
 |Y::ys,X,τ,vs,v,hm,hx,hy=>by
  simp only[Xm]at hm;simp only[RepL]at hy;obtain⟨y,us,rfl,h2,h3⟩:=hy;split at hm
  ·rename_i σ hU;unfold nQ at hU;split at hU
   ·rename_i k n k' m;simp at hU;have e1:=D4 (X:=.un) hx;have e2:=D4 (X:=.un) h2;subst e1 e2;have hrun:((if isMax then Builtin.max2 else Builtin.min2) (.int k n) (.int k' m)).run P U.w=.ok (.int k (bif isMax then max n m else min n m)) U.w:=by
     cases isMax
     ·simp[Builtin.min2];omega
     ·simp[Builtin.max2];omega
    subst hU;obtain⟨z,g1,g2⟩:=U5 (vs:=us) hm (v:=.int k (bif isMax then max n m else min n m)) (by simp[Rep]) h3;exact⟨z,by simp[List.foldlM_cons,hrun,g1],g2⟩
   ·simp at hU
  ·simp at hm
theorem Xz(h:HInv U hp){c:Call}{Xs:List AV}{isMax:Bool}(ho:o.op=.call c)(hc:c.callee=.builtin (if isMax then .max else .min))(hx:RepL U Xs (c.args.toList.map a.eval))(hex:SO isMax Xs=some (vc,r,ws)):Step P o a U nm (ws++hp) r:=by
 cases Xs with
 |nil=>simp[SO]at hex
 |cons X Ys=>
  simp only[SO]at hex;split at hex
  ·rename_i τ hZ;simp only[yE,Wt]at hex;obtain⟨_,rfl,rfl⟩:=hex;simp only[RepL]at hx;obtain⟨v,vs,e1,e2,e3⟩:=hx;obtain⟨z,g1,g2⟩:=U5 (P:=P) hZ e2 e3;refine Step.quiet h ?_ g2;cases isMax
   ·simp at g1 hc;simp[execOp,ho,resolve,hc,invoke,builtin,Builtin.min_,e1,g1]
   ·simp at g1 hc;simp[execOp,ho,resolve,hc,invoke,builtin,Builtin.max_,e1,g1]
  ·simp at hex
theorem jJ(h:HInv U hp){fn:Fn}{f c:Array Operand}{Xs Ys:List AV}(ho:o.op=.makeFunc fn f c)(hx:RepL U Xs (f.toList.map a.eval))(hy:RepL U Ys (c.toList.map a.eval)):Step P o a U nm ([]++hp) (.clo fn Xs Ys):=by
 refine Step.quiet h (v:=.func fn (f.map a.eval) (c.map a.eval)) ?_ ?_
 ·simp[execOp,ho,Instr.makeFunc]
 ·simp only[Rep];exact⟨_,_,by rw[<-Array.toList_map,<-Array.toList_map,Q7,Q7],hx,hy⟩
theorem jK(h:HInv U hp){x:Operand}{X:AV}(ho:o.op=.nilCheck x)(hx:Rep U X (a.eval x))(hex:Rt X=some (vc,r,ws)):Step P o a U nm (ws++hp) r:=by
 unfold Rt at hex;split at hex
 ·simp only[yE,Wt]at hex;obtain⟨_,rfl,rfl⟩:=hex;have hx':=hx;simp only[Rep]at hx;exact Step.quiet h (v:=a.eval x) (by simp[execOp,ho,hx.2]) hx'
 ·simp only[yE,Wt]at hex;obtain⟨_,rfl,rfl⟩:=hex;have hx':=hx;simp only[Rep]at hx;obtain⟨b,k0,e1,_⟩:=hx;exact Step.quiet h (v:=a.eval x) (by simp[execOp,ho,e1]) hx'
 ·simp only[yE,Wt]at hex;obtain⟨_,rfl,rfl⟩:=hex;have hx':=hx;simp only[Rep]at hx;obtain⟨xs,ys,e1,_⟩:=hx;exact Step.quiet h (v:=a.eval x) (by simp[execOp,ho,e1]) hx'
 ·simp only[yE,Wt]at hex;obtain⟨_,rfl,rfl⟩:=hex;have hx':=hx;simp only[Rep]at hx;exact Step.quiet h (v:=a.eval x) (by simp[execOp,ho,hx]) hx'
 ·simp at hex
theorem jL(h:HInv U hp){src dst:TypeId}{x:Operand}{X:AV}{k k':IntKind}(ho:o.op=.convert src dst x)(hs:P.underlying src=some (.int k'))(hd:P.underlying dst=some (.int k))(hx:Rep U X (a.eval x))(hex:Ru k X=some (vc,r,ws))(hvc:vc):Step P o a U nm (ws++hp) r:=by
 unfold Ru at hex;split at hex
 ·rename_i k0 n;simp only[yE,Wt]at hex;obtain⟨rfl,rfl,rfl⟩:=hex;have e:=D4 (X:=.un) hx;refine Step.quiet h (v:=.int k n) ?_ (by simp[Rep]);simp[execOp,ho,convert,run_underlying hs,run_underlying hd,e,Conv.intToInt,IW hvc]
 ·simp at hex
theorem rN(h:HInv U hp){t:TypeId}{op:UnOp}{x:Operand}{X:AV}(ho:o.op=.unOp op t x)(hx:Rep U X (a.eval x))(hex:vr (YQ op X)=some (vc,r,ws))(hvc:vc):Step P o a U nm (ws++hp) r:=by
 unfold YQ at hex;split at hex
 ·rename_i b;simp only[vr,yE,Wt]at hex;obtain⟨rfl,rfl,rfl⟩:=hex;have e:a.eval x=.bool b:=by simpa[Rep]using hx
  exact Step.quiet h (v:=.bool (!b)) (by simp[execOp,ho,Op.unary,e]) (by simp[Rep])
 ·rename_i k n;simp only[vr,yE,Wt]at hex;obtain⟨rfl,rfl,rfl⟩:=hex;have e:=D4 (X:=.un) hx;refine Step.quiet h (v:=.int k (-n)) ?_ (by simp[Rep]);have:=IW hvc;simp[execOp,ho,Op.unary,e,Op.intArith,this]
 ·simp[vr]at hex
theorem aP{op:BinOp}{x y:Int}{b:Bool}(h:YO op x y=some b)(k:IntKind)(t:TypeId)(w:World):(binOp op t (.int k x) (.int k y)).run P w=.ok (.bool b) w:=by
 cases op<;>simp only[YO,yE,reduceCtorEq]at h
 case neq=>subst h;simp[binOp,Op.intCmp];rw[Sw];simp
 case eql=>subst h;simp[binOp,Op.intCmp];rw[Sw];simp
 all_goals (subst h;simp[binOp,Op.intCmp])
theorem jM{op:BinOp}{k:IntKind}{x y z:Int}{p:Prop}(h:nP op k x y=some (p,z))(hp:p)(t:TypeId)(w:World):(binOp op t (.int k x) (.int k y)).run P w=.ok (.int k z) w:=by
 cases op<;>simp only[nP,yE,Wt,reduceCtorEq]at h<;>obtain⟨rfl,rfl⟩:=h
 ·simp[binOp,Op.intArith,IW hp]
 ·simp[binOp,Op.intArith,IW hp]
 ·simp[binOp,Op.intArith,IW hp]
 ·simp[binOp,Op.intDiv,hp.1,IW hp.2]
 ·simp[binOp,Op.intDiv,hp]
theorem M9(op:BinOp)(t:TypeId)(x y:Operand)(k k':IntKind)(m n:Int)(w:World):(eqGuard op t x y (.int k m) (.int k' n)).run P w=.ok () w:=by cases op<;>simp[eqGuard]
theorem U6(op:BinOp)(t:TypeId)(x y:Operand)(m n:Bool)(w:World):(eqGuard op t x y (.bool m) (.bool n)).run P w=.ok () w:=by cases op<;>simp[eqGuard]
theorem aQ{t:TypeId}(hu:P.underlying t=some .bool)(d:Nat)(b1 b2:Bool)(w:World):(Op.equalIn (d+1) t (.bool b1) (.bool b2)).run P w=.ok (b1==b2) w:=by simp[Op.equalIn,run_underlying hu]
theorem RE{l:Bool}{e:Prop}{c:Bool}{R:Option (Prop×Bool)}{p:Prop}{b:Bool}(h:L0 l e c R=some (p,b)):∃q d,R=some (q,d)/\p=(e/\q)/\b=(bif l then c else c&&d):=by
 match R,h with
 |none,h=>exact absurd h (by simp[L0])
 |some (q,d),h=>unfold L0 at h;have h:=yJ h;exact⟨q,d,rfl,(Prod.mk.inj h).1.symm,(Prod.mk.inj h).2.symm⟩
theorem HN{xs ys:List AV}{p:Prop}{b:Bool}(h:DD [] xs ys=some (p,b)):xs=[]/\ys=[]/\p=True/\b=true:=by
 match xs,ys,h with
 |[],[],h=>unfold DD at h;have h:=yJ h;exact⟨rfl,rfl,(Prod.mk.inj h).1.symm,(Prod.mk.inj h).2.symm⟩
 |[],_::_,h=>exact absurd h (by simp[DD])
 |_::_,_,h=>exact absurd h (by simp[DD])
theorem Kf{k:Bool}{ks:List Bool}{xs ys:List AV}{p:Prop}{b:Bool}(h:DD (k::ks) xs ys=some (p,b)):∃x xs' y ys' e c q d,xs=x::xs'/\ys=y::ys'/\DD ks xs' ys'=some (q,d)/\p=(e/\q)/\b=(bif ks.isEmpty then c else c&&d)/\(∀ks2 A B,DD (k::ks2) (x::A) (y::B)=L0 ks2.isEmpty e c (DD ks2 A B))/\((k=true/\∃m m' i j,x=.v (.int m i)/\y=.v (.int m' j)/\e=(m=m')/\c=decide (i=j))\/(k=false/\∃i j,x=.v (.bool i)/\y=.v (.bool j)/\e=True/\c=(i==j))):=by
 unfold DD at h;split at h
 ·exact absurd ‹k::ks=[]› (by simp)
 ·rename_i ks' m i xs' m' j ys' e;cases e
  obtain⟨q,d,h1,h2,h3⟩:=RE h;exact⟨_,_,_,_,_,_,q,d,rfl,rfl,h1,h2,h3,λ_ _ _=>by rw[DD],.inl ⟨rfl,m,m',i,j,rfl,rfl,rfl,rfl⟩⟩
 ·rename_i ks' i xs' j ys' e;cases e
  obtain⟨q,d,h1,h2,h3⟩:=RE h;exact⟨_,_,_,_,_,_,q,d,rfl,rfl,h1,h2,h3,λ_ _ _=>by rw[DD],.inr ⟨rfl,i,j,rfl,rfl,rfl,rfl⟩⟩
 ·cases h
theorem K3:∀{ks:List Bool}{xs ys:List AV}{p:Prop}{b:Bool},DD ks xs ys=some (p,b)->xs.length=ks.length/\ys.length=ks.length
 |[],xs,ys,p,b,h=>by obtain⟨rfl,rfl,_⟩:=HN h;exact⟨rfl,rfl⟩
 |k::ks,xs,ys,p,b,h=>by obtain⟨x,xs',y,ys',e,c,q,d,rfl,rfl,h1,_⟩:=Kf h;have:=K3 h1;simp;omega
theorem Na:∀{k1 k2:List Bool}{A B:List AV}{p:Prop}{b:Bool},DD (k1++k2) A B=some (p,b)->p->∃p1 b1 p2 b2,DD k1 (A.take k1.length) (B.take k1.length)=some (p1,b1)/\DD k2 (A.drop k1.length) (B.drop k1.length)=some (p2,b2)/\p1/\p2/\b=(b1&&b2)
 |[],k2,A,B,p,b,h,hp=>⟨True,true,p,b,by simp[DD],by simpa using h,trivial,hp,by simp⟩
 |k::k1,k2,A,B,p,b,h,hp=>by
  rw[s8]at h;obtain⟨x,xs',y,ys',e,c,q,d,rfl,rfl,h1,rfl,rfl,h4,_⟩:=Kf h;obtain⟨p1,b1,p2,b2,e1,e2,g1,g2,rfl⟩:=Na h1 hp.2;refine⟨e/\p1,bif k1.isEmpty then c else c&&b1,p2,b2,?_,by simpa using e2,⟨hp.1,g1⟩,g2,?_⟩
  ·rw[pC,QZ,QZ,h4,e1];rfl
  ·cases k1 with
   |nil=>
    obtain⟨_,_,_,rfl⟩:=HN e1;cases k2 with
    |nil=>obtain⟨_,_,_,rfl⟩:=HN e2;simp
    |cons _ _=>simp
   |cons _ _=>simp[Bool.and_assoc]
theorem KF:∀{o n:Nat}{cs:List AV},o+n<=cs.length->cut o n cs=some ((cs.drop o).take n)
 |0,0,cs,h=>by simp[cut]
 |0,n+1,[],h=>by simp at h
 |0,n+1,c::cs,h=>by have:=KF (o:=0) (n:=n) (cs:=cs) (by simp at h;omega);simp[cut,this]
 |o+1,n,[],h=>by simp at h
 |o+1,n,c::cs,h=>by have:=KF (o:=o) (n:=n) (cs:=cs) (by simp at h;omega);simp[cut,this]
theorem RF{d:Nat}{t:TypeId}{ks:List Bool}(h:G7 P d t=some ks):∃td,P.underlying t=some td/\(B8 td=false->ks.length=1):=by
 cases d with
 |zero=>simp[G7]at h
 |succ d=>
  unfold G7 at h;split at h
  ·rename_i k hu;cases h;exact⟨_,hu,λ_=>rfl⟩
  ·rename_i hu;cases h;exact⟨_,hu,λ_=>rfl⟩
  ·rename_i fs hu;exact⟨_,hu,λe=>by simp[B8]at e⟩
  ·rename_i n e hu;exact⟨_,hu,λe=>by simp[B8]at e⟩
  ·simp at h
theorem aR(w:World){t e:TypeId}{n:Nat}(d:Nat)(ht:P.underlying t=some (.array n e))(xs ys:Array Value)(hp:(sizeOf e).run P w=.ok 1 w)(b:Nat->Bool)(hs:∀i,i<n->∃x y,(part e xs (i*1)).run P w=.ok x w/\(part e ys (i*1)).run P w=.ok y w/\(Op.equalIn d e x y).run P w=.ok (b i) w):(Op.equalIn (d+1) t (.agg xs) (.agg ys)).run P w=.ok ((List.range n).all b) w:=by
 simp only[Op.equalIn,Sem.run_bind,run_underlying ht,Result.andThen_ok,hp];rw[Std.Legacy.Range.forIn_eq_forIn_range',CY];simp only[Std.Legacy.Range.size,TU,Nat.add_sub_cancel,Nat.div_one];have key:∀(k s:Nat),s+k=n->(forIn (List.range' s k 1) ((none:Option Bool),()) λi __s=>(do
      let __do_lift<-part e xs (i*1)
      let __do_lift_1<-part e ys (i*1)
      let __do_lift<-Op.equalIn d e __do_lift __do_lift_1
      if(!__do_lift)=true then pure (ForInStep.done (some false,()))else pure (ForInStep.yield (none,())):Sem _)).run P w=.ok (bif ((List.range' s k 1).all b)then(none,())else(some false,())) w:=by
  intro k;induction k with
  |zero=>intro s _;simp
  |succ k ih=>
   intro s hk;obtain⟨x,y,h1,h2,h3⟩:=hs s (by omega);rw[L8,List.forIn_cons];simp only[Sem.run_bind,h1,h2,h3,Result.andThen_ok,List.all_cons];by_cases hb:b s=true
   ·have:=ih (s+1) (by omega);rw[hb];simpa using this
   ·rw[w6.2 hb];simp
 rw[key n 0 (by omega)];simp only[Result.andThen_ok];cases(List.range' 0 n 1).all b<;>simp
theorem LE:∀(d:Nat){t:TypeId}{ks:List Bool},G7 P d t=some ks->∀(D:Nat),d<=D->∀{td:TypeDesc},P.underlying t=some td->∀{cs ds:List AV}{p:Prop}{b:Bool},DD ks cs ds=some (p,b)->p->∀{X Y:AV}{v u:Value},GC (B8 td) cs=some X->GC (B8 td) ds=some Y->Rep U X v->Rep U Y u->(Op.equalIn D t v u).run P U.w=.ok b U.w
 |0,t,ks,h=>by simp[G7]at h
 |d+1,t,ks,h=>by
  intro D' hD td htd cs ds p b he hp X Y v u hX hY hv hu;obtain⟨D,rfl⟩:∃α,D'=α+1:=⟨D'-1,by omega⟩
  have hl:=K3 he;unfold G7 at h;split at h
  ·rename_i k hk;cases h
   rw[hk]at htd;cases htd
   obtain⟨x,xs',y,ys',e,c,q,d,rfl,rfl,h1,rfl,rfl,_,h5⟩:=Kf he;obtain⟨rfl,rfl,rfl,rfl⟩:=HN h1;rcases h5 with⟨_,m,m',i,j,rfl,rfl,rfl,rfl⟩|⟨h5,_⟩
   ·obtain⟨rfl,_⟩:=hp;simp[B8,GC]at hX hY;subst hX;subst hY;rw[D4 (X:=.un) hv,D4 (X:=.un) hu,run_equalIn_int (P:=P) U.w D t m k i j hk];rfl
   ·cases h5
  ·rename_i hk;cases h
   rw[hk]at htd;cases htd
   obtain⟨x,xs',y,ys',e,c,q,d,rfl,rfl,h1,rfl,rfl,_,h5⟩:=Kf he;obtain⟨rfl,rfl,rfl,rfl⟩:=HN h1;rcases h5 with⟨h5,_⟩|⟨_,i,j,rfl,rfl,rfl,rfl⟩
   ·cases h5
   ·simp[B8,GC]at hX hY;subst hX;subst hY;have e1:v=.bool i:=by simpa[Rep]using hv
    have e2:u=.bool j:=by simpa[Rep]using hu
    rw[e1,e2,run_equalIn_bool' (P:=P) U.w D t i j hk]
  ·rename_i fs hk;rw[hk]at htd;cases htd
   split at h
   ·simp at h
   rename_i hst;simp only[not_or,XZ]at hst;simp[B8,GC]at hX hY;subst hX;subst hY;simp only[Rep]at hv hu;obtain⟨xs,rfl,o1,r1⟩:=hv;obtain⟨ys,rfl,o2,r2⟩:=hu;have hfo:P.fieldsOf t=fs:=by unfold Program.fieldsOf;rw[hk]
   rw[run_equalIn_struct U.w D t _ _ (by rw[hfo];exact hk) hst.1,hfo];have flds:∀(l:List Field)(o:Nat)(ks:List Bool),Nq (G7 P d) P l o=some ks->∀(p:Prop)(b:Bool),DD ks (cs.drop o) (ds.drop o)=some (p,b)->p->(Op.eqFields D xs.toArray ys.toArray l).run P U.w=.ok b U.w:=by
    intro l;induction l with
    |nil=>intro o ks h p b he hp;simp[Nq]at h;subst h;obtain⟨_,_,_,rfl⟩:=HN he;simp[Op.eqFields]
    |cons f l ih=>
     intro o ks h p b he hp;simp only[Nq]at h;split at h
     ·simp at h
     rename_i hf;simp only[not_or,Classical.not_not]at hf;split at h
     ·rename_i k1 i hk1 hi;split at h
      ·rename_i hsz';obtain⟨hsz,hne⟩:=hsz';have hpos:0<k1.length:=by cases k1<;>simp at hne⊢
       cases hk2:Nq (G7 P d) P l (o+k1.length)with
       |none=>rw[hk2]at h;simp at h
       |some k2=>
        rw[hk2]at h;simp at h;subst h;obtain⟨p1,b1,p2,b2,e1,e2,h1,h2,rfl⟩:=Na he hp;have hlen:=K3 he;simp at hlen;obtain⟨td,htd,hone⟩:=RF hk1;have cA:cut f.offset i.size cs=some ((cs.drop o).take k1.length):=by rw[hf.2,hsz];exact KF (by omega)
        have cB:cut f.offset i.size ds=some ((ds.drop o).take k1.length):=by rw[hf.2,hsz];exact KF (by omega)
        have mk:∀(l:List AV),l.length=k1.length->∃τ,GC (B8 td) l=some τ:=by
         intro l hl;cases ha:B8 td with
         |true=>exact⟨.agg l,rfl⟩
         |false=>
          rw[hone ha]at hl
          match l,hl with
          |[c],_=>exact⟨c,rfl⟩
        obtain⟨X1,hX1⟩:=mk ((cs.drop o).take k1.length) (by simp;omega);obtain⟨Y1,hY1⟩:=mk ((ds.drop o).take k1.length) (by simp;omega);obtain⟨v1,g1,g2⟩:=KE htd hi r1 o1 cA hX1;obtain⟨u1,g3,g4⟩:=KE htd hi r2 o2 cB hY1;have hr:=LE d hk1 D (by omega) htd e1 h1 hX1 hY1 g2 g4;have hrest:=ih (o+k1.length) k2 hk2 p2 b2 (by simpa[zV,P9]using e2) h2;simp only[Op.eqFields,ne_eq,hf.1,not_false_eq_true,if_true,Sem.run_bind,g1,g3,hr,Result.andThen_ok];cases b1 with
        |false=>simp
        |true=>simpa using hrest
      ·simp at h
     ·simp at h
   exact flds fs.toList 0 ks h p b (by simpa using he) hp
  ·rename_i n e hk;rw[hk]at htd;cases htd
   split at h
   ·rename_i k0 i hk1 hi;split at h
    ·simp at h
    rename_i hst;simp only[not_or,Classical.not_not]at hst;cases h
    simp[B8,GC]at hX hY;subst hX;subst hY;simp only[Rep]at hv hu;obtain⟨xs,rfl,o1,r1⟩:=hv;obtain⟨ys,rfl,o2,r2⟩:=hu;obtain⟨td,htd,hone⟩:=RF hk1;have mk:∀(l:List AV),l.length=1->∃τ,GC (B8 td) l=some τ:=by
     intro l hl;cases ha:B8 td with
     |true=>exact⟨.agg l,rfl⟩
     |false=>
      match l,hl with
      |[c],_=>exact⟨c,rfl⟩
    have hlen:=K3 he;rw[List.length_replicate]at hlen
    let c:Nat->Bool:=λj=>((DD [k0] ((cs.drop j).take 1) ((ds.drop j).take 1)).map (·.2)).getD false
    have arr:∀(m o:Nat),o+m=n->∀(p:Prop)(b:Bool),DD (List.replicate m k0) (cs.drop o) (ds.drop o)=some (p,b)->p->(∀j,o<=j->j<n->∃x y,(part e xs.toArray (j*1)).run P U.w=.ok x U.w/\(part e ys.toArray (j*1)).run P U.w=.ok y U.w/\(Op.equalIn D e x y).run P U.w=.ok (c j) U.w)/\b=(List.range' o m 1).all c:=by
     intro m;induction m with
     |zero=>intro o ho p b he hp;obtain⟨_,_,_,rfl⟩:=HN he;exact⟨λj h1 h2=>absurd h2 (by omega),rfl⟩
     |succ m ih=>
      intro o ho p b he hp;rw[List.replicate_succ,show k0::List.replicate m k0=[k0]++List.replicate m k0 from rfl]at he;obtain⟨p1,b1,p2,b2,e1,e2,h1,h2,rfl⟩:=Na he hp;rw[KU]at e1 e2;obtain⟨q1,q2⟩:=ih (o+1) (by omega) p2 b2 (by simpa[zV,P9]using e2) h2;have hc:c o=b1:=by simp only[c];rw[e1];rfl
      refine⟨λj hj1 hj2=>?_,?_⟩
      ·by_cases hjo:j=o
       ·subst hjo;have hj:j<n:=by omega
        have cA:cut (j*1) i.size cs=some ((cs.drop j).take 1):=by rw[hst.2,Nat.mul_one];exact KF (by omega)
        have cB:cut (j*1) i.size ds=some ((ds.drop j).take 1):=by rw[hst.2,Nat.mul_one];exact KF (by omega)
        obtain⟨X1,hX1⟩:=mk ((cs.drop j).take 1) (by simp;omega);obtain⟨Y1,hY1⟩:=mk ((ds.drop j).take 1) (by simp;omega);obtain⟨v1,g1,g2⟩:=KE htd hi r1 o1 cA hX1;obtain⟨u1,g3,g4⟩:=KE htd hi r2 o2 cB hY1;exact⟨v1,u1,g1,g3,by rw[hc];exact LE d hk1 D (by omega) htd e1 h1 hX1 hY1 g2 g4⟩
       ·exact q1 j (by omega) hj2
      ·rw[L8,List.all_cons,hc,<-q2]
    obtain⟨a1,a2⟩:=arr n 0 (by omega) p b (by simpa using he) hp;have hsz:(sizeOf e).run P U.w=.ok 1 U.w:=by rw[Eu hi,hst.2]
    rw[aR U.w D hk xs.toArray ys.toArray hsz c (λj hj=>a1 j (by omega) hj),a2,CY]
   ·simp at h
  ·simp at h
theorem jN(h:HInv U hp){t yt:TypeId}{op:BinOp}{x y:Operand}{X Y:AV}{ks:List Bool}{td:TypeDesc}(ho:o.op=.binOp op t x y yt)(hu:P.underlying t=some td)(had:B8 td=true)(hk:G7 P 8 t=some ks)(hx:Rep U X (a.eval x))(hy:Rep U Y (a.eval y))(hex:Rs ks op X Y=some (vc,r,ws))(hvc:vc):Step P o a U nm (ws++hp) r:=by
 unfold Rs at hex;split at hex
 ·rename_i cs ds;have hg:P.eqGuardType P.depth t=false:=by
   unfold G7 at hk;rw[hu]at hk;cases td with
   |struct fs=>
    simp only at hk;split at hk
    ·simp at hk
    ·rename_i hst;simp only[not_or,XZ]at hst;exact hst.2.1
   |array n e=>
    simp only at hk;split at hk
    ·split at hk
     ·simp at hk
     ·rename_i hst;simp only[not_or,XZ]at hst;exact hst.1
    ·simp at hk
   |_=>simp[B8]at had
  have hx':=hx;have hy':=hy;simp only[Rep]at hx hy;obtain⟨xs,ex,_,_⟩:=hx;obtain⟨ys,ey,_,_⟩:=hy;have g1:=run_eqGuard_agg (P:=P) U.w op t x y xs.toArray ys.toArray hg;split at hex
  ·rename_i p b hc;simp only[yE,Wt]at hex;obtain⟨rfl,rfl,rfl⟩:=hex;have hr:=LE (U:=U) 8 hk 10000 (by omega) hu hc hvc (X:=.agg cs) (Y:=.agg ds) (by rw[had];rfl) (by rw[had];rfl) hx' hy';rw[ex,ey]at hr;refine Step.quiet h (v:=.bool b) ?_ (by simp[Rep]);have g2:=run_eql_struct (P:=P) U.w t xs.toArray ys.toArray;rw[hr]at g2;simp[execOp,ho,ex,ey,g1,g2]
  ·rename_i p b hc;simp only[yE,Wt]at hex;obtain⟨rfl,rfl,rfl⟩:=hex;have hr:=LE (U:=U) 8 hk 10000 (by omega) hu hc hvc (X:=.agg cs) (Y:=.agg ds) (by rw[had];rfl) (by rw[had];rfl) hx' hy';rw[ex,ey]at hr;refine Step.quiet h (v:=.bool (!b)) ?_ (by simp[Rep]);have g2:=run_neq_struct (P:=P) U.w t xs.toArray ys.toArray;rw[hr]at g2;simp[execOp,ho,ex,ey,g1,g2]
  ·simp at hex
 ·simp at hex
theorem YZ{t e:TypeId}(hu:P.underlying t=some (.slice e))(d:Nat)(b:Option Addr)(n c:Nat)(w:World):(Op.equalIn (d+1) t (.slice b n c) (.slice none 0 0)).run P w=.ok b.isNone w:=by cases b<;>simp[Op.equalIn,run_underlying hu]
theorem aS(h:HInv U hp){t yt e:TypeId}{op:BinOp}{x y:Operand}{X:AV}{neg:Bool}(ho:o.op=.binOp op t x y yt)(hop:op=.eql/\neg=false\/op=.neq/\neg=true)(hu:P.underlying t=some (.slice e))(hy:a.eval y=.slice none 0 0)(hx:Rep U X (a.eval x))(hex:OY neg X=some (vc,r,ws))(hvc:vc):Step P o a U nm (ws++hp) r:=by
 have run:∀(b:Option Addr)(n c:Nat),a.eval x=.slice b n c->(execOp a.eval o).run P U.w=.ok (.value (.bool (b.isNone !=neg))) U.w:=by
  intro b n c e1;have g1:(eqGuard op t x y (.slice b n c) (.slice none 0 0)).run P U.w=.ok () U.w:=by rcases hop with⟨rfl,_⟩|⟨rfl,_⟩<;>simp[eqGuard]
  have g2:(Op.equal t (.slice b n c) (.slice none 0 0)).run P U.w=.ok b.isNone U.w:=YZ hu 9999 b n c U.w;rcases hop with⟨rfl,rfl⟩|⟨rfl,rfl⟩<;>simp[execOp,ho,e1,hy,g1,binOp,g2]
 unfold OY at hex;split at hex
 ·rename_i b n c;simp only[yE,Wt]at hex;obtain⟨_,rfl,rfl⟩:=hex;have e1:a.eval x=.slice b n c:=by simpa[Rep]using hx
  exact Step.quiet h (run _ _ _ e1) (by simp[Rep])
 ·rename_i z f rows d;simp only[yE,Wt]at hex;obtain⟨rfl,rfl,rfl⟩:=hex;simp only[Rep]at hx;obtain⟨base,cap,e1,_,_,_,h5⟩:=hx;rcases h5 with h5|⟨b,k,rfl,_⟩
  ·exact absurd h5 hvc
  ·have:=run _ _ _ e1;exact Step.quiet h (v:=.bool neg) (by simpa using this) (by simp[Rep])
 ·simp at hex
theorem QN(h:HInv U hp){t yt:TypeId}{op:BinOp}{x y:Operand}{X Y:AV}(ho:o.op=.binOp op t x y yt)(hop:Fk P op t (Aq x) (Aq y)=.bin op .int (Aq x) (Aq y)\/Fk P op t (Aq x) (Aq y)=.bin op .bool (Aq x) (Aq y)/\P.underlying t=some .bool){tk:TK}(htk:Fk P op t (Aq x) (Aq y)=.bin op tk (Aq x) (Aq y))(hx:Rep U X (a.eval x))(hy:Rep U Y (a.eval y))(hex:vr (PL op tk X Y)=some (vc,r,ws))(hvc:vc):Step P o a U nm (ws++hp) r:=by
 unfold PL at hex;split at hex
 ·rename_i k m k' n;have e1:=D4 (X:=.un) hx;have e2:=D4 (X:=.un) hy;split at hex
  ·rename_i b hb;simp only[vr,yE,Wt]at hex;obtain⟨rfl,rfl,rfl⟩:=hex;subst hvc;refine Step.quiet h (v:=.bool b) ?_ (by simp[Rep]);have g1:=M9 (P:=P) op t x y k k m n U.w;have g2:=aP (P:=P) hb k t U.w;simp[execOp,ho,e1,e2,g1,g2]
  ·split at hex
   ·rename_i p z hz;simp only[vr,yE,Wt]at hex;obtain⟨rfl,rfl,rfl⟩:=hex;obtain⟨rfl,hp'⟩:=hvc;refine Step.quiet h (v:=.int k z) ?_ (by simp[Rep]);have g1:=M9 (P:=P) op t x y k k m n U.w;have g2:=jM (P:=P) hz hp' t U.w;simp[execOp,ho,e1,e2,g1,g2]
   ·simp[vr]at hex
 ·rename_i b1 b2;have e1:a.eval x=.bool b1:=by simpa[Rep]using hx
  have e2:a.eval y=.bool b2:=by simpa[Rep]using hy
  have hu:P.underlying t=some .bool:=by
   rcases hop with hop|hop
   ·rw[htk]at hop;simp at hop
   ·exact hop.2
  have heq:∀w,(Op.equal t (.bool b1) (.bool b2)).run P w=.ok (b1==b2) w:=by intro w;exact aQ hu 9999 b1 b2 w
  have g1:=λop=>U6 (P:=P) op t x y b1 b2 U.w
  split at hex
  ·simp only[vr,yE,Wt]at hex;obtain⟨rfl,rfl,rfl⟩:=hex;refine Step.quiet h (v:=.bool (b1==b2)) ?_ (by simp[Rep]);simp[execOp,ho,e1,e2,g1,binOp,heq]
  ·simp only[vr,yE,Wt]at hex;obtain⟨rfl,rfl,rfl⟩:=hex;refine Step.quiet h (v:=.bool (b1 !=b2)) ?_ (by simp[Rep]);simp[execOp,ho,e1,e2,g1,binOp,heq,bne]
  ·simp[vr]at hex
 ·simp[vr]at hex
theorem Tx{w:Bool}(h:HInv U hp){t yt:TypeId}{op:BinOp}{x y:Operand}{X Y:AV}(ho:o.op=.binOp op t x y yt)(hop:Fk P op t (Aq x) (Aq y)=.bin op .int (Aq x) (Aq y)\/Fk P op t (Aq x) (Aq y)=.bin op .bool (Aq x) (Aq y)/\P.underlying t=some .bool){tk:TK}(htk:Fk P op t (Aq x) (Aq y)=.bin op tk (Aq x) (Aq y))(hx:Rep U X (a.eval x))(hy:Rep U Y (a.eval y))(hex:vr (Ro w op tk X Y)=some (vc,r,ws))(hvc:vc):Step P o a U nm (ws++hp) r:=by
 cases w with
 |false=>exact QN h ho hop htk hx hy hex hvc
 |true=>
  simp only[Ro,Cg]at hex;unfold US at hex;split at hex
  ·rename_i k m k' n;split at hex
   ·rename_i z hz;simp only[vr,yE,Wt]at hex;obtain⟨rfl,rfl,rfl⟩:=hex;subst hvc;have e1:=D4 (X:=.un) hx;have e2:=D4 (X:=.un) hy;refine Step.quiet h (v:=.int k z) ?_ (by simp[Rep]);have g1:=M9 (P:=P) op t x y k k m n U.w;have g2:(binOp op t (.int k m) (.int k n)).run P U.w=.ok (.int k z) U.w:=by cases op<;>simp only[YP,yE,reduceCtorEq]at hz<;>subst hz<;>simp[binOp,Op.intArith]
    simp[execOp,ho,e1,e2,g1,g2]
   ·exact QN h ho hop htk hx hy hex hvc
  ·exact QN h ho hop htk hx hy hex hvc
end
section
variable{P:Program}{o:Oper}{a:Act}{U:Cf}{nm:Nm}{hp:Hp}{r:AV}{vc:Prop}{ws:Hp}
theorem U7(off:Nat):∀(l:List Value)(k:Nat)(cs:Array Value),off+k+l.length<=cs.size->((l.zipIdx k).foldl (λ(cs:Array Value)(p:Value×Nat)=>cs.setIfInBounds (off+p.2) p.1) cs).size=cs.size/\∀j,((l.zipIdx k).foldl (λ(cs:Array Value)(p:Value×Nat)=>cs.setIfInBounds (off+p.2) p.1) cs)[j]? =if off+k<=j/\j<off+k+l.length then l[j-(off+k)]? else cs[j]?
 |[],k,cs,_=>⟨rfl,λj=>by simp;omega⟩
 |x::l,k,cs,h=>by
  simp only[List.zipIdx_cons,List.foldl_cons];simp only[pC]at h;obtain⟨h1,h2⟩:=U7 off l (k+1) (cs.setIfInBounds (off+k) x) (by simp;omega);refine⟨by rw[h1];simp,λj=>?_⟩;rw[h2 j];simp only[pC,Array.getElem?_setIfInBounds];by_cases hj:off+k=j
  ·subst hj;have hne:¬(off+(k+1)<=off+k/\off+k<off+(k+1)+l.length):=by omega
   have hlt:off+k<cs.size:=by omega
   rw[eW hne,eX (by omega)];simp[hlt]
  ·by_cases h1:off+(k+1)<=j/\j<off+(k+1)+l.length
   ·rw[eX h1,eX (by omega)];have:j-(off+k)=(j-(off+(k+1)))+1:=by omega
    rw[this];simp
   ·have hne:¬(off+k<=j/\j<off+k+(l.length+1)):=by omega
    rw[eW h1,eW hne,eW hj]
theorem aT{cs ds rs:List AV}{off:Nat}{cells xs:Array Value}(h:G5 cs off ds=some rs)(hc:RepL U cs cells.toList)(h1:∀x∈cells.toList,Bs x=true)(hd:RepL U ds xs.toList)(h2:∀x∈xs.toList,Bs x=true):off+xs.size<=cells.size/\RepL U rs (xs.zipIdx.foldl (λ(cs:Array Value)(p:Value×Nat)=>cs.setIfInBounds (off+p.2) p.1) cells).toList/\∀x∈(xs.zipIdx.foldl (λ(cs:Array Value)(p:Value×Nat)=>cs.setIfInBounds (off+p.2) p.1) cells).toList,Bs x=true:=by
 obtain⟨q1,q2,q3⟩:=MP h;have l1:=BD hc;have l2:=BD hd;simp only[Ok]at l1 l2;have hle:off+xs.size<=cells.size:=by omega
 obtain⟨f1,f2⟩:=U7 off xs.toList 0 cells (by simpa using hle);have hz:xs.zipIdx.foldl (λ(cs:Array Value)(p:Value×Nat)=>cs.setIfInBounds (off+p.2) p.1) cells=(xs.toList.zipIdx 0).foldl (λ(cs:Array Value)(p:Value×Nat)=>cs.setIfInBounds (off+p.2) p.1) cells:=by rw[<-Array.foldl_toList,Array.toList_zipIdx]
 rw[hz];generalize (xs.toList.zipIdx 0).foldl (λ(cs:Array Value)(p:Value×Nat)=>cs.setIfInBounds (off+p.2) p.1) cells=res at f1 f2;simp only[OQ,Ok]at f2;refine⟨hle,LT (by simp;omega) λj c hj=>?_,λx hx=>?_⟩
 ·rw[q3]at hj;rw[Array.getElem?_toList,f2];by_cases hin:off<=j/\j<off+xs.size
  ·rw[eX hin];rw[eX (by omega)]at hj;exact Ep hd _ c hj
  ·rw[eW hin];rw[eW (by omega)]at hj;simpa using Ep hc j c hj
 ·obtain⟨j,hj,rfl⟩:=List.mem_iff_getElem.1 hx;simp only[Ok]at hj;have hg:=f2 j;rw[fC hj]at hg;simp only[Array.getElem_toList];by_cases hin:off<=j/\j<off+xs.size
  ·rw[eX hin]at hg;exact h2 _ (tU hg.symm)
  ·rw[eW hin]at hg;exact h1 _ (by rw[Array.mem_toList_iff];exact Array.mem_of_getElem? hg.symm)
theorem NT{pf:Nat->Option (Nat×Nat)}:∀{qs:List (Nat×Operand)}{ps:List (Nat×Nat×Opd)}{f:Opd->AV}{zs cs:List AV}{cells:Array Value},La pf qs=some ps->(∀p∈qs,Rep U (f (Aq p.2)) (a.eval p.2))->LD zs (ps.map λ(o,s,x)=>(o,s,f x))=some cs->RepL U zs cells.toList->(∀x∈cells.toList,Bs x=true)->∃cells',Instr.fill pf cells (qs.map λ(i,x)=>(i,a.eval x))=some cells'/\RepL U cs cells'.toList/\∀x∈cells'.toList,Bs x=true
 |[],ps,f,zs,cs,cells,hp,_,hf,hz,h1=>by simp[La]at hp;subst hp;simp[LD]at hf;subst hf;exact⟨cells,by simp[Instr.fill],hz,h1⟩
 |(i,x)::qs,ps,f,zs,cs,cells,hp,hr,hf,hz,h1=>by
  simp only[La]at hp;split at hp
  ·rename_i off s ps' hpf hps;simp at hp;subst hp;simp only[eZ,LD]at hf;split at hf
   ·rename_i xs hxs;split at hf
    ·rename_i hlen;split at hf
     ·rename_i cs' hov;have hrx:Rep U (f (Aq x)) (a.eval x):=hr (i,x) (by simp);obtain⟨g1,g2⟩:=O1 hxs hrx;have hl:=BD g1;obtain⟨k1,k2,k3⟩:=aT hov hz h1 g1 g2;obtain⟨cells',m1,m2,m3⟩:=NT hps (λp hp=>hr p (by simp[hp])) hf k2 k3;refine⟨cells',?_,m2,m3⟩;simp only[eZ,Instr.fill,hpf];simp only[Ok]at hl;rw[eW (by simp;omega)];exact m1
     ·simp at hf
    ·simp at hf
   ·simp at hf
  ·simp at hp
theorem Y0(h:HInv U hp){t:TypeId}{parts:Array (Nat×Operand)}{zs:List AV}{ps:List (Nat×Nat×Opd)}{pf:Nat->Option (Nat×Nat)}{f:Opd->AV}(ho:o.op=.build t parts)(hz:Iq P t=some zs)(hpf:SR P t=some pf)(hps:La pf parts.toList=some ps)(hr:∀x,Rep U (f (Aq x)) (a.eval x))(hex:LS zs (ps.map λ(o,s,x)=>(o,s,f x))=some (vc,r,ws)):Step P o a U nm (ws++hp) r:=by
 unfold LS at hex;split at hex
 ·rename_i cs hcs;simp only[yE,Wt]at hex;obtain⟨_,rfl,rfl⟩:=hex;obtain⟨i,z,e1,e2,e3,e4,rfl⟩:=Ir hz;obtain⟨cells',m1,m2,m3⟩:=NT hps (λp _=>hr p.2) hcs (L4 U z.cells.toList) e3;refine Step.quiet h (v:=.agg cells') ?_ (by simp only[Rep];exact⟨cells'.toList,by simp,m3,m2⟩);have hb:P.built t (parts.map λ(i,x)=>(i,a.eval x)).toList=some cells':=by
   unfold Program.built;unfold SR at hpf;rw[Array.toList_map];split at hpf
   ·rename_i fs hu;cases hm:fs.toList.mapM (λf=>(P.info? f.type).map λi=>(f.offset,i.size))with
    |none=>simp[hm]at hpf
    |some pl=>simp[hm]at hpf;subst hpf;simp only[e1,hu,e2,hm];simpa using m1
   ·rename_i n e hu;cases hm:P.info? e with
    |none=>simp[hm]at hpf
    |some j=>simp[hm]at hpf;subst hpf;simp only[e1,hu,e2,hm];simpa using m1
   ·simp at hpf
  have:=run_build (P:=P) U.w t _ cells' hb;simp[execOp,ho,this]
 ·simp at hex
theorem U8:∀(xs cs ds rs:List AV)(k:Nat),G5 cs k ds=some rs->G5 (xs++cs) (xs.length+k) ds=some (xs++rs)
 |[],cs,ds,rs,k,h=>by simpa using h
 |x::xs,cs,ds,rs,k,h=>by have:=U8 xs cs ds rs k h;rw[show(x::xs).length+k=(xs.length+k)+1 from by simp;omega];simp[G5,this]
theorem U9:∀(xs ds cs:List AV),xs.length=ds.length->G5 (xs++cs) 0 ds=some (ds++cs)
 |[],[],cs,_=>by cases cs<;>simp[G5]
 |[],_::_,_,h=>by simp at h
 |_::_,[],_,h=>by simp at h
 |x::xs,d::ds,cs,h=>by simp[G5,U9 xs ds cs (by simpa using h)]
theorem O4{sz:Nat}:∀(rows:List (List AV))(i:Nat)(xs:List AV),(∀r∈rows,r.length=sz)->xs.length=sz->i<rows.length->G5 rows.flatten (i*sz) xs=some (rows.set i xs).flatten
 |[],i,xs,_,_,h=>by simp at h
 |r::rows,0,xs,hr,hx,_=>by simp only[CV,Nat.zero_mul,List.set_cons_zero];exact U9 _ _ _ (by rw[hr r (by simp),hx])
 |r::rows,i+1,xs,hr,hx,h=>by simp only[CV,List.set_cons_succ];rw[OB,P9,<-hr r (by simp)];refine U8 _ _ _ _ _ ?_;rw[hr r (by simp)];exact O4 rows i xs (λr' h'=>hr r' (by simp[h'])) hx (by simpa using h)
theorem Qt{sz:Nat}:∀{ps:List (Nat×AV)}{rows rows':List (List AV)},PN sz rows ps=some rows'->(∀r∈rows,r.length=sz)->LD rows.flatten (ps.map λ(i,x)=>(i*sz,sz,x))=some rows'.flatten/\(∀r∈rows',r.length=sz)/\rows'.length=rows.length
 |[],rows,rows',h,hr=>by simp[PN]at h;subst h;exact⟨by simp[LD],hr,rfl⟩
 |(i,x)::ps,rows,rows',h,hr=>by
  simp only[PN]at h;split at h
  ·rename_i xs hxs;split at h
   ·rename_i hc;obtain⟨h1,h2,h3⟩:=Qt h (λr hr'=>by
     rcases List.mem_or_eq_of_mem_set hr' with hr'|rfl
     ·exact hr r hr'
     ·exact hc.1)
    refine⟨?_,h2,by rw[h3];simp⟩;simp only[eZ,LD,hxs,hc.1,if_true,O4 rows i xs hr hc.1 hc.2];exact h1
   ·simp at h
  ·simp at h
theorem NU{zs:List AV}{sz:Nat}(hz:zs.length=sz)(h0:0<sz):∀(len j:Nat),(List.replicate len zs).flatten[j]? =if j<len*sz then zs[j%sz]? else none
 |0,j=>by simp
 |len+1,j=>by
  simp only[List.replicate_succ,CV];by_cases hj:j<zs.length
  ·rw[z8 hj,tT (by omega),eX (by rw[OB];omega)]
  ·rw[Ja (by omega),NU hz h0 len,hz];have hm:(j-sz)%sz=j%sz:=(Nat.mod_eq_sub_mod (by omega)).symm;rw[hm];by_cases hl:j-sz<len*sz
   ·rw[eX hl,eX (by rw[OB];omega)]
   ·rw[eW hl,eW (by rw[OB];omega)]
theorem Qu{sz:Nat}:∀{rows:List (List AV)},(∀r∈rows,r.length=sz)->rows.flatten.length=rows.length*sz
 |[],_=>by simp
 |r::rs,h=>by have:=Qu (rows:=rs) (λr hr=>h r (by simp[hr]));simp only[CV,fF,pC,OB,this,h r (by simp)];omega
theorem Va{n:Nm}:∀{xs:List AV}{x:AV},x∈xs->n∈FT x->n∈Cu xs
 |y::ys,x,hx,hn=>by
  simp only[Cu,lO];rcases lJ.1 hx with rfl|hx
  ·exact .inl hn
  ·exact .inr (Va hx hn)
theorem Vb:∀{xs:List AV}{x:AV},EY hp xs->x∈xs->Hj hp x
 |y::ys,x,h,hx=>by
  simp only[EY]at h;rcases lJ.1 hx with rfl|hx
  ·exact h.1
  ·exact Vb h.2 hx
theorem Vc:∀{xs:List AV}{x:AV},Gc xs=true->x∈xs->K9 x=true
 |y::ys,x,h,hx=>by
  simp only[Gc,lP]at h;rcases lJ.1 hx with rfl|hx
  ·exact h.1
  ·exact Vc h.2 hx
theorem jO(h:HInv U hp)(hnm:¬U.al nm){t e:TypeId}{len:Nat}{parts:Array (Nat×Operand)}{zs:List AV}{i:TypeInfo}{f:Opd->AV}(ho:o.op=.buildSlice t len parts)(ht:P.underlying t=some (.slice e))(hi:P.info? e=some i)(hz:Iq P e=some zs)(h0:0<i.size/\len*i.size<=16777216)(hr:∀x,Rep U (f (Aq x)) (a.eval x))(hex:KZ hp nm i.size len zs ((parts.toList.map λ(j,x)=>(j,Aq x)).map λ(j,x)=>(j,f x))=some (vc,r,ws))(hvc:vc):Step P o a U nm (ws++hp) r:=by
 unfold KZ at hex;split at hex
 case h_2=>simp at hex
 rename_i rows hrows;simp only[yE,Wt]at hex;obtain⟨rfl,rfl,rfl⟩:=hex;obtain⟨v1,v2,v3⟩:=hvc;obtain⟨i',z,e1,e2,e3,e4,e5⟩:=Ir hz;rw[hi]at e1;cases e1
 generalize hps:((parts.toList.map λ(j,x)=>(j,Aq x)).map λ(j,x)=>(j,f x))=ps at*;obtain⟨σ1,f1,f2,f3,f4,f5,f6,f7,f8⟩:=h.frz (Cu (ps.map (·.2)));have hzl:zs.length=i.size:=by rw[e5];simp[e4]
 have hrep:∀p∈parts.toList,Rep σ1 (res hp (f (Aq p.2))) (a.eval p.2):=by
  intro p hp';have hm:f (Aq p.2)∈ps.map (·.2):=by rw[<-hps];simp only[LB,tI];exact⟨p,hp',rfl⟩
  exact Nn h f1 f3 _ f7 _ _ (Vb v1 hm) (Vc v2 hm) (λn hn=>Va hm hn) (hr p.2)
 have hcp:∀qs:List (Nat×Operand),La (λj=>some (j*i.size,i.size)) qs=some (qs.map λ(j,x)=>(j*i.size,i.size,Aq x)):=by
  intro qs;induction qs with
  |nil=>rfl
  |cons q qs ih=>obtain⟨j,x⟩:=q;simp[La,ih]
 obtain⟨g1,g2,g3⟩:=Qt hrows (λr hr'=>by rw[List.eq_of_mem_replicate hr'];exact hzl);have hcells:RepL σ1 (List.replicate len zs).flatten ((Array.range (len*i.size)).map (z.cells[·%z.cells.size]!)).toList:=by
  refine LT (by simp[hzl]) λj c hj=>?_
  rw[NU hzl h0.1]at hj;split at hj
  ·rename_i hlt;have hm:j%i.size<i.size:=uM _ h0.1;rw[e5,qX]at hj;refine⟨z.cells[j%i.size]!,?_,?_⟩
   ·simp[hlt,e4]
   ·rw[<-e4]at hm;simp only[e4]at hm hj;cases hzc:z.cells.toList[j%i.size]? with
    |none=>rw[hzc]at hj;simp at hj
    |some x=>
     rw[hzc]at hj;simp at hj;subst hj;have:z.cells[j%i.size]! =x:=by simp at hzc;rw[getElem!_def];simp[hzc]
     rw[this];exact LV σ1 x
  ·simp at hj
 have hone:∀x∈((Array.range (len*i.size)).map (z.cells[·%z.cells.size]!)).toList,Bs x=true:=by intro x hx;simp only[Array.toList_map,tI]at hx;obtain⟨j,_,rfl⟩:=hx;have hm:j%z.cells.size<z.cells.size:=uM _ (by omega);have hg:z.cells[j%z.cells.size]! =z.cells[j%z.cells.size]'hm:=getElem!_pos z.cells _ hm;exact e3 _ (by rw[hg,Array.mem_toList_iff];exact Array.getElem_mem hm)
 have hfm:(parts.toList.map λ(j,x)=>(j*i.size,i.size,Aq x)).map (λ(o,s,x)=>(o,s,res hp (f x)))=(ps.map λ(j,x)=>(j,res hp x)).map λ(j,x)=>(j*i.size,i.size,x):=by rw[<-hps];simp[LB,Function.comp_def]
 obtain⟨cells',m1,m2,m3⟩:=NT (U:=σ1) (f:=λx=>res hp (f x)) (hcp parts.toList) hrep (by rw[hfm];exact g1) hcells hone;have hrl:rows.length=len:=by rw[g3];simp
 have hnm1:¬σ1.al nm:=λhc=>hnm (f4 nm hc)
 have hml:=BD m2;have hfl:=Qu g2;obtain⟨k1,k2⟩:=f2.newArr (d:=zs) (us:=[]) (T:=e) hnm1 h0.1 m2 m3 g2 (λr hr=>Ft.1 v3 r hr) (fA _) (by rw[qF,hml,hfl];exact fA _);rw[qF,Q7,f3]at k1 k2;refine .inl ⟨.slice (some ⟨U.w.heap.size,0,none⟩) len len,_,_,.inl ?_,⟨f1.trans k1,k2,rfl,λm hm=>hm.elim (λh=>.inl (f4 m h)) .inr⟩,?_⟩
 ·have hfill:Instr.fill (λj=>some (j*i.size,i.size)) ((Array.range (len*i.size)).map (z.cells[·%z.cells.size]!)) (parts.map λ(j,x)=>(j,a.eval x)).toList=some cells':=by rw[Array.toList_map];exact m1
  have h24:¬(2^24<len*i.size):=by have:=h0.2;omega
  by_cases hl0:len*i.size=0
  ·have hr0:(Array.range (len*i.size)).map ((#[]:Array Value)[·%(#[]:Array Value).size]!)=(Array.range (len*i.size)).map (z.cells[·%z.cells.size]!):=by simp[hl0]
   rw[<-hr0]at hfill;simp[execOp,ho,Instr.buildSlice,run_underlying ht,Eu hi,h24,hl0];simp[hl0]at hfill;simp[hfill,newRow,newObj,Sem.run,Cf.setArr]
  ·simp[execOp,ho,Instr.buildSlice,run_underlying ht,Eu hi,h24,hl0,zeroValue,typeInfo,hi,e2];simp at hfill;simp[hfill,newRow,newObj,Sem.run,Cf.setArr]
 ·simp[Rep,Cf.setArr,Bs,hrl]
theorem W5{P:Program}{w:World}(t tx ty e:TypeId)(i:TypeInfo)(z:Value){kk:IntKind}(ht:P.underlying t=some (.slice e))(hx:P.underlying tx=some (.int kk))(hi:P.info? e=some i)(hz:i.zero=some z)(sb:Option Addr)(n:Int)(hn:0<n)(hb:n*i.bytes<=140737488355328)(hb0:0<i.bytes)(hs0:0<i.size):(Builtin.append_ #[t,tx] ty #[.slice sb 0 0,.int .i64 n]).run P w=.ok (.slice (some ⟨w.heap.size,0,none⟩) n.toNat (grownCap w n.toNat 0 e)) (w.drew.alloc (.cells (Builtin.zeroCells z.cells n.toNat++Builtin.zeroCells z.cells (grownCap w n.toNat 0 e-n.toNat)) e)):=by
 have hnb:n<=n*i.bytes:=by have:=Int.mul_le_mul_of_nonneg_left (a:=(1:Int)) (b:=(i.bytes:Int)) (c:=n) (by omega) (by omega);omega
 have hw:IntKind.i64.wrap n=n:=IW (k:=.i64) ⟨by omega,by omega⟩;have h0:¬n<0:=by omega
 have h1:¬n.toNat<=0:=by omega
 have hpos:¬n<=0:=by omega
 have hne:¬n.toNat=0:=by omega
 have h48:¬(281474976710656<n*i.bytes):=by omega
 have h63:¬(9223372036854775807<(n.toNat:Int)):=by omega
 have h63':¬(9223372036854775807<max n 0):=by omega
 have hb':n.toNat*i.bytes<=140737488355328:=by
  have:((n.toNat*i.bytes:Nat):Int)=n*i.bytes:=by rw[Int.natCast_mul,Mw (by omega)]
  omega
 have h48':¬(281474976710656<Builtin.nextslicecap n.toNat 0*i.bytes):=by have:=growslice_fits (bytes:=i.bytes) (need:=n.toNat) (old:=0) (by omega) hb';omega
 have hs:¬i.size=0:=by omega
 have hf:∀w:World,(Builtin.firstCells i.size 0 (.slice sb 0 0)).run P w=.ok #[] w:=λw=>H2 (P:=P) (w:=w) (base:=sb) (vs:=[]) (.inl rfl) i.size 0 0 0 (by simp)
 simp[Builtin.append_,run_underlying ht,run_underlying hx,sizeOf,typeInfo,zeroValue,hi,hz,hw,h0,h1,hpos,hne,h48,h63,h63',h48',hs,Question.forced,hf,newRow,grownCap,asInt,asIntOf];intro h;exact absurd h (Nat.ne_of_gt (Nat.mul_pos (by omega) hs0))
theorem aU(h:HInv U hp)(hnm:¬U.al nm){c:Call}{s x:Operand}{X Y:AV}{t t' e:TypeId}{kk:IntKind}{i:TypeInfo}{zs:List AV}(ho:o.op=.call c)(hc:c.callee=.builtin .append)(ha:c.args.toList=[s,x])(hat:c.argTypes.toList=[t,t'])(ht:P.underlying t=some (.slice e))(ht':P.underlying t'=some (.int kk))(hi:P.info? e=some i)(hz:Iq P e=some zs)(h0:0<i.size/\0<i.bytes)(hx:Rep U X (a.eval s))(hy:Rep U Y (a.eval x))(hex:Rp nm i.size i.bytes zs X Y=some (vc,r,ws))(hvc:vc):Step P o a U nm (ws++hp) r:=by
 have ha':c.args=#[s,x]:=SK.1 ha;have hat':c.argTypes=#[t,t']:=SK.1 hat;obtain⟨i',z,e1,e2,e3,e4,e5⟩:=Ir hz;rw[hi]at e1;cases e1
 unfold Rp at hex;split at hex
 ·rename_i sz0 d0 k n;simp only[yE,Wt]at hex;obtain⟨rfl,rfl,rfl⟩:=hex;obtain⟨rfl,v1,v2⟩:=hvc;simp only[Rep]at hx;obtain⟨base,cap,q1,_,q3,_⟩:=hx;have hc0:=q3 trivial;simp at hc0;subst hc0;have q2:=D4 (X:=.un) hy;have hrun:=W5 (P:=P) (w:=U.w) t t' o.type e i z ht ht' hi e2 base n v1 v2 h0.2 h0.1;obtain⟨len,hlen⟩:∃len,n.toNat=len:=⟨_,rfl⟩
  rw[hlen]at hrun⊢;have hzl:zs.length=i.size:=by rw[e5];simp[e4]
  have hw:∀(b:Nat)(o:Obj),U.w.heap[b]? =some o->U.w.drew.heap[b]? =some o:=λb o hb=>hb
  have h':=h.at hw ⟨rfl,rfl⟩;have e':Evo U (U.at U.w.drew):=Evo.at hw ⟨rfl,rfl⟩;have hcells:RepL (U.at U.w.drew) (List.replicate len zs).flatten (Builtin.zeroCells z.cells len).toList:=by
   unfold Builtin.zeroCells;refine LT (by simp[hzl,e4]) λj c hj=>?_
   rw[NU hzl h0.1]at hj;split at hj
   ·rename_i hlt;have hm:j%i.size<i.size:=uM _ h0.1;rw[e5,qX]at hj;refine⟨z.cells[j%i.size]!,?_,?_⟩
    ·simp[hlt,e4]
    ·rw[<-e4]at hm;simp only[e4]at hm hj;cases hzc:z.cells.toList[j%i.size]? with
     |none=>rw[hzc]at hj;simp at hj
     |some x=>
      rw[hzc]at hj;simp at hj;subst hj;have:z.cells[j%i.size]! =x:=by simp at hzc;rw[getElem!_def];simp[hzc]
      rw[this];exact LV _ x
   ·simp at hj
  have hone:∀x∈(Builtin.zeroCells z.cells len).toList,Bs x=true:=by intro x hx;unfold Builtin.zeroCells at hx;simp only[Array.toList_map,tI]at hx;obtain⟨j,_,rfl⟩:=hx;have hm:j%z.cells.size<z.cells.size:=uM _ (by omega);have hg:z.cells[j%z.cells.size]! =z.cells[j%z.cells.size]'hm:=getElem!_pos z.cells _ hm;exact e3 _ (by rw[hg,Array.mem_toList_iff];exact Array.getElem_mem hm)
  have hcg:=Qr U.w len 0 e;have hpz:AS zs=true:=by
   rw[e5];have:∀l:List Value,AS (l.map JY)=true:=by
    intro l;induction l with
    |nil=>rfl
    |cons v l ih=>simp only[eZ,AS,ih,Wk];unfold JY;split<;>rfl
   exact this _
  obtain⟨k1,k2⟩:=h'.newArr (n:=nm) (d:=zs) (rows:=List.replicate len zs) (vs:=(Builtin.zeroCells z.cells len).toList) (us:=(Builtin.zeroCells z.cells (grownCap U.w len 0 e-len)).toList) (T:=e) (cap:=grownCap U.w len 0 e) hnm h0.1 hcells hone
   (λr hr=>by rw[List.eq_of_mem_replicate hr];exact hzl) (λr hr=>by rw[List.eq_of_mem_replicate hr];exact hpz) (by simpa using hcg)
   (by rw[fF];simp only[Ok,size_zeroCells,e4,<-Nat.add_mul];exact Q0 _ (by omega))
  have hblk:(Builtin.zeroCells z.cells len++Builtin.zeroCells z.cells (grownCap U.w len 0 e-len))=((Builtin.zeroCells z.cells len).toList++(Builtin.zeroCells z.cells (grownCap U.w len 0 e-len)).toList).toArray:=by apply Array.ext';simp
  refine .inl ⟨.slice (some ⟨U.w.heap.size,0,none⟩) len (grownCap U.w len 0 e),U.w.drew.alloc (.cells (Builtin.zeroCells z.cells len++Builtin.zeroCells z.cells (grownCap U.w len 0 e-len)) e),_,.inl ?_,⟨e'.trans k1,k2,?_,λm hm=>hm⟩,?_⟩
  ·simp[execOp,ho,resolve,hc,invoke,builtin,ha',hat',q1,q2,hrun]
  ·simp only[Cf.setArr,Cf.at];rw[hblk]
  ·simp[Rep,Cf.setArr,Bs,Cf.at]
 ·simp at hex
theorem jP(h:HInv U hp)(hnm:¬U.al nm){x y:Operand}{X Y:AV}{t e:TypeId}{i:TypeInfo}{zs:List AV}(ho:o.op=.makeSlice t x y)(ht:P.underlying t=some (.slice e))(hi:P.info? e=some i)(hz:Iq P e=some zs)(h0:0<i.size/\0<i.bytes)(hx:Rep U X (a.eval x))(hy:Rep U Y (a.eval y))(hex:Uw nm i.size i.bytes zs X Y=some (vc,r,ws))(hvc:vc):Step P o a U nm (ws++hp) r:=by
 obtain⟨i',z,e1,e2,e3,e4,e5⟩:=Ir hz;rw[hi]at e1;cases e1
 unfold Uw at hex;split at hex
 ·rename_i k n k' c;simp only[yE,Wt]at hex;obtain⟨rfl,rfl,rfl⟩:=hex;obtain⟨rfl,v1,v2,v3⟩:=hvc;have q1:=D4 (X:=.un) hx;have q2:=D4 (X:=.un) hy;have hrun:=run_make (P:=P) U.w t e i z ht hi e2 k k' n n (by omega) (Int.le_refl _) (by rw[X4];omega) v3;obtain⟨len,hlen⟩:∃len,n.toNat=len:=⟨_,rfl⟩
  rw[hlen]at hrun⊢;have hzl:zs.length=i.size:=by rw[e5];simp[e4]
  have hcells:RepL U (List.replicate len zs).flatten (Builtin.zeroCells z.cells len).toList:=by
   unfold Builtin.zeroCells;refine LT (by simp[hzl,e4]) λj c hj=>?_
   rw[NU hzl h0.1]at hj;split at hj
   ·rename_i hlt;have hm:j%i.size<i.size:=uM _ h0.1;rw[e5,qX]at hj;refine⟨z.cells[j%i.size]!,?_,?_⟩
    ·simp[hlt,e4]
    ·rw[<-e4]at hm;simp only[e4]at hm hj;cases hzc:z.cells.toList[j%i.size]? with
     |none=>rw[hzc]at hj;simp at hj
     |some x=>
      rw[hzc]at hj;simp at hj;subst hj;have:z.cells[j%i.size]! =x:=by simp at hzc;rw[getElem!_def];simp[hzc]
      rw[this];exact LV _ x
   ·simp at hj
  have hone:∀x∈(Builtin.zeroCells z.cells len).toList,Bs x=true:=by intro x hx;unfold Builtin.zeroCells at hx;simp only[Array.toList_map,tI]at hx;obtain⟨j,_,rfl⟩:=hx;have hm:j%z.cells.size<z.cells.size:=uM _ (by omega);have hg:z.cells[j%z.cells.size]! =z.cells[j%z.cells.size]'hm:=getElem!_pos z.cells _ hm;exact e3 _ (by rw[hg,Array.mem_toList_iff];exact Array.getElem_mem hm)
  have hpz:AS zs=true:=by
   rw[e5];have:∀l:List Value,AS (l.map JY)=true:=by
    intro l;induction l with
    |nil=>rfl
    |cons v l ih=>simp only[eZ,AS,ih,Wk];unfold JY;split<;>rfl
   exact this _
  have hmk:madeCells z.cells (len*i.size)=Builtin.zeroCells z.cells len:=by unfold madeCells Builtin.zeroCells;rw[e4]
  rw[hmk]at hrun;obtain⟨k1,k2⟩:=h.newArr (n:=nm) (d:=zs) (rows:=List.replicate len zs) (vs:=(Builtin.zeroCells z.cells len).toList) (us:=[]) (T:=e) (cap:=len) hnm h0.1 hcells hone
   (λr hr=>by rw[List.eq_of_mem_replicate hr];exact hzl) (λr hr=>by rw[List.eq_of_mem_replicate hr];exact hpz) (by simp)
   (by simp[size_zeroCells,e4])
  rw[qF,Q7]at k1 k2;refine .inl ⟨.slice (some ⟨U.w.heap.size,0,none⟩) len len,_,_,.inl ?_,⟨k1,k2,rfl,λm hm=>hm⟩,?_⟩
  ·simp[execOp,ho,q1,q2,hrun,Cf.setArr]
  ·simp[Rep,Cf.setArr,Bs]
 ·simp at hex
theorem Lb{X:AV}{v:Value}{n:Int}(hx:Rep U X v)(ha:UT X=some n)(y:Nat)(code:BoundsCode)(h0:0<=n)(h1:n<=y)(w:World):(Instr.sliceBound v y code).run P w=.ok n.toNat w:=by
 unfold UT at ha;split at ha
 ·rename_i k m;simp at ha;subst ha;have e:=D4 (X:=.un) hx;simp[Instr.sliceBound,e,asIntOf,h0,h1]
 ·simp at ha
theorem O5{full:Bool}{rows rs:List (List AV)}{lo hi mx:Option AV}{lv hv mv:Option Value}{f:Bool}{p:Prop}{cap:Nat}(hex:OV full rows lo hi mx=some (p,f,rs))(hp:p)(hlo:∀x,lo=some x->∃v,lv=some v/\Rep U x v)(hlo':lo=none->lv=none)(hhi:∀x,hi=some x->∃v,hv=some v/\Rep U x v)(hhi':hi=none->hv=none)(hmx:∀x,mx=some x->∃v,mv=some v/\Rep U x v)(hmx':mx=none->mv=none)(hcap:rows.length<=cap)(hfull:full=true->cap=rows.length):∃l h m:Nat,(Instr.sliceBounds true rows.length cap lv hv mv).run P U.w=.ok (l,h,m) U.w/\l<=h/\h<=m/\m<=cap/\h<=rows.length/\rs=(rows.drop l).take (h-l)/\(f=true->m=h):=by
 have MX:∀(n:Int)(h:Nat)(c:BoundsCode),nR lo=some n->0<=n->n<=h->(lv=none/\n=0)\/∃v,lv=some v/\(Instr.sliceBound v h c).run P U.w=.ok n.toNat U.w:=by
  intro n h c h1 h2 h3;cases hlc:lo with
  |none=>rw[hlc]at h1;simp[nR]at h1;subst h1;exact .inl ⟨hlo' hlc,rfl⟩
  |some x=>rw[hlc]at h1;obtain⟨v,e1,e2⟩:=hlo x hlc;exact .inr ⟨v,e1,Lb e2 h1 h c h2 h3 _⟩
 unfold OV at hex;split at hex
 ·rename_i l hl;simp only[yE,Wt]at hex;obtain⟨rfl,rfl,rfl⟩:=hex;have e1:=hhi' rfl;have e2:=hmx' rfl;subst e1 e2;have hl2:=MX l rows.length .sliceB hl hp.1 (by omega);refine⟨l.toNat,rows.length,cap,?_,by omega,hcap,fA _,fA _,?_,hfull⟩
  ·rcases hl2 with⟨rfl,rfl⟩|⟨v,rfl,hl3⟩
   ·simp[Instr.sliceBounds]
   ·simp[Instr.sliceBounds,hl3]
  ·rw[List.take_of_length_le (by simp)]
 ·rename_i l h hl;obtain⟨v,e1,e3⟩:=hhi h rfl;have e2:=hmx' rfl;subst e1 e2;split at hex
  ·rename_i h' hh;simp only[yE,Wt]at hex;obtain⟨rfl,rfl,rfl⟩:=hex;have hh2:=Lb (P:=P) e3 hh cap .sliceAcap (by omega) (by omega) U.w;have hl2:=MX l h'.toNat .sliceB hl hp.1 (by omega);refine⟨l.toNat,h'.toNat,cap,?_,by omega,by omega,fA _,by omega,rfl,?_⟩
   ·rcases hl2 with⟨rfl,rfl⟩|⟨v,rfl,hl3⟩
    ·simp[Instr.sliceBounds,hh2]
    ·simp[Instr.sliceBounds,hh2,hl3]
   ·intro hf;simp only[lP,eR]at hf;have:=hfull hf.1;omega
  ·simp at hex
 ·rename_i l h m hl;obtain⟨v,e1,e3⟩:=hhi h rfl;obtain⟨u,e2,e4⟩:=hmx m rfl;subst e1 e2;split at hex
  ·rename_i h' m' hh hm;simp only[yE,Wt]at hex;obtain⟨rfl,rfl,rfl⟩:=hex;have hm2:=Lb (P:=P) e4 hm cap .slice3Acap (by omega) (by omega) U.w;have hh2:=Lb (P:=P) e3 hh m'.toNat .slice3B (by omega) (by omega) U.w;have hl2:=MX l h'.toNat .slice3C hl hp.1 (by omega);refine⟨l.toNat,h'.toNat,m'.toNat,?_,by omega,by omega,by omega,by omega,rfl,?_⟩
   ·rcases hl2 with⟨rfl,rfl⟩|⟨v,rfl,hl3⟩
    ·simp[Instr.sliceBounds,hm2,hh2]
    ·simp[Instr.sliceBounds,hm2,hh2,hl3]
   ·intro hf;simp only[eR]at hf;rw[hf]
  ·simp at hex
 ·simp at hex
theorem Vd{sz l h m:Nat}{f:Bool}{rows:List (List AV)}{d:List AV}{base:Option Addr}(hpu:∀r∈rows,AS r=true)(hrow:rows=[]\/∃b k,base=some ⟨b,k,none⟩/\Fz U b/\RepRows U sz b k rows)(h1:l<=h)(h2:h<=m)(h3:h<=rows.length)(hf:f=true->m=h):Rep U (.sl sz f ((rows.drop l).take (h-l)) d) (.slice (if m=l then base else base.map (·.add (l*sz))) (h-l) (m-l)):=by
 have hlen:((rows.drop l).take (h-l)).length=h-l:=by simp;omega
 simp only[Rep];refine⟨_,m-l,by rw[hlen],by rw[hlen];omega,λe=>by rw[hlen,hf e],λr hr=>hpu r (Tc (Q1 hr)),?_⟩;by_cases he:h=l
 ·left;apply zY;rw[hlen];omega
 ·right;rcases hrow with rfl|⟨b,k,rfl,k1,k2⟩
  ·simp at h3;omega
  ·refine⟨b,k+l*sz,?_,k1,Im λi r hi=>?_⟩
   ·rw[eW (by omega)];simp[JN]
   ·have hil:=(i5.1 hi).1;rw[hlen]at hil;rw[List.getElem?_take_of_lt hil,S6]at hi;have:=Ga k2 (l+i) r hi;rw[Nat.add_mul,<-t6]at this;exact this
theorem Ve(h:HInv U hp){t e:TypeId}{x:Operand}{lo hi mx:Option Operand}{X:AV}{i:TypeInfo}{f:Operand->AV}(ho:o.op=.slice t x lo hi mx)(ht:P.underlying t=some (.slice e))(hi':P.info? e=some i)(hx:Rep U X (a.eval x))(hr:∀x,Rep U (f x) (a.eval x))(hex:MH hp i.size X (lo.map f) (hi.map f) (mx.map f)=some (vc,r,ws))(hvc:vc):Step P o a U nm (ws++hp) r:=by
 have Mx:∀y:Option Operand,(∀x,y.map f=some x->∃v,y.map a.eval=some v/\Rep U x v)/\(y.map f=none->y.map a.eval=none):=by
  intro y;cases y with
  |none=>simp
  |some y=>simp only[t8,yE,reduceCtorEq,false_implies,and_true];rintro _ rfl;exact⟨_,rfl,hr y⟩
 have run:∀(base:Option Addr)(n cap l h' m:Nat),a.eval x=.slice base n cap->(Instr.sliceBounds true n cap (lo.map a.eval) (hi.map a.eval) (mx.map a.eval)).run P U.w=.ok (l,h',m) U.w->(execOp a.eval o).run P U.w=.ok (.value (.slice (if m=l then base else base.map (·.add (l*i.size))) (h'-l) (m-l))) U.w:=by intro base n cap l h' m e1 e2;simp[execOp,ho,Instr.sliceAt,Instr.slice,run_underlying ht,e1,e2,Eu hi']
 unfold MH at hex;split at hex
 ·rename_i sz' full rows d;split at hex
  ·rename_i p fl rs hs;simp only[yE,Wt]at hex;obtain⟨rfl,rfl,rfl⟩:=hex;simp only[Rep]at hx;obtain⟨base,cap,e1,e2,e3,e4,e5⟩:=hx;obtain⟨l,h',m,g1,g2,g3,g4,g5,rfl,g7⟩:=O5 (P:=P) hs hvc.2 (Mx lo).1 (Mx lo).2 (Mx hi).1 (Mx hi).2 (Mx mx).1 (Mx mx).2 e2 e3;refine Step.quiet h (run _ _ _ l h' m e1 g1) ?_;rcases hvc.1 with rfl|rfl
   ·exact Vd e4 e5 g2 g3 g5 g7
   ·have hz:h'=0:=by simpa using g5
    subst hz;have hl0:l=0:=by omega
    subst hl0;simp only[List.drop_nil,List.take_nil,Rep];exact⟨if m=0 then base else base.map (·.add (0*i.size)),m,by simp,by simp,λe=>by have:=g7 e;simp[this],by simp,.inl trivial⟩
  ·simp at hex
 ·rename_i n l0;cases hsn:HM n with
  |true=>rw[hsn]at hex;cases hex
  |false=>
  rw[hsn,tN]at hex;split at hex
  ·rename_i sz' live rows d hn;split at hex
   ·rename_i p fl rs hs;simp only[yE,Wt]at hex;obtain⟨rfl,rfl,rfl⟩:=hex;obtain⟨rfl,v2,v3⟩:=hvc;obtain⟨σ1,f1,f2,f3,f4,f5,f6,f7,f8⟩:=h.frz [n];have hv:=In h hn hx v2;have hsl:=PR h f1 f3 hsn hn v2 hx (f7 n (by simp));simp only[Rep]at hsl;obtain⟨base,cap,e1,e2,e3,e4,e5⟩:=hsl;obtain⟨l,h',m,g1,g2,g3,g4,g5,rfl,g7⟩:=O5 (P:=P) hs v3 (Mx lo).1 (Mx lo).2 (Mx hi).1 (Mx hi).2 (Mx mx).1 (Mx mx).2 e2 (by simp);exact .inl ⟨_,U.w,σ1,.inl (run _ _ _ l h' m e1 g1),⟨f1,f2,f3,λm hm=>.inl (f4 m hm)⟩,Vd e4 e5 g2 g3 g5 g7⟩
   ·simp at hex
  ·simp at hex
 ·simp at hex
def Cf.move(U:Cf)(n m:Nm)(k:Nat):Cf:={U with ra:=λj=>if j=m then U.ra n else U.ra j,al:=λj=>U.al j\/j=m,ln:=λj=>if j=m then some k else if j=n then none else U.ln j}
theorem Evo.move{U:Cf}{n m:Nm}{k:Nat}(hm:¬U.al m):Evo U (U.move n m k) where
 box j hj:=⟨.inl hj,rfl⟩
 arr j hj l hl:=by
  have:¬j=m:=by rintro rfl;exact hm hj
  simp only[Cf.move,eW this]at hl⊢;split at hl
  ·cases hl
  ·exact⟨l,hl,fA _,λ_=>trivial⟩
 fro b o h h':=⟨h,h'⟩
 out:=rfl
 sz:=fA _
 io:=SameO.refl _
theorem RepRows.take{U:Cf}{sz b:Nat}:∀{rs:List (List AV)}{o k:Nat},RepRows U sz b o rs->RepRows U sz b o (rs.take k)
 |[],o,k,h=>by simp[RepRows]
 |r::rs,o,0,h=>by simp[RepRows]
 |r::rs,o,k+1,h=>by simp only[QZ,RepRows]at h⊢;exact⟨h.1,h.2.1,RepRows.take h.2.2⟩
theorem HInv.move{U:Cf}{hp:Hp}(h:HInv U hp){n m:Nm}(hsn:HM n=false)(hm:¬U.al m){sz:Nat}{rows:List (List AV)}{d:List AV}{k:Nat}(hn:hl hp (.a n)=some (.sl sz true rows d))(hk:k<=rows.length):HInv (U.move n m k) ((.a m,.sl sz true (rows.take k) d)::(.a n,.un)::hp):=by
 have ev:=Evo.move (n:=n) (k:=k) hm;have hA:=h.arr n sz true rows d hn;have hnm:n≠m:=by rintro rfl;exact hm hA.1
 have hc:∀p j,hl ((.a m,.sl sz true (rows.take k) d)::(.a n,.un)::hp) (.c p j)=hl hp (.c p j):=λp j=>by simp only[hl];rw[eW (by intro e;cases e),eW (by intro e;cases e)]
 have ha:∀p,hl ((.a m,.sl sz true (rows.take k) d)::(.a n,.un)::hp) (.a p)=if p=m then some (.sl sz true (rows.take k) d)else if p=n then some .un else hl hp (.a p):=λp=>by
  simp only[hl,Loc.a.injEq];by_cases e:p=m
  ·subst e;simp
  ·rw[eW (λh=>e h.symm),eW e];by_cases e2:p=n
   ·subst e2;simp
   ·rw[eW (λh=>e2 h.symm),eW e2]
 refine⟨λp=>?_,λp j c hh=>?_,λp sz' live' rows' d' hh=>?_,λp q b hp' hq'=>?_,h.lt,h.ou,h.dis⟩
 ·unfold lenOf;rw[ha];simp only[Cf.move];by_cases e:p=m
  ·rw[eX e,eX e];simp;omega
  ·rw[eW e,eW e];by_cases e2:p=n
   ·rw[eX e2,eX e2]
   ·rw[eW e2,eW e2];exact h.ln p
 ·rw[hc]at hh;have q:=h.cel p j c hh;exact q.keep ev q.2.1 rfl
 ·rw[ha]at hh;by_cases e:p=m
  ·subst e;rw[eX rfl]at hh;cases hh
   obtain⟨q1,q2,q3,q4⟩:=hA;refine⟨.inr rfl,q2,λ_ r hr=>q3 hsn r (Q1 hr),?_⟩;rcases q4 with⟨a,g1,rfl⟩|⟨b,o,cap,g1,g2,g3,g4,g5,g6⟩
   ·exact .inl ⟨a,by simp[Cf.move,g1],by simp⟩
   ·refine .inr ⟨b,o,cap,by simp[Cf.move,g1],g2,by simp;omega,?_,g5,λe=>by cases e⟩;exact(g4.keep ev λj x _ hx=>hx).take
  ·rw[eW e]at hh;by_cases e2:p=n
   ·rw[eX e2]at hh;cases hh
   ·rw[eW e2]at hh;exact(h.arr p sz' live' rows' d' hh).keep ev (by simp[Cf.move,e]) λ_ _ _ _ _ _ hM=>⟨hM,rfl⟩
 ·have key:∀p b,Owns (U.move n m k) ((.a m,.sl sz true (rows.take k) d)::(.a n,.un)::hp) p b->(p=(true,m)/\Owns U hp (true,n) b)\/(p≠(true,m)/\p≠(true,n)/\Owns U hp p b):=by
   rintro⟨f,p⟩ b (⟨h1,h2,j,c,h3⟩|⟨h1,⟨sz',rows',d',h2⟩,o,cap,h3,h4⟩)
   ·simp only at h1 h2 h3;subst h1;rw[hc]at h3;exact .inr ⟨by simp,by simp,.inl ⟨rfl,h2,j,c,h3⟩⟩
   ·simp only at h1 h2 h3;subst h1;rw[ha]at h2;by_cases e:p=m
    ·subst e;exact .inl ⟨rfl,.inr ⟨rfl,⟨_,_,_,hn⟩,o,cap,by simpa[Cf.move]using h3,h4⟩⟩
    ·rw[eW e]at h2;by_cases e2:p=n
     ·rw[eX e2]at h2;cases h2
     ·rw[eW e2]at h2;exact .inr ⟨by simp[e],by simp[e2],.inr ⟨rfl,⟨_,_,_,h2⟩,o,cap,by simpa[Cf.move,e]using h3,h4⟩⟩
  rcases key p b hp' with⟨rfl,a1⟩|⟨a0,a2,a1⟩<;>rcases key q b hq' with⟨rfl,b1⟩|⟨b0,b2,b1⟩
  ·rfl
  ·exact absurd (h.inj _ _ _ a1 b1).symm b2
  ·exact absurd (h.inj _ _ _ a1 b1) a2
  ·exact h.inj _ _ _ a1 b1
theorem aV(h:HInv U hp)(hnm:¬U.al nm){t e:TypeId}{x:Operand}{lo hi mx:Option Operand}{X:AV}{i:TypeInfo}{f:Operand->AV}(ho:o.op=.slice t x lo hi mx)(ht:P.underlying t=some (.slice e))(hi':P.info? e=some i)(hx:Rep U X (a.eval x))(hr:∀x,Rep U (f x) (a.eval x))(hex:Jz hp nm i.size X (lo.map f) (hi.map f) (mx.map f)=some (vc,r,ws))(hvc:vc):Step P o a U nm (ws++hp) r:=by
 unfold Jz at hex;split at hex
 ·rename_i n l kk k e1 e2 e3;cases hsn:HM n with
  |true=>rw[hsn]at hex;cases hex
  |false=>
  rw[hsn,tN]at hex;split at hex
  ·rename_i sz' live rows d hn;simp only[yE,Wt]at hex;obtain⟨rfl,rfl,rfl⟩:=hex;obtain⟨rfl,v2,rfl,v4,v5⟩:=hvc;have hlo:lo=none:=by cases lo with|none=>rfl|some y=>simp at e1
   have hmx:mx=none:=by cases mx with|none=>rfl|some y=>simp at e3
   obtain⟨y,rfl,hy⟩:∃y,hi=some y/\f y=.v (.int kk k):=by
    cases hi with
    |none=>simp at e2
    |some y=>exact⟨y,rfl,by simpa using e2⟩
   subst hlo hmx;have hv:=In h hn hx v2;have hy':=hr y;rw[hy]at hy';have hyv:=D4 (X:=.un) hy';have hA:=h.arr n i.size true rows d hn;have hcap:rows.length<=(U.ra n).2:=by
    rcases hA.2.2.2 with⟨a,g1,rfl⟩|⟨b,o,cap,g1,_,g3,_⟩
    ·simp
    ·rw[g1];exact g3
   have hb:(Instr.sliceBounds true rows.length (U.ra n).2 none (some (a.eval y)) none).run P U.w=.ok (0,k.toNat,(U.ra n).2) U.w:=by simp[Instr.sliceBounds,Lb (P:=P) (X:=.v (.int kk k)) hy' rfl (U.ra n).2 .sliceAcap v4 (by omega)]
   have ev:=Evo.move (n:=n) (k:=k.toNat) hnm;refine .inl ⟨.slice (U.ra n).1 k.toNat (U.ra n).2,U.w,U.move n nm k.toNat,.inl ?_,⟨ev,h.move hsn hnm hn (by omega),rfl,λm hm=>hm⟩,?_⟩
   ·simp[execOp,ho,Instr.sliceAt,Instr.slice,run_underlying ht,hv,hb,Eu hi',Addr.add]
   ·simp[Rep,Cf.move,Bs];try omega
  ·simp at hex
 ·rename_i X' l' h' m' hne;exact Ve h ho ht hi' hx hr hex hvc
theorem Iz{p:PK}{Xs:List AV}{vc:Prop}{r:AV}{ws:Hp}(h:vr (BB p Xs)=some (vc,r,ws)):ws=[]/\BB p Xs=some (vc,r):=by
 unfold vr at h;split at h
 ·rename_i a b he;simp only[yE,Wt]at h;obtain⟨rfl,rfl,rfl⟩:=h;exact⟨rfl,he⟩
 ·simp at h
theorem jQ(s t:ByteArray):(s.toList==t.toList)=decide (bL s=bL t):=by
 rw[ByteArray.toList_eq,ByteArray.toList_eq];by_cases h:bL s=bL t
 ·rw[dC h];simpa[bL]using h
 ·rw[dJ h];simpa[bL]using h
theorem RG(s:ByteArray):(bL s).length=s.size:=rfl
theorem NV(s:ByteArray)(l h:Nat):s.extract l h=sB (((bL s).drop l).take (h-l)):=by rw[<-MF (s.extract l h)];congr 1;simp[bL,List.extract]
theorem GS{v u:Value}(h:Rep U (.v v) u):u=v:=by simpa[Rep]using h
theorem jR(h:HInv U hp){t yt:TypeId}{op:BinOp}{x y:Operand}{X Y:AV}(hop:op=.shl\/op=.shr)(ho:o.op=.binOp op t x y yt)(hx:Rep U X (a.eval x))(hy:Rep U Y (a.eval y))(hex:vr (BB (.shf op) [X,Y])=some (vc,r,ws))(hvc:vc):Step P o a U nm (ws++hp) r:=by
 obtain⟨rfl,he⟩:=Iz hex;cases X with
 |v X=>cases X with
  |int k n=>cases Y with
   |v Y=>cases Y with
    |int k' m=>simp only[BB,yE,Wt]at he;obtain⟨rfl,rfl⟩:=he;have e1:=GS hx;have e2:=GS hy;refine Step.quiet h (v:=.int k (CQ op k n m)) ?_ (by simp[Rep]);rcases hop with rfl|rfl<;>simp[execOp,ho,e1,e2,binOp,Op.shift,CQ,Int.not_lt.2 hvc,eqGuard]
    |_=>simp[BB]at he
   |_=>simp[BB]at he
  |_=>simp[BB]at he
 |_=>simp[BB]at he
theorem aW(h:HInv U hp){t yt:TypeId}{op:BinOp}{x y:Operand}{X Y:AV}(hop:op=.and\/op=.or\/op=.xor\/op=.andNot)(ho:o.op=.binOp op t x y yt)(hx:Rep U X (a.eval x))(hy:Rep U Y (a.eval y))(hex:vr (BB (.bits op) [X,Y])=some (vc,r,ws))(hvc:vc):Step P o a U nm (ws++hp) r:=by
 obtain⟨rfl,he⟩:=Iz hex;cases X with
 |v X=>cases X with
  |int k n=>cases Y with
   |v Y=>cases Y with
    |int k' m=>simp only[BB,yE,Wt]at he;obtain⟨rfl,rfl⟩:=he;have e1:=GS hx;have e2:=GS hy;subst hvc;refine Step.quiet h (v:=.int k (B9 op k n m)) ?_ (by simp[Rep]);rcases hop with rfl|rfl|rfl|rfl<;>simp[execOp,ho,e1,e2,binOp,Op.intBits,B9,eqGuard]
    |_=>simp[BB]at he
   |_=>simp[BB]at he
  |_=>simp[BB]at he
 |_=>simp[BB]at he
theorem aX(h:HInv U hp){t yt:TypeId}{x y:Operand}{X Y:AV}(ho:o.op=.binOp .add t x y yt)(hx:Rep U X (a.eval x))(hy:Rep U Y (a.eval y))(hex:vr (BB .scat [X,Y])=some (vc,r,ws))(hvc:vc):Step P o a U nm (ws++hp) r:=by
 obtain⟨rfl,he⟩:=Iz hex;cases X with
 |v X=>cases X with
  |string s=>cases Y with
   |v Y=>cases Y with
    |string s'=>
     simp only[BB,yE,Wt]at he;obtain⟨rfl,rfl⟩:=he;have e1:=GS hx;have e2:=GS hy;refine Step.quiet h (v:=.string (s++s')) ?_ ?_
     ·have:¬(((s.size+s'.size:Nat):Int)>IntKind.i64.max):=by rw[fF,RG,RG]at hvc;have:IntKind.i64.max=9223372036854775807:=rfl;omega
      simp only[execOp,ho,e1,e2,binOp,Op.stringOp,eqGuard,eW this];try rfl
     ·simp only[Rep];rw[<-MF (s++s')];congr 2;try simp[bL]
    |_=>simp[BB]at he
   |_=>simp[BB]at he
  |_=>simp[BB]at he
 |_=>simp[BB]at he
theorem Vf(h:HInv U hp){t yt:TypeId}{op:BinOp}{neg:Bool}{x y:Operand}{X Y:AV}(hop:op=.eql/\neg=false\/op=.neq/\neg=true)(ho:o.op=.binOp op t x y yt)(hx:Rep U X (a.eval x))(hy:Rep U Y (a.eval y))(hex:vr (BB (.seq neg) [X,Y])=some (vc,r,ws))(hvc:vc):Step P o a U nm (ws++hp) r:=by
 obtain⟨rfl,he⟩:=Iz hex;cases X with
 |v X=>cases X with
  |string s=>cases Y with
   |v Y=>cases Y with
    |string s'=>simp only[BB,yE,Wt]at he;obtain⟨rfl,rfl⟩:=he;have e1:=GS hx;have e2:=GS hy;refine Step.quiet h (v:=.bool (bif neg then !decide (bL s=bL s')else decide (bL s=bL s'))) ?_ (by simp[Rep]);rcases hop with⟨rfl,rfl⟩|⟨rfl,rfl⟩<;>simp[execOp,ho,e1,e2,binOp,Op.stringOp,eqGuard,jQ]
    |_=>simp[BB]at he
   |_=>simp[BB]at he
  |_=>simp[BB]at he
 |_=>simp[BB]at he
theorem jT(h:HInv U hp){src dst:TypeId}{x:Operand}{X:AV}{k k':IntKind}(ho:o.op=.convert src dst x)(hs:P.underlying src=some (.int k'))(hd:P.underlying dst=some (.int k))(hx:Rep U X (a.eval x))(hex:vr (BB (.cvw k) [X])=some (vc,r,ws)):Step P o a U nm (ws++hp) r:=by
 obtain⟨rfl,he⟩:=Iz hex;cases X with
 |v X=>cases X with
  |int k0 n=>simp only[BB,yE,Wt]at he;obtain⟨_,rfl⟩:=he;have e:=GS hx;refine Step.quiet h (v:=.int k (k.wrap n)) ?_ (by simp[Rep]);simp[execOp,ho,convert,run_underlying hs,run_underlying hd,e,Conv.intToInt]
  |_=>simp[BB]at he
 |_=>simp[BB]at he
theorem jU(h:HInv U hp){t:TypeId}{x:Operand}{X:AV}{fs:Array Field}(ho:o.op=.makeInterface t x)(hs:P.underlying t=some (.struct fs))(hx:Rep U X (a.eval x))(hex:vr (BB (.mkI t) [X])=some (vc,r,ws)):Step P o a U nm (ws++hp) r:=by
 obtain⟨rfl,he⟩:=Iz hex;cases X with
 |agg cs=>cases cs with
  |nil=>simp only[BB,yE,Wt]at he;obtain⟨_,rfl⟩:=he;simp only[Rep,RepL]at hx;obtain⟨xs,e,_,rfl⟩:=hx;refine Step.quiet h (v:=.iface t (.agg #[])) ?_ (by simp[Rep]);simp[execOp,ho,Instr.makeInterface,run_underlying hs,e]
  |cons _ _=>simp[BB]at he
 |_=>simp[BB]at he
theorem jV(h:HInv U hp){t xt:TypeId}{x:Operand}{X:AV}{fs:Array Field}(ho:o.op=.typeAssert x xt t true)(hs:P.underlying t=some (.struct fs))(hx:Rep U X (a.eval x))(hex:vr (BB (.tas t) [X])=some (vc,r,ws))(hvc:vc):Step P o a U nm (ws++hp) r:=by
 obtain⟨rfl,he⟩:=Iz hex;unfold BB at he;split at he
 case h_13 e1 e2=>
  rename_i t0 t1 cs;cases e1
  cases e2
  simp only[yE,Wt]at he;obtain⟨rfl,rfl⟩:=he;obtain⟨rfl,rfl⟩:=hvc;have hx:=GS hx;refine Step.quiet h (v:=.tuple #[.agg #[],.bool true]) ?_ ?_
  ·simp[execOp,ho,Instr.typeAssert,run_underlying hs,hx]
  ·simp only[Rep,RepL];exact⟨_,rfl,_,_,rfl,⟨[],rfl,by simp,rfl⟩,_,_,rfl,rfl,rfl⟩
 all_goals first|(rename_i e1 _;cases e1)|cases he
theorem aY(h:HInv U hp){c:Call}{x:Operand}{X:AV}{t:TypeId}(ho:o.op=.call c)(hc:c.callee=.builtin .len)(ha:c.args.toList=[x])(hat:c.argTypes.toList=[t])(ht:P.underlying t=some .string)(hx:Rep U X (a.eval x))(hex:vr (BB .slen [X])=some (vc,r,ws)):Step P o a U nm (ws++hp) r:=by
 obtain⟨rfl,he⟩:=Iz hex;have h1:c.args=#[x]:=by apply Array.ext';simpa using ha
 have h2:c.argTypes=#[t]:=by apply Array.ext';simpa using hat
 cases X with
 |v X=>cases X with
  |string s=>simp only[BB,yE,Wt]at he;obtain⟨_,rfl⟩:=he;have e:=GS hx;refine Step.quiet h (v:=.int .i64 s.size) ?_ (by simp[Rep,RG]);simp[execOp,ho,resolve,hc,h1,h2,e,invoke,builtin,Builtin.len_,run_underlying ht,goInt]
  |_=>simp[BB]at he
 |_=>simp[BB]at he
theorem aZ(h:HInv U hp){t:TypeId}{x ix:Operand}{X I:AV}(ho:o.op=.index t x ix)(ht:P.underlying t=some .string)(hx:Rep U X (a.eval x))(hi:Rep U I (a.eval ix))(hex:vr (BB .sidx [X,I])=some (vc,r,ws))(hvc:vc):Step P o a U nm (ws++hp) r:=by
 obtain⟨rfl,he⟩:=Iz hex;cases X with
 |v X=>cases X with
  |string s=>cases I with
   |v I=>cases I with
    |int k i=>
     simp only[BB,yE,Wt]at he;obtain⟨rfl,rfl⟩:=he;have e1:=GS hx;have e2:=GS hi;obtain⟨g1,g2⟩:=hvc;have hlt:i.toNat<s.size:=by rw[RG]at g2;omega
     have hg:s[i.toNat]? =some s[i.toNat]:=getElem?_pos s _ hlt;refine Step.quiet h (v:=.int .u8 s[i.toNat].toNat) ?_ ?_
     ·simp[execOp,ho,Instr.index,asIntOf,run_underlying ht,e1,e2,g1,hg]
     ·simp only[Rep];congr 4;rw[eT];have:(bL s)[i.toNat]? =some s[i.toNat]:=by unfold bL;rw[Array.getElem?_toList];exact getElem?_pos s.data _ hlt
      rw[this];rfl
    |_=>simp[BB]at he
   |_=>simp[BB]at he
  |_=>simp[BB]at he
 |_=>simp[BB]at he
theorem NW(h:HInv U hp){t:TypeId}{x:Operand}{lo hi:Option Operand}{X:AV}{f:Operand->AV}(ho:o.op=.slice t x lo hi none)(ht:P.underlying t=some .string)(hx:Rep U X (a.eval x))(hf:∀y,Rep U (f y) (a.eval y))(hex:vr (BB (.ssl lo.isSome hi.isSome) (X::((lo.map f).toList++(hi.map f).toList)))=some (vc,r,ws))(hvc:vc):Step P o a U nm (ws++hp) r:=by
 obtain⟨rfl,he⟩:=Iz hex;have bad:∀{u:Operand}{Y:AV}(k:IntKind)(n:Int),f u=Y->Y=.v (.int k n)->a.eval u=.int k n:=λk n e1 e2=>by have:=hf ‹Operand›;rw[e1,e2]at this;exact GS this
 have sb:∀(k:IntKind)(n:Int)(y:Nat)(cd:BoundsCode),0<=n->n<=y->(Instr.sliceBound (.int k n) y cd).run P U.w=.ok n.toNat U.w:=λk n y cd h0 h1=>by simp[Instr.sliceBound,asIntOf,h0,h1]
 cases X with
 |v X=>cases X with
  |string s=>
   have e1:=GS hx;have hsz:(bL s).length=s.size:=rfl;cases lo with
   |none=>cases hi with
    |none=>simp only[SM,Option.map_none,Option.toList_none,qF,BB,yE,Wt]at he;obtain⟨_,rfl⟩:=he;refine Step.quiet h (v:=.string (s.extract 0 s.size)) ?_ (by simp only[Rep];rw[ByteArray.extract_zero_size]);simp[execOp,ho,Instr.sliceAt,Instr.slice,Instr.sliceBounds,run_underlying ht,e1]
    |some hh=>
     simp only[SM,fD,Option.map_none,t8,Option.toList_none,Option.toList_some,nJ]at he;generalize hY:f hh=Y at he;cases Y with
     |v Y=>cases Y with
      |int k n=>simp only[BB,yE,Wt]at he;obtain⟨rfl,rfl⟩:=he;have e2:=bad k n hY rfl;rw[hsz]at hvc;refine Step.quiet h (v:=.string (s.extract 0 n.toNat)) ?_ (by simp only[Rep];rw[NV];simp);simp[execOp,ho,Instr.sliceAt,Instr.slice,Instr.sliceBounds,run_underlying ht,e1,e2,sb k n s.size .sliceAlen hvc.1 hvc.2]
      |_=>simp[BB]at he
     |_=>simp[BB]at he
   |some ll=>cases hi with
    |none=>
     simp only[SM,fD,Option.map_none,t8,Option.toList_none,Option.toList_some,qF]at he;generalize hY:f ll=Y at he;cases Y with
     |v Y=>cases Y with
      |int k n=>
       simp only[BB,yE,Wt]at he;obtain⟨rfl,rfl⟩:=he;have e2:=bad k n hY rfl;rw[hsz]at hvc;refine Step.quiet h (v:=.string (s.extract n.toNat s.size)) ?_ (by simp only[Rep];rw[NV,List.take_of_length_le (by rw[s9,hsz];omega)]);simp[execOp,ho,Instr.sliceAt,Instr.slice,Instr.sliceBounds,run_underlying ht,e1,e2,sb k n s.size .sliceB hvc.1 hvc.2]
      |_=>simp[BB]at he
     |_=>simp[BB]at he
    |some hh=>
     simp only[fD,t8,Option.toList_some,s8,nJ]at he;generalize hY:f ll=Y at he;generalize hZ:f hh=τ at he;cases Y with
     |v Y=>cases Y with
      |int k n=>cases τ with
       |v τ=>cases τ with
        |int k' m=>simp only[BB,yE,Wt]at he;obtain⟨rfl,rfl⟩:=he;have e2:=bad k n hY rfl;have e3:=bad k' m hZ rfl;rw[hsz]at hvc;refine Step.quiet h (v:=.string (s.extract n.toNat m.toNat)) ?_ (by simp only[Rep];rw[NV]);simp[execOp,ho,Instr.sliceAt,Instr.slice,Instr.sliceBounds,run_underlying ht,e1,e2,e3,sb k' m s.size .sliceAlen (by omega) hvc.2.2,sb k n m.toNat .sliceB hvc.1 (by omega)]
        |_=>simp[BB]at he
       |_=>simp[BB]at he
      |_=>simp[BB]at he
     |_=>simp[BB]at he
  |_=>cases lo<;>cases hi<;>simp[BB]at he
 |_=>cases lo<;>cases hi<;>simp[BB]at he
theorem jW{y:Operand}(h:Aq y=.k (.v .nilIface)):y=.const .nilIface:=by
 cases y with
 |const v=>
  simp only[Aq,Opd.k.injEq]at h;congr;unfold Xo at h;split at h
  ·split at h<;>simp at h
  ·unfold JY at h;split at h
   ·cases h
   ·simpa using h
 |tmp n=>simp[Aq]at h
 |global g=>simp[Aq]at h
 |func f=>simp[Aq]at h
theorem jX{y:Operand}(h:Aq y=.k (.v (.pointer none))):y=.const (.pointer none):=by
 cases y with
 |const v=>
  simp only[Aq,Opd.k.injEq]at h;congr;unfold Xo at h;split at h
  ·split at h<;>simp at h
  ·unfold JY at h;split at h
   ·cases h
   ·simpa using h
 |tmp n=>simp[Aq]at h
 |global g=>simp[Aq]at h
 |func f=>simp[Aq]at h
theorem Ty(h:HInv U hp){t yt:TypeId}{op:BinOp}{neg:Bool}{x y:Operand}{X:AV}{ms:Array (String×TypeId)}(hop:op=.eql/\neg=false\/op=.neq/\neg=true)(ho:o.op=.binOp op t x y yt)(hu:P.underlying t=some (.interface ms))(hy:Aq y=.k (.v .nilIface))(hx:Rep U X (a.eval x))(hex:vr (BB (.inil neg) [X])=some (vc,r,ws)):Step P o a U nm (ws++hp) r:=by
 obtain⟨rfl,he⟩:=Iz hex;have ey:=jW hy;subst ey;have ec:a.eval (.const .nilIface)=.nilIface:=rfl;have en:∀d w,(Op.equalIn (d+1) t .nilIface .nilIface).run P w=.ok true w:=λd w=>by simp[Op.equalIn,run_underlying hu]
 have es:∀d T v w,(Op.equalIn (d+1) t (.iface T v) .nilIface).run P w=.ok false w:=λd T v w=>by simp[Op.equalIn,run_underlying hu]
 cases X with
 |v X=>cases X with
  |nilIface=>simp only[BB,yE,Wt]at he;obtain⟨_,rfl⟩:=he;have e1:=GS hx;refine Step.quiet h (v:=.bool (!neg)) ?_ (by simp[Rep]);rcases hop with⟨rfl,rfl⟩|⟨rfl,rfl⟩<;>simp[execOp,ho,e1,ec,binOp,eqGuard,Op.equal,Op.maxDepth,en 9999]
  |iface T v=>simp only[BB,yE,Wt]at he;obtain⟨_,rfl⟩:=he;have e1:=GS hx;refine Step.quiet h (v:=.bool neg) ?_ (by simp[Rep]);rcases hop with⟨rfl,rfl⟩|⟨rfl,rfl⟩<;>simp[execOp,ho,e1,ec,binOp,eqGuard,Op.equal,Op.maxDepth,es 9999]
  |_=>simp[BB]at he
 |_=>simp[BB]at he
theorem Tz(h:HInv U hp){t yt e:TypeId}{op:BinOp}{neg:Bool}{x y:Operand}{X:AV}(hop:op=.eql/\neg=false\/op=.neq/\neg=true)(ho:o.op=.binOp op t x y yt)(hu:P.underlying t=some (.pointer e))(hy:Aq y=.k (.v (.pointer none)))(hx:Rep U X (a.eval x))(hex:vr (BB (.pnil neg) [X])=some (vc,r,ws)):Step P o a U nm (ws++hp) r:=by
 obtain⟨rfl,he⟩:=Iz hex;have ey:=jX hy;subst ey;have ec:a.eval (.const (.pointer none))=.pointer none:=rfl;have en:∀d p w,(Op.equalIn (d+1) t (.pointer p) (.pointer none)).run P w=.ok p.isNone w:=λd p w=>by cases p<;>simp[Op.equalIn,run_underlying hu]
 cases X with
 |v X=>cases X with
  |pointer p=>simp only[BB,yE,Wt]at he;obtain⟨_,rfl⟩:=he;have e1:=GS hx;refine Step.quiet h (v:=.bool (p.isNone !=neg)) ?_ (by simp[Rep]);rcases hop with⟨rfl,rfl⟩|⟨rfl,rfl⟩<;>simp[execOp,ho,e1,ec,binOp,eqGuard,Op.equal,Op.maxDepth,en 9999]
  |_=>simp[BB]at he
 |box n k=>simp only[BB,yE,Wt]at he;obtain⟨_,rfl⟩:=he;simp only[Rep]at hx;have e1:=hx.2;refine Step.quiet h (v:=.bool neg) ?_ (by simp[Rep]);rcases hop with⟨rfl,rfl⟩|⟨rfl,rfl⟩<;>simp[execOp,ho,e1,ec,binOp,eqGuard,Op.equal,Op.maxDepth,en 9999]
 |_=>simp[BB]at he
theorem Vg:∀{rows:List (List AV)}{vs:List Value},rows.all OL=true->RepL U rows.flatten vs->∃ns:List Int,vs=ns.map (Value.int .u8)/\rows.map M7=ns.map λn=>UInt8.ofNat n.toNat
 |[],vs,_,hr=>by simp[RepL]at hr;exact⟨[],by simp[hr],rfl⟩
 |r::rows,vs,hb,hr=>by
  simp only[List.all_cons,lP]at hb;obtain⟨h1,h2⟩:=hb;unfold OL at h1;split at h1
  ·rename_i n;simp only[CV,s8,nJ,RepL]at hr;obtain⟨y,ys,rfl,e1,e2⟩:=hr;obtain⟨ns,rfl,e3⟩:=Vg h2 e2;have:=GS e1;subst this;exact⟨n::ns,rfl,by simp[e3,M7]⟩
  ·cases h1
theorem jY(h:HInv U hp){src dst e:TypeId}{x:Operand}{X:AV}(ho:o.op=.convert src dst x)(hs:P.underlying src=some (.slice e))(hd:P.underlying dst=some .string)(hu:P.underlying e=some (.int .u8))(hx:Rep U X (a.eval x))(hex:MI hp X=some (vc,r,ws))(hvc:vc):Step P o a U nm (ws++hp) r:=by
 have run0:∀(l c:Nat),a.eval x=.slice none l c->(execOp a.eval o).run P U.w=.ok (.value (.string (sB []))) U.w:=by intro l c e1;simp only[execOp,ho,e1,Sem.run_bind,run_convert_bytes_nil U.w src e hs hu l c dst hd];rfl
 have run:∀(b k c sz:Nat)(rows:List (List AV)),sz=1->rows.all OL=true->RepRows U sz b k rows->a.eval x=.slice (some ⟨b,k,none⟩) rows.length c->(execOp a.eval o).run P U.w=.ok (.value (.string (sB (rows.map M7)))) U.w:=by
  rintro b k c sz rows rfl hb hr e1;obtain⟨vs,g1,g2,g3,g4,g5⟩:=IV hr;obtain⟨ns,rfl,e3⟩:=Vg hb g1;have hl:ns.length=rows.length:=by simpa using g5
  have:=run_convert_bytes_arg (P:=P) U.w src e hs hu b k rows.length c ns hl (λi hi=>by have:=g3 i (.int .u8 (ns.getD i 0)) (by simp[eV (show i<ns.length by omega),eT]);exact this) dst hd;simp only[execOp,ho,e1,Sem.run_bind,this,Result.andThen];rw[e3];rfl
 cases X with
 |sl sz f rows d=>
  simp only[MI,yE,Wt]at hex;obtain⟨rfl,rfl,rfl⟩:=hex;obtain⟨v1,v2⟩:=hvc;simp only[Rep]at hx;obtain⟨base,cap,e1,_,_,_,e4⟩:=hx;rcases e4 with rfl|⟨b,k,rfl,hf,hr⟩
  ·cases base with
   |none=>exact Step.quiet h (run0 _ _ e1) (by simp[Rep])
   |some ad=>refine Step.quiet h (v:=.string (sB [])) ?_ (by simp[Rep]);have:=run_convert_bytes_back (P:=P) U.w src dst e ad cap [] hs hu hd (by simp);simp only[execOp,ho,e1,Sem.run_bind];simp only[CP]at this⊢;rw[this];rfl
  ·rcases v1 with v1|rfl
   ·exact Step.quiet h (run b k cap sz rows v1 v2 hr e1) (by simp[Rep])
   ·exact Step.quiet h (run b k cap 1 [] rfl rfl (by simp[RepRows]) e1) (by simp[Rep])
 |own n l=>
  simp only[MI]at hex;split at hex
  ·rename_i sz live rows d hn;simp only[yE,Wt]at hex;obtain⟨rfl,rfl,rfl⟩:=hex;obtain⟨rfl,v2,v3⟩:=hvc;have hv:=In h hn hx v2;have hA:=h.arr n 1 live rows d hn;rcases hA.2.2.2 with⟨ad,g1,rfl⟩|⟨b,k,cap,g1,_,_,g4,_⟩
   ·rw[g1]at hv;cases ad with
    |none=>exact Step.quiet h (run0 _ _ hv) (by simp[Rep])
    |some ad=>refine Step.quiet h (v:=.string (sB [])) ?_ (by simp[Rep]);have:=run_convert_bytes_back (P:=P) U.w src dst e ad 0 [] hs hu hd (by simp);simp only[execOp,ho,hv,Sem.run_bind];simp only[CP]at this⊢;rw[this];rfl
   ·rw[g1]at hv;exact Step.quiet h (run b k cap 1 rows rfl v3 g4 hv) (by simp[Rep])
  ·simp at hex
 |_=>simp[MI]at hex
mutual
theorem If{Z:Cf}:∀(x:AV)(v:Value),GQ x=true->Rep U x v->Rep Z x v
 |.v x,v,_,h=>by simpa[Rep]using h
 |.agg cs,v,hf,h=>by simp only[Rep]at h⊢;obtain⟨xs,h1,h2,h3⟩:=h;exact⟨xs,h1,h2,NX cs xs (by simpa[GQ]using hf) h3⟩
 |.tup cs,v,hf,h=>by simp only[Rep]at h⊢;obtain⟨xs,h1,h3⟩:=h;exact⟨xs,h1,NX cs xs (by simpa[GQ]using hf) h3⟩
 |.sl _ _ _ _,v,hf,_=>by simp[GQ]at hf
 |.ro _ _,v,hf,_=>by simp[GQ]at hf
 |.clo _ _ _,v,hf,_=>by simp[GQ]at hf
 |.box _ _,v,hf,_=>by simp[GQ]at hf
 |.own _ _,v,hf,_=>by simp[GQ]at hf
 |.elem _ _ _ _ _,v,hf,_=>by simp[GQ]at hf
 |.gd _ _,v,hf,_=>by simp[GQ]at hf
 |.mp _,v,hf,_=>by simp[GQ]at hf
 |.un,v,hf,_=>by simp[GQ]at hf
theorem NX{Z:Cf}:∀(xs:List AV)(vs:List Value),Il xs=true->RepL U xs vs->RepL Z xs vs
 |[],vs,_,h=>by simpa[RepL]using h
 |x::xs,vs,hf,h=>by simp only[Il,lP]at hf;simp only[RepL]at h⊢;obtain⟨y,ys,h1,h2,h3⟩:=h;exact⟨y,ys,h1,If x y hf.1 h2,NX xs ys hf.2 h3⟩
end
theorem FA{f:Nat}(hf:FU P f)(args:Array Value)(w:World):(callFunc f args).run P w=.ok (.enter f args) w:=by
 obtain⟨fn,h1,h2,h3⟩:=hf;have h4:fn.name≠ "runtime.NumGoroutine" :=by simpa using h3
 have h5:fn.body≠none:=by intro e;simp[e]at h2
 unfold callFunc;simp[program,Sem.run,h1,h4,h5]
theorem MQ{hp:Hp}{n:Nm}{k o j:Nat}{c:AV}(h:(CU hp n o k)[j]? =some c):hl hp (.c n (o+j))=some c:=Rv k o j c h
theorem XA{n m:Nm}{j:Nat}:∀(us:List (Nat×AV)),m≠n->hl (JL n us) (.c m j)=none
 |[],_=>rfl
 |u::us,h=>by have:=XA (j:=j) us h;simp only[JL,eZ,hl]at this⊢;rw[eW (by simp[Ss h])];exact this
theorem O6{n m:Nm}:∀(us:List (Nat×AV)),hl (JL n us) (.a m)=none
 |[]=>rfl
 |u::us=>by have:=O6 (n:=n) (m:=m) us;simp only[JL,eZ,hl]at this⊢;rw[eW (by simp)];exact this
theorem Qv{n:Nm}{j:Nat}{c:AV}:∀(us:List (Nat×AV)),hl (JL n us) (.c n j)=some c->c∈us.map (·.2)
 |[],h=>by simp[JL,hl]at h
 |u::us,h=>by
  simp only[JL,eZ,hl]at h;split at h
  ·simp at h;simp[h]
  ·have:=Qv us h;simp at this⊢;exact .inr this
theorem Lc:∀{cs:List AV}{c:AV},Il cs=true->c∈cs->GQ c=true
 |c::cs,x,h,hx=>by
  simp only[Il,lP]at h;rcases lJ.1 hx with rfl|hx
  ·exact h.1
  ·exact Lc h.2 hx
def Cf.only(U:Cf)(n:Nm):Cf:={rb:=U.rb,ra:=U.ra,M:=λb=>b=U.rb n/\U.M b,O:=U.O,ln:=λ_=>none,al:=λm=>m=n/\U.al n,w:=U.w}
theorem Fz.only{U:Cf}{n:Nm}{b:Nat}(h:Fz U b):Fz (U.only n) b:=⟨λk=>h.1 k.2,h.2.1,h.2.2⟩
theorem NY{n:Nm}:∀{args:List AV}{vs:List Value},H1 args=true->Fs args=some n->RepL U args vs->RepL (U.only n) args vs
 |[],_,h,_,_=>by simp[H1]at h
 |c::cs,vs,h1,h2,hr=>by
  simp only[RepL]at hr⊢;obtain⟨y,ys,rfl,g1,g2⟩:=hr;refine⟨y,ys,rfl,?_⟩;have pu:∀(a:AV)(v:Value),Cw a=true->Rep U a v->Rep (U.only n) a v:=λa v=>Rep.ofPure (λb hb=>hb.only) (λ_ _=>rfl) a v
  cases c with
  |box m o=>simp only[H1]at h1;simp only[Fs,yE]at h2;subst h2;simp only[Rep]at g1;refine⟨?_,RepL.ofPure (λb hb=>hb.only) (λ_ _=>rfl) _ _ h1 g2⟩;simp only[Rep];exact⟨⟨rfl,g1.1⟩,g1.2⟩
  |_=>simp only[H1,lP,Fs]at h1 h2;exact⟨pu _ _ h1.1 g1,NY h1.2 h2 g2⟩
theorem Vh{c:AV}(h:GQ c=true):isM c=false:=by cases c<;>first|rfl|simp[GQ]at h
theorem HInv.only(h:HInv U hp){n:Nm}{cells:List AV}(hc:∀j c,cells[j]? =some c->hl hp (.c n j)=some c)(hf:Il cells=true):HInv (U.only n) (DM n 0 cells):=by
 have key:∀m j c,hl (DM n 0 cells) (.c m j)=some c->m=n/\hl hp (.c n j)=some c/\GQ c=true:=by
  intro m j c hm;rw[LU]at hm;split at hm
  ·rename_i e;rw[TU]at hm;exact⟨e.1,hc j c hm,Lc hf (tU hm)⟩
  ·cases hm
 refine⟨λm=>by simp[Cf.only,lenOf,Ht],λm j c hm=>?_,λm sz live rows d hm=>by simp[Ht]at hm,?_,λb hb=>h.lt b hb.2,h.ou,λb hb=>h.dis b hb.2⟩
 ·obtain⟨rfl,h1,h2⟩:=key m j c hm;obtain⟨k1,k2,cs,T,x,k3,k4,k5,k6⟩:=(h.cel _ _ _ h1).cells (Vh h2);exact⟨⟨rfl,k1⟩,⟨rfl,k2⟩,.inl ⟨cs,T,x,k3,k4,k5,If c x h2 k6⟩⟩
 ·have own:∀p b,Owns (U.only n) (DM n 0 cells) p b->p=(false,n):=by
   rintro⟨k,m⟩ b (⟨h1,_,j,c,h3⟩|⟨_,⟨_,_,_,h3⟩,_⟩)
   ·obtain⟨rfl,_⟩:=key m j c h3;simp only at h1;rw[h1]
   ·simp[Ht]at h3
  intro p q b hp hq;rw[own p b hp,own q b hq]
theorem HInv.back(h:HInv U hp){n:Nm}{cells:List AV}{us:List (Nat×AV)}{w':World}{σ':Cf}(hc:∀j c,cells[j]? =some c↔hl hp (.c n j)=some c)(hne:cells.isEmpty=false)(hf:Il cells=true)(hu:Il (us.map (·.2))=true)(hw:σ'.w=w')(ev:Evo (U.only n) σ')(hcel:∀j c,hl (JL n us++DM n 0 cells) (.c n j)=some c->CelF σ' n j c):Evo U (U.at w')/\HInv (U.at w') (JL n us++hp):=by
 subst hw;have e:Evo U (U.at σ'.w):=⟨λ_ h=>⟨h,rfl⟩,λ_ _ l h=>⟨l,h,fA _,λ_=>rfl⟩,λb o hb hM=>⟨(ev.fro b o hb λk=>hM k.2).1,hM⟩,rfl,ev.sz,ev.io⟩
 refine⟨e,?_⟩;obtain⟨c0,h0⟩:∃c0,cells[0]? =some c0:=by cases cells with|nil=>simp at hne|cons c _=>exact⟨c,rfl⟩
 have own:Owns U hp (false,n) (U.rb n):=.inl ⟨rfl,rfl,0,c0,(hc 0 c0).1 h0⟩;refine h.upd e (false,n) (λx hx hno=>⟨hx,?_⟩) (λl hl'=>?_) (λ_ _ _=>rfl) (λm=>?_) (λm j c hm hj=>?_) (λ_ _ _ _ _ h=>by cases h) (λx hx=>.inl ?_) (λb hb=>?_) ev.sz (λb h1 h2=>absurd h1 h2)
 ·have hlt:=h.lt x hx;have:=fC hlt;show σ'.w.heap[x]? =_;rw[this];exact(ev.fro x _ this λk=>hno (k.1▸own)).1
 ·rw[JB];cases l with
  |c m j=>rw[XA us (by rintro rfl;exact hl' rfl)];rfl
  |a m=>rw[O6];rfl
 ·simp only[lenOf,JB,O6,Option.none_or];exact h.ln m
 ·cases hm
  have hj':hl (JL n us++DM n 0 cells) (.c n j)=some c/\GQ c=true:=by
   rw[JB]at hj⊢;cases hq:hl (JL n us) (.c n j)with
   |some c'=>rw[hq]at hj;simp at hj;subst hj;exact⟨rfl,Lc hu (Qv us hq)⟩
   |none=>rw[hq]at hj;simp only[Option.none_or]at hj⊢;have:=(hc j c).2 hj;refine⟨?_,Lc hf (tU this)⟩;rw[LU,eX ⟨rfl,t7 _⟩,TU];exact this
  obtain⟨k1,k2,cs,T,x,k3,k4,k5,k6⟩:=(hcel j c hj'.1).cells (Vh hj'.2);have hn:=h.cel n 0 c0 ((hc 0 c0).1 h0);have hb:=ev.box n ⟨rfl,hn.1⟩;rw[hb.2]at k3;exact⟨hn.1,hn.2.1,.inl ⟨cs,T,x,k3,k4,k5,If c x hj'.2 k6⟩⟩
 ·rcases hx with⟨_,hx,_⟩|⟨hx,_⟩
  ·have:U.rb n=x:=hx;rw[<-this];exact own
  ·cases hx
 ·have:=h.lt b hb;exact u9 this ev.sz
theorem RH{S:Tab}(hS:TabOK P S)(gl:Gl U)(h:HInv U hp)(hal:∃c,∀m,U.al m->m.2<=c){f:Nat}{args:List AV}{vs:List Value}(hx:RepL U args vs)(hex:J8 S hp f args=some (vc,r,ws))(hvc:vc):FU P f/\Calls P f vs.toArray U.w λe w'=>∃v σ',e=.returned v/\Next U nm (ws++hp) w' σ'/\Rep σ' r v:=by
 unfold J8 at hex;split at hex
 ·rename_i p r' hs;cases hfl:GQ r' with
  |true=>
   simp only[hfl,Cg,yE,Wt]at hex;obtain⟨rfl,rfl,rfl⟩:=hex;obtain⟨v1,v2,v3⟩:=hvc;obtain⟨k1,k2⟩:=hS.f f _ _ _ hs v3;refine⟨k1,?_⟩
   let Z:Cf:={U with M:=λ_=>False}
   have e:Evo U Z:=⟨λ_ h=>⟨h,rfl⟩,λ_ _ l h=>⟨l,h,fA _,λ_=>rfl⟩,λ_ _ h _=>⟨h,λh=>h⟩,rfl,fA _,SameO.refl _⟩
   have hr:=Io (Z:=Z) h e rfl (λ_ h=>h) args vs v1 hx;refine(k2 Z vs (gl.mono e) (λb hb=>hb.elim False.elim (h.ou b)) v2 hr).mono ?_;rintro en w' ⟨v,rfl,g1,go,g2,g3⟩;have g1':∀(b:Nat)(o:Obj),U.w.heap[b]? =some o->w'.heap[b]? =some o:=g1;exact⟨v,U.at w',rfl,⟨Evo.at g1' go,h.at g1' go,rfl,λm hm=>.inl hm⟩,If _ v hfl g3⟩
  |false=>
   simp only[hfl,tN]at hex;cases hnb:Gc args with
   |false=>simp[hnb]at hex
   |true=>
    simp only[hnb,Cg,yE,Wt]at hex;obtain⟨rfl,rfl,rfl⟩:=hex;obtain⟨v1,v2,v3⟩:=hvc;obtain⟨k1,k2⟩:=hS.f f _ _ _ hs v3;refine⟨k1,?_⟩;obtain⟨σ1,f1,f2,f3,f4,f5,f6,f7,f8⟩:=h.frz (Cu args);have hr:=Ip h f1 f3 (Cu args) f7 args vs v1 hnb (λ_ h=>h) hx;have:=k2 σ1 vs (gl.mono f1) (λb hb=>hb.elim (f2.lt b) (f2.ou b)) v2 hr;rw[f3]at this;refine this.mono ?_;rintro en w' ⟨v,rfl,g1,go,g2,g3⟩;have g1':∀(b:Nat)(o:Obj),σ1.w.heap[b]? =some o->w'.heap[b]? =some o:=by rw[f3];exact g1
    have go':SameO σ1.w w':=by rw[f3];exact go
    exact⟨v,σ1.at w',rfl,⟨f1.trans (Evo.at g1' go'),f2.at g1' go',rfl,λm hm=>.inl (f4 m hm)⟩,g3⟩
 ·split at hex
  ·rename_i n hn;split at hex
   ·rename_i p r' us hs;simp only[yE,Wt]at hex;obtain⟨rfl,rfl,rfl⟩:=hex;obtain⟨v1,v2,v3,v4,v5,v6,v7⟩:=hvc;obtain⟨k1,k2⟩:=hS.e f _ _ _ _ _ n hs v7 hn;refine⟨k1,?_⟩;have hc:∀j c,(CU hp n 0 40)[j]? =some c↔hl hp (.c n j)=some c:=λj c=>by
     refine⟨λh=>by simpa using MQ h,λh=>?_⟩;rcases VN j (CU hp n 0 40).length with h1|h1
     ·rw[eV h1];have:=MQ (eV h1);rw[s6,h]at this;exact this.symm
     ·rw[v6 j h1]at h;cases h
    refine(k2 (U.only n) vs (λb j hj=>⟨(gl b j hj).1.only,(gl b j hj).2⟩) (h.only (λj c h=>(hc j c).1 h) v4) (λm hm=>hm.1) (NY v1 hn hx)).mono ?_;rintro en w' ⟨v,σ',rfl,hw,ev,hcel,hr⟩;obtain⟨e1,e2⟩:=h.back hc v5 v4 v3 hw ev hcel;exact⟨v,U.at w',rfl,⟨e1,e2,rfl,λm hm=>.inl hm⟩,If _ v v2 hr⟩
   ·split at hex
    ·rename_i p r' hs;simp only[yE,Wt]at hex;obtain⟨rfl,rfl,rfl⟩:=hex;obtain⟨k1,k2⟩:=hS.q f _ _ _ _ hs hvc;refine⟨k1,(k2 U hp vs gl h hal hx rfl).mono ?_⟩;rintro en w' ⟨v,σ',rfl,g1,g2,g3,g4,g5⟩;exact⟨v,σ',rfl,⟨g2,g3,g1,λm hm=>.inl (g4 m hm)⟩,g5⟩
    ·simp at hex
  ·simp at hex
theorem rO{k:AV}{a:Int}(h:kI k=some a):k=.v (.int .i64 a):=by
 unfold kI at h;split at h
 ·cases h;rfl
 ·cases h
theorem jZ{r:List AV}{rs:List (List AV)}(h:L2 (r::rs)=true):(∃a x,r=[.v (.int .i64 a),x])/\L2 rs=true:=by
 simp only[L2,List.all_cons,lP]at h;refine⟨?_,h.2⟩;have h1:=h.1;split at h1
 ·rename_i k x;obtain⟨a,ha⟩:=yX h1;exact⟨a,x,by rw[rO ha]⟩
 ·cases h1
theorem O7{U:Cf}(a:Int):∀{rows:List (List AV)}{es:List MapEntry}(i:Nat),RepEnts U rows es->L2 rows=true->(Instr.findNow (.int .i64) (.int .i64 a) es i=some none/\Jd rows a=false/\(∀d,Hs rows a d=d)/\∀x v b,Rep U x v->RepEnts U (F9 rows a x) (es++[⟨.int .i64 a,v,b⟩]))\/∃j e,Instr.findNow (.int .i64) (.int .i64 a) es i=some (some (i+j,e.val))/\es[j]? =some e/\e.key=.int .i64 a/\Jd rows a=true/\(∀d,Rep U (Hs rows a d) e.val)/\∀x v,Rep U x v->RepEnts U (F9 rows a x) (es.set j {e with key:=.int .i64 a,val:=v})
 |[],es,i,h,_=>by simp only[RepEnts]at h;subst h;refine .inl ⟨rfl,rfl,λ_=>rfl,λx v b hx=>⟨_,[],rfl,?_,rfl⟩⟩;simp only[RepL];exact⟨_,_,rfl,by simp[Rep],_,_,rfl,hx,rfl⟩
 |r::rs,es,i,h,hm=>by
  obtain⟨⟨b,x,rfl⟩,hm'⟩:=jZ hm;obtain⟨e,es',rfl,h2,h3⟩:=h;have h2':=h2;simp only[RepL,List.cons.injEq]at h2;obtain⟨y,ys,⟨rfl,rfl⟩,g1,z,zs,⟨rfl,rfl⟩,g2,_⟩:=h2;have g1:e.key=.int .i64 b:=by simpa[Rep]using g1
  by_cases hab:b=a
  ·subst hab;refine .inr ⟨0,e,by simp[Instr.findNow,Instr.sameNow,g1],rfl,g1,by simp[Jd,kI],λd=>by simpa[Hs,kI]using g2,λx' v hx=>?_⟩;simp only[F9,kI,decide_true,Cg,List.set_cons_zero];refine⟨_,_,rfl,?_,h3⟩;simp only[RepL];exact⟨_,_,rfl,by simp[Rep],_,_,rfl,hx,rfl⟩
  ·have hne:(a==b)=false:=by simp;omega
   have hk:¬kI (.v (.int .i64 b))=some a:=by simp[kI,hab]
   have hf:Instr.findNow (.int .i64) (.int .i64 a) (e::es') i=Instr.findNow (.int .i64) (.int .i64 a) es' (i+1):=by simp[Instr.findNow,Instr.sameNow,g1,hne]
   rcases O7 a (i+1) h3 hm' with⟨q1,q2,q3,q4⟩|⟨j,e',q1,q2,q3,q4,q5,q6⟩
   ·refine .inl ⟨hf.trans q1,by simp[Jd,hk,q2],λd=>by simp[Hs,hk,q3],λx' v b' hx=>?_⟩;simp only[F9,dJ hk,tN,s8];exact⟨_,_,rfl,h2',q4 x' v b' hx⟩
   ·refine .inr ⟨j+1,e',by rw[hf,q1];congr 3;omega,by simpa using q2,q3,by simp[Jd,q4],λd=>by simpa[Hs,hk]using q5 d,λx' v hx=>?_⟩;simp only[F9,dJ hk,tN,List.set_cons_succ];exact⟨_,_,rfl,h2',q6 x' v hx⟩
theorem MapF.of{U:Cf}{n:Nm}{rows:List (List AV)}(h:HInv U hp)(hn:hl hp (.c n 0)=some (.gd false (.sl 0 true rows []))):U.al n/\U.M (U.rb n)/\∃es:Array MapEntry,U.w.heap[U.rb n]? =some (.map es es.size)/\(∀r∈rows,AS r=true)/\RepEnts U rows es.toList/\∀(i:Nat)(e:MapEntry),es[i]? =some e->e.born=i:=by
 obtain⟨h1,h2,h3⟩:=h.cel n 0 _ hn;refine⟨h1,h2,?_⟩;rcases h3 with⟨cs,T,x,g1,g2,g3,g4⟩|⟨rows',es,g1,g2,g3,g4,g5⟩
 ·simp only[Rep]at g4;have:=g4.2 trivial;subst this;simp[undef,Bs]at g3
 ·cases g1.1
  exact⟨es,g2,g3,g4,g5⟩
theorem NZ{hp:Hp}{n:Nm}{j:Nat}:∀(ns:List Nm),hl (frz hp ns++hp) (.c n j)=hl hp (.c n j)
 |[]=>rfl
 |m::ns=>by
  simp only[frz];split
  ·simp only[s8,hl,reduceCtorEq,if_false];exact NZ ns
  ·exact NZ ns
theorem kC(h:HInv U hp)(hnm:¬U.al nm){t:TypeId}(ho:o.op=.makeMap t none):Step P o a U nm ([(.c nm 0,GX [])]++hp) (.mp nm):=by
 have e:=Evo.newBox (U:=U) (n:=nm) (o:=.map #[] 0) hnm;have hno:∀j c,hl hp (.c nm j)=some c->False:=λj c hc=>hnm (h.cel nm j c hc).1
 refine .inl ⟨.map (some U.w.heap.size),_,U.newBox nm (U.w.alloc (.map #[] 0)),.inl ?_,⟨e,?_,rfl,λm hm=>hm⟩,⟨.inr rfl,by simp[Cf.newBox]⟩⟩
 ·simp[execOp,ho,Instr.makeMap,newObj,Sem.run,Cf.newBox]
 ·refine h.upd e (false,nm) (λx hx _=>⟨.inl hx,BV (h.lt x hx)⟩) (λl hl'=>?_) (λ_ _ _=>rfl) (λm=>?_) (λm j c hm hc=>?_) (λ_ _ _ _ _ hm=>by cases hm) (λx hx=>.inr ?_) (λb hb=>?_) e.sz (λb hb hn=>?_)
  ·simp only[s8,nJ,hl];rw[eW (by rintro rfl;exact hl' rfl)]
  ·simp only[lenOf,s8,nJ,hl,reduceCtorEq,if_false];exact h.ln m
  ·cases hm
   simp only[s8,nJ,hl,Loc.c.injEq,true_and]at hc;split at hc
   ·cases hc
    refine⟨.inr rfl,.inr (by simp[Cf.newBox]),.inr ⟨[],#[],⟨rfl,‹0=j›.symm⟩,?_,by simp,rfl,by simp⟩⟩;simp only[Cf.newBox,if_true];exact G1
   ·exact(hno j c hc).elim
  ·rcases hx with⟨_,hx,_⟩|⟨hx,_⟩
   ·simp[Cf.newBox]at hx;omega
   ·cases hx
  ·rcases hb with hb|hb
   ·have:=h.lt b hb;simp[Cf.newBox];omega
   ·simp[Cf.newBox];omega
  ·rcases hb with hb|hb
   ·exact absurd hb hn
   ·omega
theorem Vi{n:Nm}{rows:List (List AV)}(h:J7 hp (.mp n)=some rows):hl hp (.c n 0)=some (.gd false (.sl 0 true rows [])):=by
 unfold J7 at h;simp only at h;split at h
 ·rename_i hn;cases h;exact hn
 ·cases h
theorem bA(h:HInv U hp){X:AV}{v:Value}{rows:List (List AV)}(hX:Rep U X v)(hn:J7 hp X=some rows):(∃b,∃es:Array MapEntry,v=.map (some b)/\U.w.heap[b]? =some (.map es es.size)/\RepEnts U rows es.toList)\/v=.map none/\rows=[]:=by
 unfold J7 at hn;split at hn
 ·split at hn
  ·rename_i hn';cases hn
   simp only[Rep]at hX;obtain⟨q1,q2,es,q3,q4,q5,_⟩:=MapF.of h hn';exact .inl ⟨_,es,hX.2,q3,q5⟩
  ·cases hn
 ·cases hn
  simp only[Rep]at hX;exact .inr ⟨hX,rfl⟩
 ·cases hn
theorem kD(h:HInv U hp){t kt et:TypeId}{m x:Operand}{X Y zd:AV}{ok:Bool}(ho:o.op=.lookup t m x ok)(ht:P.underlying t=some (.map kt et))(hk:P.underlying kt=some (.int .i64))(hz:nV P et=some zd)(hX:Rep U X (a.eval m))(hY:Rep U Y (a.eval x))(hex:MK hp zd ok X Y=some (vc,r,ws))(hvc:vc):Step P o a U nm (ws++hp) r:=by
 obtain⟨z,hz1,hz2⟩:=jB hz;unfold MK at hex;split at hex
 ·rename_i rows k hn;cases hex
  simp only[Rep]at hY;have zero:(Instr.lookup t (a.eval m) (.int .i64 k) ok).run P U.w=.ok (if ok then .tuple #[z,.bool false]else z) U.w->Jd rows k=false->(∀d,Hs rows k d=d)->Step P o a U nm ([]++hp) (bif ok then .tup [Hs rows k zd,.b (Jd rows k)]else Hs rows k zd):=λhr f2 f3=>by
   refine Step.quiet h (v:=if ok then .tuple #[z,.bool false]else z) (by simp[execOp,ho,hY,hr,Result.andThen]) ?_;cases ok with
   |false=>simpa[f3]using hz2 U
   |true=>simp only[Cg,f2,f3,if_true,Rep];exact⟨[z,.bool false],rfl,z,_,rfl,hz2 U,_,_,rfl,by simp[Rep],rfl⟩
  rcases bA h hX hn with⟨b,es,e1,e2,e3⟩|⟨e1,rfl⟩
  ·have hck:(Instr.checkKey es.isEmpty 10000 kt (.int .i64 k)).run P U.w=.ok () U.w:=MapKept.run_checkKey hk (by simp[MapKept.IsKey]) _ 9999;rcases O7 (U:=U) k 0 e3 hvc with⟨f1,f2,f3,_⟩|⟨j,e,f1,f2,f3,f4,f5,_⟩
   ·exact zero (by rw[e1];simp[Instr.lookup,run_underlying ht,MapKept.run_getObj_map e2,hck,MapKept.run_findKey hk f1,hz1,Result.andThen]) f2 f3
   ·have hr:(Instr.lookup t (a.eval m) (.int .i64 k) ok).run P U.w=.ok (if ok then .tuple #[e.val,.bool true]else e.val) U.w:=by rw[e1];simp[Instr.lookup,run_underlying ht,MapKept.run_getObj_map e2,hck,MapKept.run_findKey hk f1,Result.andThen]
    refine Step.quiet h (v:=if ok then .tuple #[e.val,.bool true]else e.val) (by simp[execOp,ho,hY,hr,Result.andThen]) ?_;cases ok with
    |false=>simpa using f5 zd
    |true=>simp only[Cg,f4,if_true,Rep];exact⟨[e.val,.bool true],rfl,_,_,rfl,f5 zd,_,_,rfl,by simp[Rep],rfl⟩
  ·have hck:(Instr.checkKey true 10000 kt (.int .i64 k)).run P U.w=.ok () U.w:=MapKept.run_checkKey hk (by simp[MapKept.IsKey]) _ 9999;exact zero (by rw[e1];simp[Instr.lookup,run_underlying ht,hck,MapKept.run_findKey hk (show Instr.findNow (.int .i64) (.int .i64 k) [] 0=some none from rfl),hz1,Result.andThen]) rfl λ_=>rfl
 ·cases hex
theorem RI{a:Int}{x:AV}(hx:Cw x=true):∀{rows:List (List AV)},(∀r∈rows,AS r=true)->∀r∈F9 rows a x,AS r=true
 |[],_,r,hr=>by simp only[F9,y9]at hr;subst hr;simp[AS,Cw,hx]
 |q::rs,h,r,hr=>by
  have ih:=RI hx (rows:=rs) (a:=a) λr hr=>h r (by simp[hr])
  have h0:=h q (by simp);rcases q with _|⟨k,_|⟨y,_|⟨z,zs⟩⟩⟩
  ·simp only[F9,lJ]at hr;rcases hr with rfl|hr
   ·exact h0
   ·exact ih r hr
  ·simp only[F9,lJ]at hr;rcases hr with rfl|hr
   ·exact h0
   ·exact ih r hr
  ·simp only[F9]at hr;cases hd:decide (kI k=some a)with
   |true=>
    rw[hd,Cg]at hr;rcases lJ.1 hr with rfl|hr
    ·simp only[AS,lP,and_true]at h0⊢;exact⟨h0.1,hx⟩
    ·exact h r (by simp[hr])
   |false=>
    rw[hd,tN]at hr;rcases lJ.1 hr with rfl|hr
    ·exact h0
    ·exact ih r hr
  ·simp only[F9,lJ]at hr;rcases hr with rfl|hr
   ·exact h0
   ·exact ih r hr
theorem Vj(h:HInv U hp){t kt et:TypeId}{m x y:Operand}{X Y τ:AV}(ho:o.op=.mapUpdate t m x y\/o.op=.insert t m x y)(ht:P.underlying t=some (.map kt et))(hk:P.underlying kt=some (.int .i64))(hX:Rep U X (a.eval m))(hY:Rep U Y (a.eval x))(hZ:Rep U τ (a.eval y))(hex:NO hp X Y τ=some (vc,r,ws))(hvc:vc):Step P o a U nm (ws++hp) r:=by
 unfold NO at hex;split at hex
 ·rename_i n;split at hex
  ·rename_i rows k hn;have hn:=Vi hn;cases hex
   obtain⟨v1,v2,v3,v4⟩:=hvc;simp only[Rep]at hX hY;obtain⟨σ1,f1,f2,f3,f4,f5,f6,f7,f8⟩:=h.frz (FT τ);have hr:=Nn h f1 f3 (FT τ) f7 τ _ v2 v3 (λ_ h=>h) hZ;have hn1:hl (frz hp (FT τ)++hp) (.c n 0)=some (.gd false (.sl 0 true rows [])):=by rw[NZ];exact hn
   obtain⟨q1,q2,es,q3,q4,q5,q6⟩:=MapF.of f2 hn1;have hrb:σ1.rb n=U.rb n:=(f1.box n hX.1).2;have hX2:a.eval m=.map (some (σ1.rb n)):=by rw[hrb];exact hX.2
   have hck:(Instr.checkKey false 10000 kt (.int .i64 k)).run P σ1.w=.ok () σ1.w:=MapKept.run_checkKey hk (by simp[MapKept.IsKey]) _ 9999;have key:∃es':Array MapEntry,(Instr.mapUpdate t (.map (some (σ1.rb n))) (.int .i64 k) (a.eval y)).run P σ1.w=.ok () {σ1.w with heap:=σ1.w.heap.setIfInBounds (σ1.rb n) (.map es' es'.size)}/\RepEnts σ1 (F9 rows k (res hp τ)) es'.toList/\∀(i:Nat)(e:MapEntry),es'[i]? =some e->e.born=i:=by
    rcases O7 (U:=σ1) k 0 q5 v1 with⟨g1,_,_,g4⟩|⟨j,e,g1,g2,g3,_,_,g6⟩
    ·refine⟨es.push ⟨.int .i64 k,a.eval y,es.size⟩,?_,by rw[Array.toList_push];exact g4 _ _ _ hr,λi e he=>?_⟩
     ·simp[Instr.mapUpdate,run_underlying ht,MapKept.run_getObj_map q3,hck,MapKept.run_findKey hk g1,MapKept.run_setObj_map _ q3,Result.andThen]
     ·rw[Array.getElem?_push]at he;split at he
      ·cases he;exact ‹_=_›.symm
      ·exact q6 i e he
    ·refine⟨es.modify j λe=>{e with key:=.int .i64 k,val:=a.eval y},?_,?_,λi e' he=>?_⟩
     ·have hkk:((es[j]?).map (·.key)).getD (.int .i64 k)=.int .i64 k:=by
       have:es[j]? =some e:=by simpa using g2
       rw[this];exact g3
      simp only[Instr.mapUpdate,Sem.run_bind,run_underlying ht,Result.andThen,MapKept.run_getObj_map q3,hck,MapKept.run_findKey hk g1,s6,hkk,MapKept.run_keyThatStays (d:=.int .i64) (k:=.int .i64 k) (by simp[MapKept.IsKey]),MapKept.run_setObj_map _ q3,Array.size_modify]
     ·have:(es.modify j λe=>{e with key:=.int .i64 k,val:=a.eval y}).toList=es.toList.set j {e with key:=.int .i64 k,val:=a.eval y}:=by
       apply List.ext_getElem?;intro i;have ge:es[j]? =some e:=by simpa using g2
       rw[Array.getElem?_toList,C8,List.getElem?_set];by_cases hij:j=i
       ·subst hij;obtain⟨hlt,hge⟩:=eY.1 ge;simp[hlt,hge]
       ·simp[hij]
      rw[this];exact g6 _ _ hr
     ·rw[C8]at he;split at he
      ·rename_i hij;subst hij;cases hj:es[j]? with
       |none=>rw[hj]at he;simp at he
       |some e1=>rw[hj]at he;simp at he;subst he;exact q6 j e1 hj
      ·exact q6 i e' he
   obtain⟨es',k1,k2,k3⟩:=key;rw[f3]at k1
   let w2:World:={U.w with heap:=U.w.heap.setIfInBounds (σ1.rb n) (.map es' es'.size)}
   have hlt:σ1.rb n<U.w.heap.size:=by have:=f2.lt _ q2;rw[f3]at this;exact this
   have hoth:∀b,b≠σ1.rb n->w2.heap[b]? =σ1.w.heap[b]? :=λb hb=>by rw[f3];simp[w2,Ss hb]
   have hsm:w2.heap[σ1.rb n]? =some (.map es' es'.size):=by simp[w2,hlt]
   have hsz:σ1.w.heap.size<=w2.heap.size:=by rw[f3];simp[w2]
   have e2:Evo σ1 (σ1.at w2):=⟨λ_ h=>⟨h,rfl⟩,λ_ _ l h=>⟨l,h,fA _,λ_=>rfl⟩,λb x hb hM=>⟨by show w2.heap[b]? =_;rw[hoth b (λe=>hM (e▸q2))];exact hb,hM⟩,rfl,hsz,by rw[f3];exact⟨rfl,rfl⟩⟩
   have own:Owns σ1 (frz hp (FT τ)++hp) (false,n) (σ1.rb n):=.inl ⟨rfl,rfl,0,_,hn1⟩;have inv2:HInv (σ1.at w2) ((.c n 0,GX (F9 rows k (res hp τ)))::(frz hp (FT τ)++hp)):=by
    refine f2.upd e2 (false,n) (λx hx hno=>⟨hx,hoth x λe=>hno (e▸own)⟩) (λl hl'=>?_) (λ_ _ _=>rfl) (λm'=>?_) (λm' j c hm hc=>?_) (λ_ _ _ _ _ hm=>by cases hm) (λx hx=>.inl ?_) (λb hb=>u9 (f2.lt b hb) hsz) hsz (λb hb hn=>absurd hb hn)
    ·simp only[hl];rw[eW (by rintro rfl;exact hl' rfl)]
    ·simp only[lenOf,hl,reduceCtorEq,if_false];exact f2.ln m'
    ·cases hm
     simp only[hl,Loc.c.injEq,true_and]at hc;split at hc
     ·cases hc
      exact⟨q1,q2,.inr ⟨_,es',⟨rfl,‹0=j›.symm⟩,hsm,RI v4 q4,k2.map λr vs=>RepL.mono e2 r vs,k3⟩⟩
     ·obtain⟨c1,c2,c3⟩:=f2.cel n j c hc;rcases c3 with⟨cs,T,xx,d1,_⟩|⟨rows2,es2,⟨_,d1⟩,_⟩
      ·rw[q3]at d1;cases d1
      ·exact absurd d1.symm ‹¬0=j›
    ·rcases hx with⟨_,hx,_⟩|⟨hx,_⟩
     ·have:σ1.rb n=x:=hx;rw[<-this];exact own
     ·cases hx
   refine .inl ⟨undef,w2,σ1.at w2,.inr ⟨?_,rfl⟩,⟨f1.trans e2,inv2,rfl,λm' hm=>.inl (f4 m' hm)⟩,by simp[Rep]⟩;rcases ho with ho|ho<;>simp[execOp,ho,hX2,hY,k1,Result.andThen,w2]
  ·cases hex
 ·cases hex
theorem bB{S:Tab}(hS:TabOK P S)(gl:Gl U)(h:HInv U hp)(hal:∃c,∀m,U.al m->m.2<=c){c:Call}{f:Nat}{args:List AV}(ho:o.op=.call c)(hc:c.callee=.value (.func f))(hx:RepL U args (c.args.toList.map a.eval))(hex:J8 S hp f args=some (vc,r,ws))(hvc:vc):Step P o a U nm (ws++hp) r:=by obtain⟨k1,k2⟩:=RH (nm:=nm) hS gl h hal hx hex hvc;refine .inr ⟨f,_,?_,k2⟩;have hr:=FA k1 (c.args.map a.eval) U.w;rw[<-Array.toList_map,Q7];simp[execOp,ho,resolve,hc,Act.eval,Deferred.ofValue,invoke,hr]
theorem SS{S:Tab}(hS:TabOK P S)(gl:Gl U)(h:HInv U hp)(hal:∃c,∀m,U.al m->m.2<=c){c:Call}{x:Operand}{X:AV}{args:List AV}(ho:o.op=.call c)(hc:c.callee=.value x)(hX:Rep U X (a.eval x))(hx:RepL U args (c.args.toList.map a.eval))(hex:UW S hp X args=some (vc,r,ws))(hvc:vc):Step P o a U nm (ws++hp) r:=by
 unfold UW at hex;split at hex
 ·rename_i f first caps
  simp only[Rep]at hX;obtain⟨xs,ys,e1,e2,e3⟩:=hX;obtain⟨k1,k2⟩:=RH (nm:=nm) hS gl h hal (EG (EG e2 hx) e3) hex hvc;refine .inr ⟨f,_,?_,k2⟩;have hr:=λargs=>FA k1 args U.w
  simp only[execOp,ho,resolve,hc,e1,Sem.run_bind,Deferred.ofValue,Sem.run_pure,Result.andThen,invoke,hr];congr 1;congr 1;apply Array.ext';simp
 ·simp at hex
end
section
variable{P:Program}{o:Oper}{a:Act}{U:Cf}{nm:Nm}{hp:Hp}{r:AV}{vc:Prop}{ws:Hp}
theorem J1{S:Tab}{env:Au}{g:Bool}{k:AK}(hk:k=.bad)(hex:AB S env hp nm g k=some (vc,r,ws)):False:=by subst hk;simp[AB]at hex
theorem bC{S:Tab}(hS:TabOK P S)(gl:Gl U)(h:HInv U hp){env:Au}(ht:TInv U env a)(hnm:¬U.al nm/\∃c,∀m,U.al m->m.2<=c){g:Bool}(hg:g=true){c:Call}(ho:o.op=.call c)(hex:AB S env hp nm g (Jg P c)=some (vc,r,ws))(hvc:vc):Step P o a U nm (ws++hp) r:=by
 have bad:AB S env hp nm g .bad=some (vc,r,ws)->Step P o a U nm (ws++hp) r:=λe=>(J1 rfl e).elim
 have A:=Fl hg ht;have AL:=F3 hg ht c.args.toList;unfold Jg at hex;cases hcal:c.callee with
 |value f=>
  rw[hcal]at hex;cases f with
  |func f=>simp only[AB]at hex;exact bB hS gl h hnm.2 ho hcal AL hex hvc
  |tmp t=>simp only[AB]at hex;exact SS hS gl h hnm.2 ho hcal (A _) AL hex hvc
  |const v=>simp only[AB]at hex;exact SS hS gl h hnm.2 ho hcal (A _) AL hex hvc
  |global g'=>simp only[AB]at hex;exact SS hS gl h hnm.2 ho hcal (A _) AL hex hvc
 |invoke r' m=>rw[hcal]at hex;exact bad hex
 |builtin b=>
  rw[hcal]at hex;cases b
  case len=>
   simp only at hex;split at hex
   ·rename_i x t hx htt;split at hex
    ·rename_i e he;simp only[AB]at hex;exact jG h ho hcal hx htt he (A x) hex hvc
    ·rename_i he;simp only[AB,eZ,w7]at hex;exact aY h ho hcal hx htt he (A x) hex
    ·exact bad hex
   ·exact bad hex
  case cap=>
   simp only at hex;split at hex
   ·rename_i x t hx htt;split at hex
    ·rename_i e he;simp only[AB]at hex;exact jH h ho hcal hx htt he (A x) hex hvc
    ·exact bad hex
   ·exact bad hex
  case append=>
   simp only at hex;split at hex
   ·rename_i s x t t' hx htt;split at hex
    ·rename_i hteq;subst hteq;split at hex
     ·rename_i e he;split at hex
      ·rename_i i zs hi hz;split at hex
       ·rename_i h0;simp only[AB]at hex;exact jI h hnm.1 ho hcal hx htt he hi hz h0 (A s) (A x) hex hvc
       ·exact bad hex
      ·exact bad hex
     ·exact bad hex
    ·split at hex
     ·rename_i e kk he he';split at hex
      ·rename_i i zs hi hz;split at hex
       ·rename_i h0;simp only[AB]at hex;exact aU h hnm.1 ho hcal hx htt he he' hi hz h0 (A s) (A x) hex hvc
       ·exact bad hex
      ·exact bad hex
     ·exact bad hex
   ·exact bad hex
  case recover=>exact absurd hex (by simp[AB])
  case max=>simp only[AB]at hex;exact Xz (isMax:=true) h ho hcal AL hex
  case min=>simp only[AB]at hex;exact Xz (isMax:=false) h ho hcal AL hex
  all_goals exact bad hex
theorem rP{y:Operand}(h:Aq y=.k (.sl 0 true [] [])):a.eval y=.slice none 0 0:=by
 cases y with
 |const v=>
  simp only[Aq,Opd.k.injEq]at h;unfold Xo at h;split at h
  ·split at h<;>cases h
  ·unfold JY at h;split at h
   ·rfl
   ·cases h
 |tmp n=>simp[Aq]at h
 |global g=>simp[Aq]at h
 |func f=>simp[Aq]at h
theorem kE{S:Tab}(h:HInv U hp){env:Au}(ht:TInv U env a){g:Bool}(hg:g=true){op:BinOp}{t yt:TypeId}{x y:Operand}(ho:o.op=.binOp op t x y yt)(hex:AB S env hp nm g (Fk P op t (Aq x) (Aq y))=some (vc,r,ws))(hvc:vc):Step P o a U nm (ws++hp) r:=by
 have A:=Fl hg ht;have sh:∀op',op=op'->(op'=.shl\/op'=.shr)->AB S env hp nm g (match P.underlying t with|some (.int _)=>.pr (.shf op') [Aq x,Aq y]|_=>.bad)=some (vc,r,ws)->Step P o a U nm (ws++hp) r:=by
  rintro op' rfl ho' he;split at he
  ·simp only[AB,eZ,w7]at he;exact jR h ho' ho (A x) (A y) he hvc
  ·exact(J1 rfl he).elim
 have bt:∀op',op=op'->(op'=.and\/op'=.or\/op'=.xor\/op'=.andNot)->AB S env hp nm g (match P.underlying t with|some (.int _)=>.pr (.bits op') [Aq x,Aq y]|_=>.bad)=some (vc,r,ws)->Step P o a U nm (ws++hp) r:=by
  rintro op' rfl ho' he;split at he
  ·simp only[AB,eZ,w7]at he;exact aW h ho' ho (A x) (A y) he hvc
  ·exact(J1 rfl he).elim
 by_cases q1:op=.shl
 ·exact sh _ q1 (.inl rfl) (by rw[q1]at hex;exact hex)
 by_cases q2:op=.shr
 ·exact sh _ q2 (.inr rfl) (by rw[q2]at hex;exact hex)
 by_cases q3:op=.and
 ·exact bt _ q3 (.inl rfl) (by rw[q3]at hex;exact hex)
 by_cases q4:op=.or
 ·exact bt _ q4 (.inr (.inl rfl)) (by rw[q4]at hex;exact hex)
 by_cases q5:op=.xor
 ·exact bt _ q5 (.inr (.inr (.inl rfl))) (by rw[q5]at hex;exact hex)
 by_cases q6:op=.andNot
 ·exact bt _ q6 (.inr (.inr (.inr rfl))) (by rw[q6]at hex;exact hex)
 by_cases qs:P.underlying t=some .string
 ·have hc:AB S env hp nm g (Kb op (Aq x) (Aq y))=some (vc,r,ws):=by unfold Fk at hex;rw[qs]at hex;cases op<;>first|exact absurd rfl q1|exact absurd rfl q2|exact absurd rfl q3|exact absurd rfl q4|exact absurd rfl q5|exact absurd rfl q6|exact hex
  unfold Kb at hc;cases op
  case add=>simp only[AB,eZ,w7]at hc;exact aX h ho (A x) (A y) hc hvc
  case eql=>simp only[AB,eZ,w7]at hc;exact Vf h (.inl ⟨rfl,rfl⟩) ho (A x) (A y) hc hvc
  case neq=>simp only[AB,eZ,w7]at hc;exact Vf h (.inr ⟨rfl,rfl⟩) ho (A x) (A y) hc hvc
  all_goals exact(J1 rfl hc).elim
 by_cases qi:∃ms,P.underlying t=some (.interface ms)
 ·obtain⟨ms,qi⟩:=qi;have hc:AB S env hp nm g (Kc op (Aq x) (Aq y))=some (vc,r,ws):=by unfold Fk at hex;rw[qi]at hex;cases op<;>first|exact absurd rfl q1|exact absurd rfl q2|exact absurd rfl q3|exact absurd rfl q4|exact absurd rfl q5|exact absurd rfl q6|exact hex
  unfold Kc at hc;split at hc
  ·rename_i hy;simp only[AB,eZ,w7]at hc;exact Ty h (.inl ⟨rfl,rfl⟩) ho qi hy (A x) hc
  ·rename_i hy;simp only[AB,eZ,w7]at hc;exact Ty h (.inr ⟨rfl,rfl⟩) ho qi hy (A x) hc
  ·exact(J1 rfl hc).elim
 by_cases qp:∃e,P.underlying t=some (.pointer e)
 ·obtain⟨e,qp⟩:=qp;have hc:AB S env hp nm g (Kd op (Aq x) (Aq y))=some (vc,r,ws):=by unfold Fk at hex;rw[qp]at hex;cases op<;>first|exact absurd rfl q1|exact absurd rfl q2|exact absurd rfl q3|exact absurd rfl q4|exact absurd rfl q5|exact absurd rfl q6|exact hex
  unfold Kd at hc;split at hc
  ·rename_i hy;simp only[AB,eZ,w7]at hc;exact Tz h (.inl ⟨rfl,rfl⟩) ho qp hy (A x) hc
  ·rename_i hy;simp only[AB,eZ,w7]at hc;exact Tz h (.inr ⟨rfl,rfl⟩) ho qp hy (A x) hc
  ·exact(J1 rfl hc).elim
 have key:Fk P op t (Aq x) (Aq y)=.bad\/(∃n e,P.underlying t=some (.slice e)/\(op=.eql/\n=false\/op=.neq/\n=true)/\Aq y=.k (.sl 0 true [] [])/\Fk P op t (Aq x) (Aq y)=.nils n (Aq x))\/(∃td ks,P.underlying t=some td/\B8 td=true/\G7 P 8 t=some ks/\Fk P op t (Aq x) (Aq y)=.bin op (.cells ks) (Aq x) (Aq y))\/Fk P op t (Aq x) (Aq y)=.bin op .int (Aq x) (Aq y)\/Fk P op t (Aq x) (Aq y)=.bin op .bool (Aq x) (Aq y)/\P.underlying t=some .bool:=by
  unfold Fk;split
  ·exact absurd rfl q1
  ·exact absurd rfl q2
  ·exact absurd rfl q3
  ·exact absurd rfl q4
  ·exact absurd rfl q5
  ·exact absurd rfl q6
  ·split
   ·exact .inr (.inr (.inr (.inl rfl)))
   ·rename_i hu;exact .inr (.inr (.inr (.inr ⟨rfl,hu⟩)))
   ·rename_i hu;exact absurd hu qs
   ·rename_i ms hu;exact absurd ⟨ms,hu⟩ qi
   ·rename_i e hu;exact absurd ⟨e,hu⟩ qp
   ·rename_i fs hu;split
    ·rename_i ks hk;exact .inr (.inr (.inl ⟨_,ks,hu,rfl,hk,rfl⟩))
    ·exact .inl rfl
   ·rename_i n e hu;split
    ·rename_i ks hk;exact .inr (.inr (.inl ⟨_,ks,hu,rfl,hk,rfl⟩))
    ·exact .inl rfl
   ·rename_i e hu;split
    ·exact .inr (.inl ⟨_,e,hu,.inl ⟨rfl,rfl⟩,‹Aq y=_›,rfl⟩)
    ·exact .inr (.inl ⟨_,e,hu,.inr ⟨rfl,rfl⟩,‹Aq y=_›,rfl⟩)
    ·exact .inl rfl
   ·exact .inl rfl
 rcases key with k|⟨n,e,ku,kop,ky,k⟩|⟨td,ks,ku,kd,kk,k⟩|k|⟨k,ku⟩
 ·rw[k]at hex;exact(J1 rfl hex).elim
 ·rw[k]at hex;simp only[AB]at hex;exact aS h ho kop ku (rP ky) (A x) hex hvc
 ·rw[k]at hex;simp only[AB]at hex;exact jN h ho ku kd kk (A x) (A y) hex hvc
 ·have hop:Fk P op t (Aq x) (Aq y)=.bin op .int (Aq x) (Aq y)\/Fk P op t (Aq x) (Aq y)=.bin op .bool (Aq x) (Aq y)/\P.underlying t=some .bool:=.inl k;rw[k]at hex;simp only[AB]at hex;exact Tx h ho hop k (A x) (A y) hex hvc
 ·have hop:Fk P op t (Aq x) (Aq y)=.bin op .int (Aq x) (Aq y)\/Fk P op t (Aq x) (Aq y)=.bin op .bool (Aq x) (Aq y)/\P.underlying t=some .bool:=.inr ⟨k,ku⟩;rw[k]at hex;simp only[AB]at hex;exact Tx h ho hop k (A x) (A y) hex hvc
theorem O8{S:Tab}(hS:TabOK P S)(gl:Gl U)(h:HInv U hp){env:Au}(ht:TInv U env a)(hnm:¬U.al nm/\∃c,∀m,U.al m->m.2<=c){g:Bool}(hg:g=true)(hex:AB S env hp nm g (cK P o.op)=some (vc,r,ws))(hvc:vc):Step P o a U nm (ws++hp) r:=by
 have bad:AB S env hp nm g .bad=some (vc,r,ws)->Step P o a U nm (ws++hp) r:=λe=>(J1 rfl e).elim
 have A:=Fl hg ht;cases ho:o.op with
 |move x=>simp only[ho,cK,AB,yE,Wt]at hex;obtain⟨_,rfl,rfl⟩:=hex;exact Xy h (.inl ho) (A x)
 |assign x=>simp only[ho,cK,AB,yE,Wt]at hex;obtain⟨_,rfl,rfl⟩:=hex;exact Xy h (.inr ho) (A x)
 |pick c x y=>simp only[ho,cK,AB]at hex;exact aN h hg ho (PS ht c) (PS ht x) (PS ht y) hex
 |alloc t=>
  simp only[ho,cK]at hex;split at hex
  ·rename_i zs hz;split at hex
   ·simp[AB]at hex
   simp only[AB,yE,Wt]at hex;obtain⟨_,rfl,rfl⟩:=hex;exact YY h hnm.1 ho hz
  ·exact bad hex
 |box t x=>
  simp only[ho,cK,AB,YR]at hex;split at hex
  ·rename_i cs hcs;split at hex
   ·simp only[yE,Wt]at hex;obtain⟨_,rfl,rfl⟩:=hex;exact jC h hnm.1 ho (A x) hcs
   ·simp at hex
  ·simp at hex
 |build t parts=>
  simp only[ho,cK,Iy]at hex;split at hex
  ·rename_i zs pf hz hpf;split at hex
   ·rename_i ps hps;simp only[AB]at hex;exact Y0 h (f:=λx=>Aw g (Av env x)) ho hz hpf hps (λx=>A x) hex
   ·exact bad hex
  ·exact bad hex
 |buildSlice t len parts=>
  simp only[ho,cK]at hex;split at hex
  ·rename_i e he;split at hex
   ·rename_i i zs hi hz;split at hex
    ·rename_i h0;simp only[AB]at hex;exact jO h hnm.1 (f:=λx=>Aw g (Av env x)) ho he hi hz h0 (λx=>A x) hex hvc
    ·exact bad hex
   ·exact bad hex
  ·exact bad hex
 |load t x=>
  simp only[ho,cK]at hex;split at hex
  ·rename_i d i hd hi;simp only[AB]at hex;exact rJ gl h ho hd hi (A x) hex hvc
  ·exact bad hex
 |store t x y=>
  simp only[ho,cK]at hex;split at hex
  ·rename_i i hi;simp only[AB]at hex;exact rK h ho hi (A x) (A y) hex hvc (λ_ h=>.inl h)
  ·exact bad hex
 |fieldAddr s x f=>
  simp only[ho,cK]at hex;split at hex
  ·rename_i fs hfs;split at hex
   ·rename_i fd hfd;split at hex
    ·rename_i i hi;split at hex
     ·exact bad hex
     ·rename_i h0;simp only[AB]at hex;exact rL h ho hfs hfd hi h0 (A x) hex
    ·exact bad hex
   ·exact bad hex
  ·exact bad hex
 |field t x f=>
  simp only[ho,cK]at hex;split at hex
  ·rename_i fs hfs;split at hex
   ·rename_i fd hfd;split at hex
    ·rename_i d i hd hi;simp only[AB]at hex;exact jD h ho hfs hfd hd hi (A x) hex
    ·exact bad hex
   ·exact bad hex
  ·exact bad hex
 |indexAddr t x ix=>
  simp only[ho,cK]at hex;split at hex
  ·rename_i e he;split at hex
   ·rename_i i hi;simp only[AB]at hex;exact rM h ho he hi (A x) (A ix) hex hvc
   ·exact bad hex
  ·rename_i n e he;split at hex
   ·rename_i i hi;simp only[AB]at hex;exact jE h ho he hi (A x) (A ix) hex hvc
   ·exact bad hex
  ·exact bad hex
 |index t x ix=>
  simp only[ho,cK]at hex;split at hex
  ·rename_i n e he;split at hex
   ·rename_i d i hd hi;simp only[AB]at hex;exact aO h ho he hd hi (A x) (A ix) hex hvc
   ·exact bad hex
  ·rename_i he;simp only[AB,eZ,w7]at hex;exact aZ h ho he (A x) (A ix) hex hvc
  ·exact bad hex
 |binOp op t x y yt=>simp only[ho,cK]at hex;exact kE h ht hg ho hex hvc
 |unOp op t x=>simp only[ho,cK,AB]at hex;exact rN h ho (A x) hex hvc
 |extract x i=>simp only[ho,cK,AB]at hex;exact jF h ho (A x) hex
 |call c=>simp only[ho,cK]at hex;exact bC hS gl h ht hnm hg ho hex hvc
 |makeFunc fn f c=>simp only[ho,cK,AB,yE,Wt]at hex;obtain⟨_,rfl,rfl⟩:=hex;exact jJ h ho (F3 hg ht _) (F3 hg ht _)
 |slice t x lo hi mx=>
  simp only[ho,cK]at hex;split at hex
  ·rename_i e he;split at hex
   ·rename_i i hi';simp only[AB]at hex;cases hm:S.m with
    |false=>rw[hm,tN]at hex;refine Ve (f:=λy=>Aw g (Av env (Aq y))) h ho he hi' (A x) (λy=>A y) ?_ hvc;rw[<-hex];cases lo<;>cases hi<;>cases mx<;>rfl
    |true=>rw[hm,Cg]at hex;refine aV (f:=λy=>Aw g (Av env (Aq y))) h hnm.1 ho he hi' (A x) (λy=>A y) ?_ hvc;rw[<-hex];cases lo<;>cases hi<;>cases mx<;>rfl
   ·exact bad hex
  ·rename_i he;split at hex
   ·simp only[AB,eZ,w7]at hex;exact NW (lo:=none) (hi:=none) (f:=λy=>Aw g (Av env (Aq y))) h ho he (A x) (λy=>A y) hex hvc
   ·rename_i l;simp only[AB,eZ,w7]at hex;exact NW (lo:=some l) (hi:=none) (f:=λy=>Aw g (Av env (Aq y))) h ho he (A x) (λy=>A y) hex hvc
   ·rename_i l;simp only[AB,eZ,w7]at hex;exact NW (lo:=none) (hi:=some l) (f:=λy=>Aw g (Av env (Aq y))) h ho he (A x) (λy=>A y) hex hvc
   ·rename_i l l';simp only[AB,eZ,w7]at hex;exact NW (lo:=some l) (hi:=some l') (f:=λy=>Aw g (Av env (Aq y))) h ho he (A x) (λy=>A y) hex hvc
   ·exact bad hex
  ·exact bad hex
 |makeInterface t x=>
  simp only[ho,cK]at hex;split at hex
  ·rename_i fs hs;simp only[AB,eZ,w7]at hex;exact jU h ho hs (A x) hex
  ·exact bad hex
 |typeAssert x xt t b=>
  simp only[ho,cK]at hex;split at hex
  ·rename_i fs hs;simp only[AB,eZ,w7]at hex;exact jV h ho hs (A x) hex hvc
  ·exact bad hex
 |panic x=>simp only[ho,cK,AB]at hex;simp at hex
 |defer c=>
  simp only[ho,cK]at hex;split at hex
  ·simp[AB]at hex
  ·exact bad hex
 |nilCheck x=>simp only[ho,cK,AB]at hex;exact jK h ho (A x) hex
 |convert src dst x=>
  simp only[ho,cK]at hex;split at hex
  ·rename_i hs hd;simp only[AB]at hex;exact jL h ho hs hd (A x) hex hvc
  ·rename_i k1 k2 hne hs hd;simp only[AB,eZ,w7]at hex;exact jT h ho hs hd (A x) hex
  ·rename_i e hs hd;split at hex
   ·rename_i i hu hi;split at hex
    ·simp only[AB]at hex;exact jY h ho hs hd hu (A x) hex hvc
    ·exact bad hex
   ·exact bad hex
  ·exact bad hex
 |makeSlice t x y=>
  simp only[ho,cK]at hex;split at hex
  ·rename_i e he;split at hex
   ·rename_i i zs hi hz;split at hex
    ·rename_i h0;simp only[AB]at hex;exact jP h hnm.1 ho he hi hz h0 (A x) (A y) hex hvc
    ·exact bad hex
   ·exact bad hex
  ·exact bad hex
 |entry x=>simp[ho,cK,AB]at hex
 |makeMap t r0=>
  cases r0 with
  |none=>simp only[ho,cK,AB,yE,Wt]at hex;obtain⟨_,rfl,rfl⟩:=hex;exact kC h hnm.1 ho
  |some _=>simp only[ho,cK]at hex;exact bad hex
 |lookup t m x ok=>
  simp only[ho,cK,Ly]at hex;split at hex
  ·rename_i kt et he;split at hex
   ·rename_i zd hk hz;simp only[AB]at hex;exact kD h ho he hk hz (A m) (A x) hex hvc
   ·exact bad hex
  ·exact bad hex
 |mapUpdate t m x y=>
  simp only[ho,cK,Ke]at hex;split at hex
  ·rename_i kt et he;split at hex
   ·rename_i hk;simp only[AB]at hex;exact Vj h (.inl ho) he hk (A m) (A x) (A y) hex hvc
   ·exact bad hex
  ·exact bad hex
 |insert t m x y=>
  simp only[ho,cK,Ke]at hex;split at hex
  ·rename_i kt et he;split at hex
   ·rename_i hk;simp only[AB]at hex;exact Vj h (.inr ho) he hk (A m) (A x) (A y) hex hvc
   ·exact bad hex
  ·exact bad hex
 |range t x=>
  simp only[ho,cK]at hex;split at hex
  ·simp[AB]at hex
  ·exact bad hex
 |next x s=>
  cases s
  ·simp[ho,cK,AB]at hex
  ·simp only[ho,cK]at hex;exact bad hex
 |_=>simp only[ho,cK]at hex;exact bad hex
def cG(ops:Array Oper)(g:Option (Nat×Bool)):Option (Option (Nat×Bool)):=match g with|none=>some none|some (j,want)=>match(ops[j]?).bind (·.dst)with|some d=>some (some (d,want))|none=>none
def bD(nt:Nat):Option Nat->Bool|some d=>decide (d<nt)|none=>true
def KA(P:Program)(nt:Nat)(ops:Array Oper)(o:Oper):Option AOp:=match cG ops o.guard with|none=>none|some g=>if bD nt o.dst=true then some ⟨o.dst,g,cK P o.op⟩else none
theorem TInv.mono{U σ':Cf}{env:Au}{a:Act}(h:TInv U env a)(e:Evo U σ'):TInv σ' env a:=λt=>(h t).mono e
theorem TInv.put{env:Au}{d:Option Nat}{v:Value}(h:TInv U env a)(hd:∀k,d=some k->k<a.tmps.size)(hr:Rep U r v):TInv U (Ca d r env) (a.put d v):=by
 intro t;cases d with
 |none=>exact h t
 |some k=>
  simp only[Ca,lk,Act.put];by_cases e:k=t
  ·subst e;rw[eX rfl];have:=hd k rfl;simpa[C9,this]using hr
  ·rw[eW e];have:=h t;simp only[C9,Array.getElem?_setIfInBounds_ne e]at this⊢;exact this
theorem Gb{env:Au}{ops:Array Oper}{o:Oper}{ao:Option (Nat×Bool)}{g:Bool}(ht:TInv U env a)(hc:cG ops o.guard=some ao)(hg:Fx env ao=some g):Region.wanted o (yielded ops a.tmps)=g:=by
 unfold Region.wanted;cases hgd:o.guard with
 |none=>rw[hgd]at hc;simp[cG]at hc;subst hc;simp[Fx]at hg;simpa using hg
 |some p=>
  obtain⟨j,want⟩:=p;rw[hgd]at hc;simp only[cG]at hc;split at hc
  ·rename_i d hd;simp at hc;subst hc;simp only[Fx]at hg;have hr:=ht d;have hy:yielded ops a.tmps j=match a.tmps[d]? with|some (.bool b)=>some b|_=>none:=by
    unfold yielded;rw[hd];simp only[pA];cases a.tmps[d]? with
    |none=>rfl
    |some v=>cases v<;>rfl
   simp only[hy];unfold gb at hg;split at hg
   ·rename_i b hb;rw[hb]at hr;simp[Rep]at hr;simp at hg;cases hv:a.tmps[d]? with
    |none=>simp[hv,undef]at hr
    |some v=>simp[hv]at hr;subst hr;subst hg;cases b<;>cases want<;>rfl
   ·rename_i c b hb;rw[hb]at hr;simp only[Rep]at hr;simp at hg;subst hg;cases c with
    |true=>
     have hr':=hr.1 rfl;cases hv:a.tmps[d]? with
     |none=>simp[hv,undef]at hr'
     |some v=>simp[hv]at hr';subst hr';cases b<;>cases want<;>rfl
    |false=>
     have hr':=hr.2 rfl;cases hv:a.tmps[d]? with
     |none=>simp
     |some v=>simp[hv,undef]at hr';subst hr';simp
   ·simp at hg
  ·simp at hc
end
def CZ:Opd->List Nat|.t n=>[n]|.k _=>[]
def Jh(xs:List Opd):List Nat:=xs.flatMap CZ
def Ld:AK->List Nat|.mv x=>CZ x|.pr _ xs=>Jh xs|.b2s x=>CZ x|.pick c a b=>CZ c++CZ a++CZ b|.box _ x=>CZ x|.alloc _=>[]|.build _ ps=>ps.flatMap λp=>CZ p.2.2|.bsl _ _ _ ps=>ps.flatMap λp=>CZ p.2|.ld _ _ x=>CZ x|.st _ a x=>CZ a++CZ x|.fa _ x=>CZ x|.fld _ _ _ x=>CZ x|.ia _ x i=>CZ x++CZ i|.iaA _ _ x i=>CZ x++CZ i|.idxA _ _ _ x i=>CZ x++CZ i|.bin _ _ x y=>CZ x++CZ y|.un _ x=>CZ x|.ext x _=>CZ x|.call _ as=>Jh as|.cv x as=>CZ x++Jh as|.len x=>CZ x|.app _ _ _ s x=>CZ s++CZ x|.mm _ xs=>Jh xs|.mkf _ a b=>Jh a++Jh b|.slc _ x l h m=>CZ x++Jh l.toList++Jh h.toList++Jh m.toList|.nilc x=>CZ x|.cnv _ x=>CZ x|.nils _ x=>CZ x|.cap x=>CZ x|.appn _ _ _ s x=>CZ s++CZ x|.pan x=>CZ x|.dfr x=>CZ x|.rcv=>[]|.allocB _=>[]|.mks _ _ _ n c=>CZ n++CZ c|.ent x=>CZ x|.mkm=>[]|.mlk _ _ m k=>CZ m++CZ k|.mup m k x=>CZ m++CZ k++CZ x|.rng x=>CZ x|.nxt x=>CZ x|.bad=>[]
def L7(o:AOp):List Nat:=(match o.g with|some (t,_)=>[t]|none=>[])++Ld o.k
def hw:AK->Bool|.allocB _|.pan _|.dfr _|.rcv|.mks _ _ _ _ _|.ent _|.mkm|.mup _ _ _|.rng _|.nxt _|.box _ _|.alloc _|.bsl _ _ _ _|.st _ _ _|.call _ _|.cv _ _|.app _ _ _ _ _|.appn _ _ _ _ _|.slc _ _ _ _ _=>true|_=>false
def ht:AK->Bool|.ld _ _ _|.ia _ _ _|.len _|.b2s _|.mlk _ _ _ _=>true|k=>hw k
def DN(o:Oper):List Nat:=(o.after.toList.filter λe=>Region.binds .any e).map (·.on)
def IA(B:List Nat)(es:List Nat):Nat:=es.foldl (λs e=>s|||2^e|||B.getD e 0) 0
def PW(B:List Nat):Nat->List Oper->Bool|_,[]=>true|j,o::r=>(DN o).all (λe=>decide (e<j))&&(B.getD j 0==IA B (DN o))&&PW B (j+1) r
def Ji(a b:AOp):Bool:=(match a.d with|none=>true|some t=> !(L7 b).contains t&&b.d !=some t)&&(match b.d with|none=>true|some t=> !(L7 a).contains t)
def RK(B:Nat)(o:AOp):Nat->List AOp->Bool|_,[]=>true|k,p::r=>(B.testBit k||Ji p o)&&RK B o (k+1) r
def PX(B:Nat)(j:Nat)(o:AOp):Nat->List AOp->List (Nat×Nat)|_,[]=>[]|k,p::r=>bif !B.testBit k&&((hw p.k&&ht o.k)||(ht p.k&&hw o.k))then(k,j)::PX B j o (k+1) r else PX B j o (k+1) r
def XB(B:List Nat)(all:List AOp):Nat->List AOp->Bool|_,[]=>true|j,o::r=>RK (B.getD j 0) o 0 (all.take j)&&XB B all (j+1) r
def bE(B:List Nat)(all:List AOp):Nat->List AOp->List (Nat×Nat)|_,[]=>[]|j,o::r=>PX (B.getD j 0) j o 0 (all.take j)++bE B all (j+1) r
def RL{E:Type}:List Nat->(List Nat->E)->E
 |[],k=>k []
 |x::xs,k=>CheckFast.force x λv=>RL xs λvs=>k (v::vs)
theorem TA{E:Type}:∀(l:List Nat)(k:List Nat->E),RL l k=k l
 |[],_=>rfl
 |x::xs,k=>by simp only[RL,CheckFast.force_eq,TA xs]
def RM(ops:Array Oper)(l:List AOp):Option (List (Nat×Nat)):=RL (CheckFast.beforeF ops).toList λB=>bif PW B 0 ops.toList&&XB B l 0 l then some (bE B l 0 l)else none
