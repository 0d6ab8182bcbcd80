import Derived.Test.YtjdchfljifacoaaGreatDoorA1
import Derived.CheckFast
set_option linter.all false
namespace Go.Proofs.YtjdchfljifacoaaGreatDoor.Am
open Go
def Gk(P:Program)(t:TypeId):Option (List AV):=match P.info? t with
 |some i=>match i.zero with|some z=>if z.cells.toList.all Bp=true/\z.cells.size=i.size then some (z.cells.toList.map IU)else none|none=>none
 |none=>none
def Ru(P:Program)(t:TypeId):Option (Nat->Option (Nat×Nat)):=match P.underlying t with|some (.struct fs)=>(fs.toList.mapM (λf=>(P.info? f.type).map λi=>(f.offset,i.size))).map λpl=>(pl.toArray[·]?)|some (.array _ e)=>(P.info? e).map λj=>λi=>some (i*j.size,j.size)|_=>none
def Kn(pf:Nat->Option (Nat×Nat)):List (Nat×Operand)->Option (List (Nat×Nat×Opd))|[]=>some []|(i,x)::r=>match pf i,Kn pf r with|some (o,s),some ps=>some ((o,s,Al x)::ps)|_,_=>none
def Hk(P:Program)(t:TypeId)(parts:List (Nat×Operand)):AK:=match Gk P t,Ru P t with
 |some zs,some pf=>match Kn pf parts with|some ps=>.build zs ps|none=>.bad
 |_,_=>.bad
def MD(e:TypeId->Option (List Bool))(P:Program):List Field->Nat->Option (List Bool)|[],_=>some []|f::fs,o=>if f.name= "_" \/f.offset≠o then none else match e f.type,P.info? f.type with|some ks,some i=>if i.size=ks.length/\ks.isEmpty=false then(MD e P fs (o+ks.length)).map (ks++·)else none|_,_=>none
def F4(P:Program):Nat->TypeId->Option (List Bool)
 |0,_=>none
 |d+1,t=>match P.underlying t with
  |some (.int _)=>some [true]
  |some .bool=>some [false]
  |some (.struct fs)=>if P.stoodInHeld t=true\/P.eqGuardType P.depth t=true\/fs.isEmpty=true then none else MD (F4 P d) P fs.toList 0
  |some (.array n e)=>match F4 P d e,P.info? e with|some [k],some i=>if P.eqGuardType P.depth t=true\/i.size≠1 then none else some (List.replicate n k)|_,_=>none
  |_=>none
def I9(op:BinOp)(x y:Opd):AK:=match op with|.add=>.pr .scat [x,y]|.eql=>.pr (.seq false) [x,y]|.neq=>.pr (.seq true) [x,y]|_=>.bad
def Ja(op:BinOp)(x y:Opd):AK:=match op,y with|.eql,.k (.v .nilIface)=>.pr (.inil false) [x]|.neq,.k (.v .nilIface)=>.pr (.inil true) [x]|_,_=>.bad
def Jb(op:BinOp)(x y:Opd):AK:=match op,y with|.eql,.k (.v (.pointer none))=>.pr (.pnil false) [x]|.neq,.k (.v (.pointer none))=>.pr (.pnil true) [x]|_,_=>.bad
def Jc(op:BinOp)(x y:Opd):AK:=match op,y with|.eql,.k (.v .nilFunc)=>.pr (.fnil false) [x]|.neq,.k (.v .nilFunc)=>.pr (.fnil true) [x]|_,_=>.bad
def E3(P:Program)(op:BinOp)(t:TypeId)(x y:Opd):AK:=match op with
 |.shl=>match P.underlying t with|some (.int _)=>.pr (.shf .shl) [x,y]|_=>.bad
 |.shr=>match P.underlying t with|some (.int _)=>.pr (.shf .shr) [x,y]|_=>.bad
 |.and=>match P.underlying t with|some (.int _)=>.pr (.bits .and) [x,y]|_=>.bad
 |.or=>match P.underlying t with|some (.int _)=>.pr (.bits .or) [x,y]|_=>.bad
 |.xor=>match P.underlying t with|some (.int _)=>.pr (.bits .xor) [x,y]|_=>.bad
 |.andNot=>match P.underlying t with|some (.int _)=>.pr (.bits .andNot) [x,y]|_=>.bad
 |op=>match P.underlying t with
  |some (.int _)=>.bin op .int x y
  |some .bool=>.bin op .bool x y
  |some .string=>I9 op x y
  |some (.interface _)=>Ja op x y
  |some (.pointer _)=>Jb op x y
  |some (.func _ _ _)=>Jc op x y
  |some (.struct _)=>match F4 P 8 t with|some ks=>.bin op (.cells ks) x y|none=>.bad
  |some (.array _ _)=>match F4 P 8 t with|some ks=>.bin op (.cells ks) x y|none=>.bad
  |some (.slice _)=>match op,y with|.eql,.k (.sl 0 true [] [])=>.nils false x|.neq,.k (.sl 0 true [] [])=>.nils true x|_,_=>.bad
  |_=>.bad
def Xd:List AV->Bool|[.v (.pointer none),.sl _ _ [] _]=>true|_=>false
def H9(P:Program)(c:Call):AK:=match c.callee with
 |.value (.func f)=>.call f (c.args.toList.map Al)
 |.value x=>.cv (Al x) (c.args.toList.map Al)
 |.builtin .len=>match c.args.toList,c.argTypes.toList with
  |[x],[t]=>match P.underlying t with|some (.slice _)=>.len (Al x)|some .string=>.pr .slen [Al x]|_=>.bad
  |_,_=>.bad
 |.builtin .append=>match c.args.toList,c.argTypes.toList with
  |[s,x],[t,t']=>if t=t' then match P.underlying t with
   |some (.slice e)=>match P.info? e,Gk P e with|some i,some zs=>if 0<i.size/\0<i.bytes then .app i.size i.bytes zs (Al s) (Al x)else .bad|_,_=>.bad
   |_=>.bad
   else match P.underlying t,P.underlying t' with
    |some (.slice e),some (.int _)=>match P.info? e,Gk P e with|some i,some zs=>if 0<i.size/\0<i.bytes then .appn i.size i.bytes zs (Al s) (Al x)else .bad|_,_=>.bad
    |_,_=>.bad
  |_,_=>.bad
 |.builtin .cap=>match c.args.toList,c.argTypes.toList with
  |[x],[t]=>match P.underlying t with|some (.slice _)=>.cap (Al x)|_=>.bad
  |_,_=>.bad
 |.builtin .recover=>.rcv
 |.builtin .clear=>match c.args.toList,c.argTypes.toList with
  |[x],[t]=>match P.underlying t with
   |some (.slice e)=>match P.info? e,Gk P e with|some i,some zs=>if 0<i.size then .clr i.size zs (Al x)else .bad|_,_=>.bad
   |_=>.bad
  |_,_=>.bad
 |.builtin .max=>.mm true (c.args.toList.map Al)
 |.builtin .min=>.mm false (c.args.toList.map Al)
 |_=>.bad
def VW(P:Program)(t:TypeId):Option AV:=match P.info? t with
 |some i=>match i.zero with|some (.agg cs)=>if cs.toList.all Bp=true then some (.agg (cs.toList.map IU))else none|some v=>some (IU v)|none=>none
 |none=>none
theorem Tx{P:Program}{t:TypeId}{z:AV}(h:VW P t=some z):∃v,(∀w,(zeroValue t).run P w=.ok v w)/\∀U,Rep U z v:=by
 unfold VW at h;split at h
 ·split at h
  ·rename_i cs hz;split at h
   ·cases h
    refine⟨.agg cs,by simp_all[zeroValue,typeInfo],λU=>?_⟩;exact⟨cs.toList,by simp,by grind,Lt U _⟩
   ·cases h
  ·cases h
   simp_all[zeroValue,typeInfo,MA]
  ·cases h
 ·cases h
def KI(P:Program)(t:TypeId)(m k:Opd)(ok:Bool):AK:=match P.underlying t with
 |some (.map kt e)=>match P.underlying kt,VW P e with|some (.int .i64),some zd=>.mlk zd ok m k|_,_=>.bad
 |_=>.bad
def Jd(P:Program)(t:TypeId)(m k x:Opd):AK:=match P.underlying t with
 |some (.map kt _)=>match P.underlying kt with|some (.int .i64)=>.mup m k x|_=>.bad
 |_=>.bad
def cK(P:Program)(op:Op):AK:=match op with
 |.move x=>.mv (Al x)
 |.assign x=>.mv (Al x)
 |.pick c a b=>.pick (Al c) (Al a) (Al b)
 |.alloc t=>match Gk P t with|some zs=>if Xd zs=true then .allocB t else .alloc zs|none=>.bad
 |.box t x=>.box (P.cellsOf t) (Al x)
 |.build t parts=>Hk P t parts.toList
 |.buildSlice t len parts=>match P.underlying t with
  |some (.slice e)=>match P.info? e,Gk P e with|some i,some zs=>if 0<i.size/\len*i.size<=16777216 then .bsl i.size len zs (parts.toList.map λ(j,x)=>(j,Al x))else .bad|_,_=>.bad
  |_=>.bad
 |.load t x=>match P.underlying t,P.info? t with|some d,some i=>.ld i.size (B8 d) (Al x)|_,_=>.bad
 |.store t a x=>match P.info? t with|some i=>.st i.size (Al a) (Al x)|none=>.bad
 |.fieldAddr s x f=>match P.underlying s with
  |some (.struct fs)=>match fs[f]? with
   |some fd=>match P.info? fd.type with|some i=>if i.size=0 then .bad else .fa fd.offset (Al x)|none=>.bad
   |none=>.bad
  |_=>.bad
 |.field t x f=>match P.underlying t with
  |some (.struct fs)=>match fs[f]? with
   |some fd=>match P.underlying fd.type,P.info? fd.type with|some d,some i=>.fld fd.offset i.size (B8 d) (Al x)|_,_=>.bad
   |none=>.bad
  |_=>.bad
 |.indexAddr t x ix=>match P.underlying t with
  |some (.slice e)=>match P.info? e with|some i=>.ia i.size (Al x) (Al ix)|none=>.bad
  |some (.array n e)=>match P.info? e with|some i=>.iaA n i.size (Al x) (Al ix)|none=>.bad
  |_=>.bad
 |.index t x ix=>match P.underlying t with
  |some (.array n e)=>match P.underlying e,P.info? e with|some d,some i=>.idxA n i.size (B8 d) (Al x) (Al ix)|_,_=>.bad
  |some .string=>.pr .sidx [Al x,Al ix]
  |_=>.bad
 |.binOp op t x y _=>E3 P op t (Al x) (Al y)
 |.unOp op _ x=>.un op (Al x)
 |.extract x i=>.ext (Al x) i
 |.call c=>H9 P c
 |.makeFunc fn a b=>.mkf fn (a.toList.map Al) (b.toList.map Al)
 |.slice t x lo hi mx=>match P.underlying t with
  |some (.slice e)=>match P.info? e with|some i=>.slc i.size (Al x) (lo.map Al) (hi.map Al) (mx.map Al)|none=>.bad
  |some .string=>match lo,hi,mx with|none,none,none=>.pr (.ssl false false) [Al x]|some l,none,none=>.pr (.ssl true false) [Al x,Al l]|none,some h,none=>.pr (.ssl false true) [Al x,Al h]|some l,some h,none=>.pr (.ssl true true) [Al x,Al l,Al h]|_,_,_=>.bad
  |_=>.bad
 |.nilCheck x=>.nilc (Al x)
 |.convert src dst x=>match P.underlying src,P.underlying dst with
  |some (.int .i64),some (.int .i64)=>.cnv .i64 (Al x)
  |some (.int _),some (.int k)=>.pr (.cvw k) [Al x]
  |some (.slice e),some .string=>match P.underlying e,P.info? e with|some (.int .u8),some i=>if i.size=1 then .b2s (Al x)else .bad|_,_=>.bad
  |_,_=>.bad
 |.panic x=>.pan (Al x)
 |.defer c=>match c.callee,c.args.toList with|.value x,[]=>.dfr (Al x)|_,_=>.bad
 |.makeInterface t x=>match P.underlying t with|some (.struct _)=>.pr (.mkI t) [Al x]|_=>.bad
 |.typeAssert x _ t b=>match b,P.underlying t,VW P t with|true,some (.struct _),some (.agg [])=>.pr (.tas t) [Al x]|_,_,_=>.bad
 |.makeSlice t n c=>match P.underlying t with
  |some (.slice e)=>match P.info? e,Gk P e with|some i,some zs=>if 0<i.size/\0<i.bytes then .mks i.size i.bytes zs (Al n) (Al c)else .bad|_,_=>.bad
  |_=>.bad
 |.entry x=>.ent (Al x)
 |.makeMap _ r=>match r with|none=>.mkm|some _=>.bad
 |.lookup t m k ok=>KI P t (Al m) (Al k) ok
 |.mapUpdate t m k x=>Jd P t (Al m) (Al k) (Al x)
 |.insert t m k x=>Jd P t (Al m) (Al k) (Al x)
 |.range t x=>match P.underlying t with|some (.map _ _)=>.rng (Al x)|_=>.bad
 |.next x b=>match b with|false=>.nxt (Al x)|true=>.bad
 |_=>.bad
section
variable{P:Program}{o:Oper}{a:Act}{U:Cf}{nm:Nm}{hp:Hp}{r:AV}{vc:Prop}{ws:Hp}
theorem Gm{t:TypeId}{zs:List AV}(h:Gk P t=some zs):∃i z,P.info? t=some i/\i.zero=some z/\(∀x∈z.cells.toList,Bp x=true)/\z.cells.size=i.size/\zs=z.cells.toList.map IU:=by grind[Gk]
theorem bK(h:HInv U hp)(hnm:¬U.al nm){t:TypeId}{x:Operand}{X:AV}{cs:List AV}(ho:o.op=.box t x)(hx:Rep U X (a.eval x))(hc:X.cells=some cs):Step P o a U nm (D6 nm 0 cs++hp) (.box nm 0):=by
 obtain⟨h1,h2⟩:=NX hc hx;have e:=Evo.newBox (o:=.cells (a.eval x).cells t) hnm;have hi:=h.newBox hnm (T:=t) h1 h2;refine .inl ⟨_,_,_,.inl ?_,⟨e,hi,rfl,λm hm=>hm⟩,⟨.inr rfl,rfl⟩⟩
 simp_all[execOp,Instr.box,newVar,newRow,Cf.newBox]
theorem Xe(h:HInv U hp)(hnm:¬U.al nm){t:TypeId}{zs:List AV}(ho:o.op=.alloc t)(hz:Gk P t=some zs):Step P o a U nm (D6 nm 0 zs++hp) (.box nm 0):=by obtain⟨i,z,h1,h2,h3,_,rfl⟩:=Gm hz;have e:=Evo.newBox (o:=.cells z.cells t) hnm;have hi:=h.newBox hnm (T:=t) (Lt U z.cells.toList) h3;refine .inl ⟨_,_,_,.inl ?_,⟨e,hi,rfl,λm hm=>hm⟩,⟨.inr rfl,rfl⟩⟩;simp[execOp,ho,Instr.alloc,zeroValue,typeInfo,h1,h2,newVar,newRow,Sem.run,Cf.newBox]
theorem N2(h:HInv U hp){n:Nm}{l es i' k sz:Nat}{live:Bool}{rows:List (List AV)}{d:List AV}{v:Value}(hn:hl hp (.a n)=some (.sl sz live rows d))(hr:Rep U (.elem n l es i' k) v)(he:es=sz)(hl1:l=rows.length)(hlt:i'<rows.length):∃b k0 cap,U.ra n=(some ⟨b,k0,none⟩,cap)/\v=.pointer (some ⟨b,k0+i'*sz+k,none⟩)/\0<cap/\rows.length<=cap/\RepRows U sz b k0 rows/\(live=true->U.M b/\∃cs T,U.w.heap[b]? =some (.cells cs T (0,0))/\k0+cap*sz<=cs.size):=by
 subst he hl1;have hln:=by have:=h.ln n;simpa[lenOf,hn]using this
 simp only[Rep]at hr;obtain⟨_,_,_,h3⟩:=h.arr n es live rows d hn;grind
theorem Yg(gl:Gl U)(h:HInv U hp){t:TypeId}{xv:Value}{X:AV}{d:TypeDesc}{i:TypeInfo}(hd:P.underlying t=some d)(hi:P.info? t=some i)(hx:Rep U X xv)(hex:Iq hp i.size (B8 d) X=some (vc,r,ws))(hvc:vc):ws=[]/\∃b k u,xv=.pointer (some ⟨b,k,none⟩)/\(loadVar t ⟨b,k,none⟩).run P U.w=.ok u U.w/\Rep U r u:=by
 have fin:∀(b k:Nat)(vs:List Value)(cs:List AV),xv=.pointer (some ⟨b,k,none⟩)->Lies U.w b k vs->vs.length=i.size->RepL U cs vs->(∀y∈vs,Bp y=true)->FH (B8 d) cs=some r->ws=[]->ws=[]/\∃b k u,xv=.pointer (some ⟨b,k,none⟩)/\(loadVar t ⟨b,k,none⟩).run P U.w=.ok u U.w/\Rep U r u:=by grind[Vh]
 have fromCut:∀(b k0 k:Nat)(cs ds:List AV),xv=.pointer (some ⟨b,k0+k,none⟩)->RepCells U b k0 cs->cut k i.size cs=some ds->FH (B8 d) ds=some r->ws=[]->ws=[]/\∃b k u,xv=.pointer (some ⟨b,k,none⟩)/\(loadVar t ⟨b,k,none⟩).run P U.w=.ok u U.w/\Rep U r u:=by intro b k0 k cs ds e1 e4 hds hm e7;obtain⟨vs,g1,g2,g3⟩:=IA e4;obtain⟨us,rfl,k1,k2⟩:=Tl hds g1;refine fin _ _ _ ds e1 (λj v hj=>?_) k2 k1 (by grind) hm e7;have hlt:=(y5.1 hj).1;rw[List.getElem?_take_of_lt (by omega),A48]at hj;rw[A15];exact g3 _ _ hj
 cases X with
 |v X=>cases X with
  |pointer p=>cases p with
   |some ad=>
    obtain⟨b,k,sp⟩:=ad;cases sp with
    |none=>
     simp only[Iq]at hex;cases hm:FH (B8 d) (It b k i.size)with
     |none=>simp[hm,vr]at hex
     |some r'=>
      simp only[hm,yE]at hex;obtain⟨rfl,rfl,rfl⟩:=hex;have e1:=by simpa[Rep]using hx
      obtain⟨vs,g1,g2,g3⟩:=IA (gl.cells hvc);exact fin _ _ vs _ e1 g3 (by rw[Bx g1,M0]) g1 g2 hm rfl
    |some _=>simp[Iq]at hex
   |none=>simp[Iq]at hex
  |_=>simp[Iq]at hex
 |box n k=>
  simp only[Rep]at hx;simp only[Iq]at hex;split at hex
  ·rename_i cs hcs;cases hm:FH (B8 d) cs with
   |none=>simp[hm,vr]at hex
   |some r'=>simp only[vr,yE]at hex;obtain⟨vs,g1,g2,g3,g4⟩:=R6 h hcs;grind
  ·simp at hex
 |ro cs k=>
  simp only[Rep]at hx;simp only[Iq]at hex;split at hex
  ·rename_i ds hds;cases hm:FH (B8 d) ds with
   |none=>simp[hm,vr]at hex
   |some r'=>simp only[vr,yE]at hex;grind
  ·simp at hex
 |elem n l es i' k=>
  simp only[Iq]at hex;split at hex
  ·rename_i sz live rows d' hn;split at hex
   ·rename_i ds hds;cases hm:FH (B8 d) ds with
    |none=>simp[hm,vr]at hex
    |some r'=>simp only[hm,yE]at hex;obtain⟨rfl,rfl,rfl⟩:=hex;obtain⟨he,hl1,hlt⟩:=hvc;obtain⟨b,k0,cap,g1,g2,_,_,g5,_⟩:=N2 h hn hx he hl1 hlt;exact fromCut b (k0+i'*sz) k _ ds g2 (FR g5 i' _ (L2 hlt)).2 hds hm rfl
   ·simp at hex
  ·simp at hex
 |_=>simp[Iq]at hex
theorem lC(gl:Gl U)(h:HInv U hp){t:TypeId}{x:Operand}{X:AV}{d:TypeDesc}{i:TypeInfo}(ho:o.op=.load t x)(hd:P.underlying t=some d)(hi:P.info? t=some i)(hx:Rep U X (a.eval x))(hex:Iq hp i.size (B8 d) X=some (vc,r,ws))(hvc:vc):Step P o a U nm (ws++hp) r:=by
 obtain⟨rfl,b,k,u,e1,e2,e3⟩:=Yg gl h hd hi hx hex hvc;refine Step.quiet h ?_ e3
 simp_all[execOp,Instr.loadAt,Instr.sureAddr]
theorem L4:∀{cs ds rs:List AV}{k:Nat},FZ cs k ds=some rs->rs.length=cs.length/\k+ds.length<=cs.length/\∀j,rs[j]? =if k<=j/\j<k+ds.length then ds[j-k]? else cs[j]?
 |cs,[],rs,0,h=>by
  have:rs=cs:=by cases cs<;>simp[FZ]at h<;>simp[h]
  subst this;refine⟨rfl,by simp,λj=>?_⟩;rw[t7 (by simp)]
 |c::cs,ds,rs,k+1,h=>by
  simp only[FZ]at h;cases hk:FZ cs k ds with
  |none=>simp[hk]at h
  |some rs'=>obtain⟨h1,h2,h3⟩:=L4 hk;grind
 |[],ds,rs,k+1,h=>by simp[FZ]at h
 |c::cs,d::ds,rs,0,h=>by
  simp only[FZ]at h;cases hk:FZ cs 0 ds with
  |none=>simp[hk]at h
  |some rs'=>obtain⟨h1,h2,h3⟩:=L4 hk;grind
 |[],d::ds,rs,0,h=>by simp[FZ]at h
theorem HInv.stElem(h:HInv U hp){n:Nm}{sz i' k:Nat}{rows:List (List AV)}{d row cs:List AV}{xs:List Value}{b k0 cap:Nat}(hn:hl hp (.a n)=some (.sl sz true rows d))(hra:U.ra n=(some ⟨b,k0,none⟩,cap))(hcap:0<cap)(hle:rows.length<=cap)(hrows:RepRows U sz b k0 rows)(hM:U.M b){ar:Array Value}{T:TypeId}(har:U.w.heap[b]? =some (.cells ar T (0,0)))(hfit:k0+cap*sz<=ar.size)(hlt:i'<rows.length)(hrow:FZ (DJ rows d i') k cs=some row)(hpu:GG n=false->AA row=true)(hx:RepL U cs xs)(h1:∀x∈xs,Bp x=true):∃w',(storeCells ⟨b,k0+i'*sz+k,none⟩ xs).run P U.w=.ok () w'/\∃σ',Next U n ((.a n,.sl sz true (rows.set i' row) d)::hp) w' σ':=by
 obtain⟨q1,q2,q3⟩:=L4 hrow;obtain⟨r1,r2⟩:=FR hrows i' _ (L2 (d:=d) hlt);have hxl:=Bx hx;have hmul:(i'+1)*sz<=cap*sz:=A46 _ (by omega);rw[A42]at hmul;have hbound:k0+i'*sz+k+xs.length<=ar.size:=by omega
 have hln:=by have:=h.ln n;simpa[lenOf,hn]using this
 have hown:Owns U hp (true,n) b:=.inr ⟨rfl,⟨_,_,_,hn⟩,k0,cap,hra,hcap⟩;have evo:Evo U (U.setArr n (U.ra n) U.M (rows.set i' row).length (Fr U.w b (k0+i'*sz+k) xs)):=by refine Evo.setArr (by grind) (λc ob hb hMc=>⟨?_,hMc⟩) (by rw[DP];exact w6 _) (HC _ _ _ _);rw[C2 (by grind)];exact hb
 obtain⟨ds,d1,d2,d3⟩:=Gj xs (k0+i'*sz+k) U.w ar har;obtain⟨a1,a2,a3,_⟩:=h.arr n sz true rows d hn;refine⟨_,GR xs _ 0 U.w ar T har h1 (by simpa using hbound),U.setArr n (U.ra n) U.M (rows.set i' row).length (Fr U.w b (k0+i'*sz+k) xs),evo,?_,rfl,λm hm=>hm⟩;refine h.setArr evo (by grind[C2]) ⟨.inr rfl,a2,λe r hr=>?_,.inr ⟨b,k0,cap,by simp[Cf.setArr,hra],hcap,by simpa using hle,?_,λ_=>⟨hM,ds,T,d1,by rw[d2];exact hfit⟩,by simp⟩⟩
  (by grind) (λc hc=>by rw[DP];exact h.lt c hc) (by rw[DP];exact w6 _)
 ·grind
 ·refine H6 λi2 r2' hi2=>?_
  by_cases hie:i'=i2
  ·subst hie;rw[List.getElem?_set_self hlt]at hi2;simp at hi2;subst hi2;refine⟨by rw[q1];exact r1,Fi λj c hc=>?_⟩;rw[q3]at hc;by_cases hin:k<=j/\j<k+cs.length
   ·rw[t8 hin]at hc;obtain⟨x,e1,e2⟩:=C1 hx (j-k) c hc;refine⟨x,?_,by grind,e2.mono evo⟩;simp only[Cf.setArr,World.cell?,d1,A50,if_false,yF];rw[d3,t8 ⟨by omega,by omega,by omega⟩,show k0+i'*sz+j-(k0+i'*sz+k)=j-k from by omega];exact e1
   ·rw[t7 hin]at hc;obtain⟨x,e1,e2,e3⟩:=HM r2 j c hc;refine⟨x,?_,e2,e3.mono evo⟩;simp only[Cf.setArr,World.cell?,d1,A50,if_false,yF];rw[d3,t7 (by omega)];simpa[World.cell?,har]using e1
  ·rw[List.getElem?_set_ne hie]at hi2;obtain⟨f1,f2⟩:=FR hrows i2 _ hi2;refine⟨f1,f2.keep evo λj x hj hc=>?_⟩;simp only[Cf.setArr,World.cell?,d1,A50,if_false,yF];rw[d3,t7]
   ·simpa[World.cell?,har]using hc
   ·rcases Nat.lt_or_gt_of_ne hie with hlt2|hlt2
    ·have:(i'+1)*sz<=i2*sz:=A46 _ hlt2;rw[A42]at this;omega
    ·have:(i2+1)*sz<=i'*sz:=A46 _ hlt2;rw[A42]at this;omega
mutual
theorem pZ{hp:Hp}:∀x:AV,Km x=true->Fl x=[]->res hp x=x
 |.own n l,_,h=>by simp[Fl]at h
 |.box n l,h,_=>by simp[Km]at h
 |.agg cs,h,k=>by simp only[res];rw[Ll cs (by simpa[Km]using h) (by simpa[Fl]using k)]
 |.tup cs,h,k=>by simp only[res];rw[Ll cs (by simpa[Km]using h) (by simpa[Fl]using k)]
 |.clo f xs ys,h,k=>by simp only[Km,y8]at h;simp only[Fl,List.append_eq_nil_iff]at k;simp only[res];rw[Ll xs h.1 k.1,Ll ys h.2 k.2]
 |.v _,_,_=>rfl
 |.sl _ _ _ _,_,_=>rfl
 |.ro _ _,_,_=>rfl
 |.elem _ _ _ _ _,_,_=>rfl
 |.gd _ _,_,_=>rfl
 |.mp _,h,_=>by simp[Km]at h
 |.un,_,_=>rfl
theorem Ll{hp:Hp}:∀xs,F0 xs=true->Dy xs=[]->EP hp xs=xs
 |[],_,_=>rfl
 |x::xs,h,k=>by simp only[F0,y8]at h;simp only[Dy,List.append_eq_nil_iff]at k;simp only[EP];rw[pZ x h.1 k.1,Ll xs h.2 k.2]
end
theorem lD(h:HInv U hp){t:TypeId}{x y:Operand}{X Y:AV}{i:TypeInfo}(ho:o.op=.store t x y)(hi:P.info? t=some i)(hx:Rep U X (a.eval x))(hy:Rep U Y (a.eval y))(hex:Tj hp i.size X Y=some (vc,r,ws))(hvc:vc)(hnm:∀m,U.al m->U.al m\/m=nm):Step P o a U nm (ws++hp) r:=by
 unfold Tj at hex;split at hex
 ·simp at hex
 rename_i cs hcs;split at hex
 case isFalse=>simp at hex
 obtain⟨g1,g2⟩:=NX hcs hy;have hlen:=Bx g1;have run:∀(ad:Addr)(w':World),a.eval x=.pointer (some ad)->(storeCells ad (a.eval y).cells.toList).run P U.w=.ok () w'->(execOp a.eval o).run P U.w=.ok .skip w':=by simp_all[execOp,Instr.storeAt,Instr.sureAddr,storeVar,Ed]
 cases X with
 |box n k=>
  simp at hex;split at hex
  ·rename_i ws' hws;obtain⟨_,rfl,rfl⟩:=hex;simp only[Rep]at hx;obtain⟨w',e1,e2,e3⟩:=h.store (P:=P) hws g1 g2;exact .inl ⟨undef,w',U.at w',by grind,⟨e2,e3,rfl,λm hm=>.inl hm⟩,by simp[Rep]⟩
  ·simp at hex
 |elem n l es i' k=>
  simp at hex;split at hex
  ·rename_i sz live rows d hn;cases hsn:GG n with
   |true=>
    rw[hsn,cond_true]at hex;split at hex
    ·rename_i row hrow;obtain⟨rfl,rfl,rfl⟩:=hex;obtain⟨rfl,v6,v7,v8⟩:=hvc;obtain⟨b,k0,cap,f1,f2,f3,f4,f5,f6⟩:=N2 h hn hx v6 v7 v8;obtain⟨f7,ar,T,f8,f9⟩:=f6 rfl;obtain⟨w',e1,σ',e2⟩:=h.stElem (P:=P) hn f1 f3 f4 f5 f7 f8 f9 v8 hrow (by grind) g1 g2;exact .inl ⟨undef,w',σ',by grind,⟨e2.evo,e2.inv,e2.w,λm hm=>(e2.al m hm).elim .inl (λe=>.inl (e▸(h.arr n sz true rows d hn).1))⟩,by simp[Rep]⟩
    ·simp at hex
   |false=>
   rw[hsn,A12]at hex;split at hex
   ·rename_i row hrow;obtain⟨rfl,rfl,rfl⟩:=hex;obtain⟨v1,v2,v3,v4,rfl,v6,v7,v8⟩:=hvc;rw[Ll cs v2 v4]at hrow;obtain⟨b,k0,cap,f1,f2,f3,f4,f5,f6⟩:=N2 h hn hx v6 v7 v8;obtain⟨f7,ar,T,f8,f9⟩:=f6 rfl;obtain⟨w',e1,σ',e2⟩:=h.stElem (P:=P) hn f1 f3 f4 f5 f7 f8 f9 v8 hrow (λ_=>v3) g1 g2;exact .inl ⟨undef,w',σ',by grind,⟨e2.evo,e2.inv,e2.w,λm hm=>(e2.al m hm).elim .inl (λe=>.inl (e▸(h.arr n sz true rows d hn).1))⟩,by simp[Rep]⟩
   ·simp at hex
  ·simp at hex
 |_=>simp at hex
end
section
variable{P:Program}{o:Oper}{a:Act}{U:Cf}{nm:Nm}{hp:Hp}{r:AV}{vc:Prop}{ws:Hp}
theorem VX(h:HInv U hp){x:Operand}{X:AV}(ho:o.op=.move x\/o.op=.assign x)(hx:Rep U X (a.eval x)):Step P o a U nm ([]++hp) X:=by refine Step.quiet h ?_ hx;rcases ho with ho|ho<;>simp[execOp,ho]
theorem Yh(h:HInv U hp){c x y:Operand}{C X Y:AV}{g:Bool}(hg:g=true)(ho:o.op=.pick c x y)(hc:Rep U C (a.eval c))(hx:Rep U X (a.eval x))(hy:Rep U Y (a.eval y))(hex:NS g C X Y=some (vc,r,ws)):Step P o a U nm (ws++hp) r:=by
 unfold NS at hex;split at hex
 case h_2=>simp at hex
 rename_i cb hcb;have hc':=IT hg hc;rw[hcb]at hc';simp only[Rep]at hc';have key:ws=[]/\Rep U r (if cb=true then a.eval x else a.eval y):=by
  subst hg;split at hex
  ·rename_i bx by' hX hY;obtain⟨_,rfl,rfl⟩:=hex;cases cb with
   |true=>have:=IT (g:=true&&true) rfl hx;rw[hX]at this;simpa[Rep]using this
   |false=>have:=IT (g:=true&& !false) rfl hy;rw[hY]at this;simpa[Rep]using this
  ·obtain⟨_,rfl,rfl⟩:=hex;cases cb with
   |true=>simpa using IT rfl hx
   |false=>simpa using IT rfl hy
 obtain⟨rfl,hr⟩:=key;refine Step.quiet h ?_ hr;simp[execOp,ho,hc',asBool]
theorem lE(h:HInv U hp){s:TypeId}{x:Operand}{f:Nat}{X:AV}{fs:Array Field}{fd:Field}{i:TypeInfo}(ho:o.op=.fieldAddr s x f)(hs:P.underlying s=some (.struct fs))(hf:fs[f]? =some fd)(hi:P.info? fd.type=some i)(hi0:i.size≠0)(hx:Rep U X (a.eval x))(hex:MX fd.offset X=some (vc,r,ws)):Step P o a U nm (ws++hp) r:=by
 have run:∀b k,a.eval x=.pointer (some ⟨b,k,none⟩)->(execOp a.eval o).run P U.w=.ok (.value (.pointer (some ⟨b,k+fd.offset,none⟩))) U.w:=by simp_all[execOp,Instr.fieldAt,Instr.sureAddr,fieldPlace,HN,run_underlying,Ed]
 cases X with
 |box n k=>obtain⟨_,rfl,rfl⟩:=hex;exact Step.quiet h (run _ _ hx.2) (by simp_all[Rep])
 |ro cs k=>grind[MX,Rep,Step.quiet]
 |elem n l sz i' k=>obtain⟨_,rfl,rfl⟩:=hex;obtain⟨h1,h2,h3⟩:=hx;obtain⟨b,k0,e⟩:=h2;refine Step.quiet h (run _ _ e) ?_;simp only[Rep];grind
 |v X=>cases X with
  |pointer p=>cases p with
   |some ad=>obtain⟨b,k,sp⟩:=ad;cases sp<;>grind[MX,Rep,Step.quiet]
   |none=>simp[MX]at hex
  |_=>simp[MX]at hex
 |_=>simp[MX]at hex
theorem Ee{X:AV}{v:Value}{k:IntKind}{n:Int}(h:Rep U (.v (.int k n)) v):v=.int k n:=by simpa[Rep]using h
theorem JN{t:TypeId}{d:TypeDesc}{i:TypeInfo}(hd:P.underlying t=some d)(hi:P.info? t=some i){xs:List Value}{cs ds:List AV}{off:Nat}(hr:RepL U cs xs)(h1:∀x∈xs,Bp x=true)(hc:cut off i.size cs=some ds)(hm:FH (B8 d) ds=some r):∃v,(part t xs.toArray off).run P U.w=.ok v U.w/\Rep U r v:=by
 obtain⟨us,rfl,k1,k2⟩:=Tl hc hr;unfold part;cases ha:B8 d with
 |true=>
  rw[ha]at hm;simp[FH]at hm;subst hm;refine⟨.agg ((xs.drop off).take i.size).toArray,?_,by simp only[Rep];grind⟩
  simp_all[L1,Ed]
 |false=>
  rw[ha]at hm;cases ds with
  |nil=>simp[FH]at hm
  |cons c cs'=>
   cases cs' with
   |cons _ _=>simp[FH]at hm
   |nil=>
    simp[FH]at hm;subst hm;obtain⟨v,ys,e1,e2,rfl⟩:=k1;refine⟨v,?_,e2⟩;have h0:=by rw[e1]at k2;simpa using k2.symm
    have hx:=by
     have:((xs.drop off).take i.size)[0]? =some v:=by rw[e1];rfl
     rw[h0]at this;simpa using this
    simp[L1 hd,ha,hx]
theorem bM(h:HInv U hp){t:TypeId}{x:Operand}{f:Nat}{X:AV}{fs:Array Field}{fd:Field}{d:TypeDesc}{i:TypeInfo}(ho:o.op=.field t x f)(hs:P.underlying t=some (.struct fs))(hf:fs[f]? =some fd)(hd:P.underlying fd.type=some d)(hi:P.info? fd.type=some i)(hx:Rep U X (a.eval x))(hex:OZ fd.offset i.size (B8 d) X=some (vc,r,ws)):Step P o a U nm (ws++hp) r:=by
 cases X with
 |agg cs=>
  simp only[OZ]at hex;split at hex
  ·rename_i ds hds;cases hm:FH (B8 d) ds with
   |none=>simp[hm,vr]at hex
   |some r'=>
    simp only[hm,yE]at hex;obtain⟨_,rfl,rfl⟩:=hex;obtain⟨xs,e1,e2,e3⟩:=hx;obtain⟨v,g1,g2⟩:=JN hd hi e3 e2 hds hm;refine Step.quiet h ?_ g2
    simp_all[execOp,Instr.field,asAgg,run_underlying]
  ·simp at hex
 |_=>simp[OZ]at hex
theorem lF(h:HInv U hp){t e:TypeId}{x ix:Operand}{X I:AV}{i:TypeInfo}(ho:o.op=.indexAddr t x ix)(ht:P.underlying t=some (.slice e))(hi:P.info? e=some i)(hx:Rep U X (a.eval x))(hI:Rep U I (a.eval ix))(hex:Rq hp i.size X I=some (vc,r,ws))(hvc:vc):Step P o a U nm (ws++hp) r:=by
 have run:∀(b k len cap:Nat)(ik:IntKind)(n:Int),a.eval x=.slice (some ⟨b,k,none⟩) len cap->a.eval ix=.int ik n->0<=n->n<len->(execOp a.eval o).run P U.w=.ok (.value (.pointer (some ⟨b,k+n.toNat*i.size,none⟩))) U.w:=by intro b k len cap ik n e1 e2 e3 e4;simp[execOp,ho,Instr.indexAt,run_underlying ht,e1,e2,asIntOf,e3,e4,Ed hi,HN]
 unfold Rq at hex;split at hex
 ·rename_i sz' f rows d ik n;obtain⟨rfl,rfl,rfl⟩:=hex;obtain⟨rfl,v1,v2⟩:=hvc;have hI':=Ee (X:=.un) hI;obtain⟨base,cap,e1,e2,e3,e4,e5⟩:=hx;rcases e5 with rfl|⟨b,k,rfl,e6,e7⟩
  ·simp at v2;omega
  ·refine Step.quiet h (run b k _ cap ik n e1 hI' v1 v2) ?_;have hlt:n.toNat<rows.length:=by omega
   obtain⟨g1,g2⟩:=FR e7 n.toNat _ (L2 hlt);exact⟨b,_,rfl,e6,e4 _ (A14 (L2 hlt)),g2⟩
 ·rename_i n l ik j;split at hex
  ·rename_i sz' live rows d hn;obtain⟨rfl,rfl,rfl⟩:=hex;obtain⟨rfl,hl1,v1,v2⟩:=hvc;have hI':=Ee (X:=.un) hI;have hv:=Hb h hn hx hl1;obtain⟨a1,a2,a3,a4⟩:=h.arr n i.size live rows d hn;have hln:=by have:=h.ln n;simpa[lenOf,hn]using this
   rcases a4 with⟨a4,a5,rfl⟩|⟨b,k,cap,a4,_⟩
   ·simp at v2;omega
   ·rw[a4]at hv;refine Step.quiet h (run b k _ _ ik j hv hI' v1 v2) ?_;simp only[Rep];grind
  ·simp at hex
 ·simp at hex
theorem bN(h:HInv U hp){t e:TypeId}{x ix:Operand}{X I:AV}{i:TypeInfo}{n:Nat}(ho:o.op=.indexAddr t x ix)(ht:P.underlying t=some (.array n e))(hi:P.info? e=some i)(hx:Rep U X (a.eval x))(hI:Rep U I (a.eval ix))(hex:Qk n i.size X I=some (vc,r,ws))(hvc:vc):Step P o a U nm (ws++hp) r:=by
 have run:∀(b k:Nat)(ik:IntKind)(j:Int),a.eval x=.pointer (some ⟨b,k,none⟩)->a.eval ix=.int ik j->0<=j->j<n->(execOp a.eval o).run P U.w=.ok (.value (.pointer (some ⟨b,k+j.toNat*i.size,none⟩))) U.w:=by intro b k ik j e1 e2 e3 e4;simp[execOp,ho,Instr.indexAt,run_underlying ht,e1,e2,asIntOf,e3,e4,Ed hi,HN,Instr.sureAddr]
 unfold Qk at hex;split at hex
 ·rename_i m k ik j;obtain⟨rfl,rfl,rfl⟩:=hex;exact Step.quiet h (run _ _ ik j hx.2 (Ee (X:=.un) hI) hvc.1 hvc.2) (by simp_all[Rep])
 ·rename_i cs k ik j;obtain⟨rfl,rfl,rfl⟩:=hex;obtain⟨b,k0,e1,e2,e3,e4⟩:=hx;exact Step.quiet h (run _ _ ik j e1 (Ee (X:=.un) hI) hvc.1 hvc.2) (by grind[Rep])
 ·rename_i m l es k' o' ik j;obtain⟨rfl,rfl,rfl⟩:=hex;obtain⟨h1,h2,h3⟩:=hx;obtain⟨b,k0,e⟩:=h2;refine Step.quiet h (run _ _ ik j e (Ee (X:=.un) hI) hvc.1 hvc.2) ?_;simp only[Rep];grind
 ·rename_i b k ik j;obtain⟨rfl,rfl,rfl⟩:=hex;exact Step.quiet h (run _ _ ik j hx (Ee (X:=.un) hI) hvc.1 hvc.2) (by simp[Rep])
 ·simp at hex
theorem Yi(h:HInv U hp){t e:TypeId}{x ix:Operand}{X I:AV}{d:TypeDesc}{i:TypeInfo}{n:Nat}(ho:o.op=.index t x ix)(ht:P.underlying t=some (.array n e))(hd:P.underlying e=some d)(hi:P.info? e=some i)(hx:Rep U X (a.eval x))(hI:Rep U I (a.eval ix))(hex:NT n i.size (B8 d) X I=some (vc,r,ws))(hvc:vc):Step P o a U nm (ws++hp) r:=by
 unfold NT at hex;split at hex
 ·split at hex
  ·rename_i ds hds;cases hm:FH (B8 d) ds with
   |none=>simp[hm,vr]at hex
   |some r'=>
    simp only[hm,yE]at hex;obtain⟨rfl,rfl,rfl⟩:=hex;obtain⟨xs,e1,e2,e3⟩:=hx;obtain⟨v,g1,g2⟩:=JN hd hi e3 e2 hds hm;refine Step.quiet h ?_ g2;have hI':=Ee (X:=.un) hI
    simp_all[execOp,Instr.index,asIntOf,run_underlying,Ed]
  ·simp at hex
 ·simp at hex
theorem bO(h:HInv U hp){x:Operand}{X:AV}{i:Nat}(ho:o.op=.extract x i)(hx:Rep U X (a.eval x))(hex:O1 i X=some (vc,r,ws)):Step P o a U nm (ws++hp) r:=by
 cases X with
 |tup cs=>
  simp only[O1]at hex;split at hex
  ·rename_i c hc;obtain⟨_,rfl,rfl⟩:=hex;obtain⟨xs,e1,e2⟩:=hx;obtain⟨v,g1,g2⟩:=C1 e2 i _ hc;refine Step.quiet h ?_ g2
   simp_all[execOp,Instr.extract]
  ·simp at hex
 |_=>simp[O1]at hex
theorem bP(h:HInv U hp){c:Call}{x:Operand}{X:AV}{t e:TypeId}(ho:o.op=.call c)(hc:c.callee=.builtin .len)(ha:c.args.toList=[x])(hat:c.argTypes.toList=[t])(ht:P.underlying t=some (.slice e))(hx:Rep U X (a.eval x))(hex:O2 hp X=some (vc,r,ws))(hvc:vc):Step P o a U nm (ws++hp) r:=by
 have ha':c.args=#[x]:=by grind
 have hat':c.argTypes=#[t]:=by grind
 have run:∀(base:Option Addr)(n cap:Nat),a.eval x=.slice base n cap->(execOp a.eval o).run P U.w=.ok (.value (.int .i64 n)) U.w:=by intro base n cap e1;simp[execOp,ho,resolve,hc,invoke,builtin,ha',hat',Builtin.len_,run_underlying ht,e1,goInt]
 cases X<;>grind[O2,Rep,Step.quiet,Hb]
theorem bQ(h:HInv U hp){c:Call}{x:Operand}{X:AV}{t e:TypeId}(ho:o.op=.call c)(hc:c.callee=.builtin .cap)(ha:c.args.toList=[x])(hat:c.argTypes.toList=[t])(ht:P.underlying t=some (.slice e))(hx:Rep U X (a.eval x))(hex:Qj X=some (vc,r,ws))(hvc:vc):Step P o a U nm (ws++hp) r:=by
 have ha':c.args=#[x]:=by grind
 have hat':c.argTypes=#[t]:=by grind
 have run:∀(base:Option Addr)(n cap:Nat),a.eval x=.slice base n cap->(execOp a.eval o).run P U.w=.ok (.value (.int .i64 cap)) U.w:=by intro base n cap e1;simp[execOp,ho,resolve,hc,invoke,builtin,ha',hat',Builtin.cap_,run_underlying ht,e1,goInt]
 unfold Qj at hex;split at hex
 ·grind[Step.quiet,Rep]
 ·simp at hex
theorem bR(h:HInv U hp)(hnm:¬U.al nm){c:Call}{s x:Operand}{X Y:AV}{t e:TypeId}{i:TypeInfo}{zs:List AV}(ho:o.op=.call c)(hc:c.callee=.builtin .append)(ha:c.args.toList=[s,x])(hat:c.argTypes.toList=[t,t])(ht:P.underlying t=some (.slice e))(hi:P.info? e=some i)(hz:Gk P e=some zs)(h0:0<i.size/\0<i.bytes)(hx:Rep U X (a.eval s))(hy:Rep U Y (a.eval x))(hex:OY hp nm i.size i.bytes zs X Y=some (vc,r,ws))(hvc:vc):Step P o a U nm (ws++hp) r:=by
 have ha':c.args=#[s,x]:=by grind
 have hat':c.argTypes=#[t,t]:=by grind
 obtain⟨i',z,e1,e2,e3,e4,e5⟩:=Gm hz;rw[hi]at e1;cases e1
 obtain⟨v,w',σ',g1,g2,g3⟩:=X2 h hnm t o.type e i z ht hi e2 rfl rfl e4 h0.1 h0.2 hex hvc hx hy;refine .inl ⟨v,w',σ',.inl ?_,g2,g3⟩
 simp_all[execOp,resolve,invoke,builtin]
theorem Ty{isMax:Bool}:∀{ys:List AV}{X τ:AV}{vs:List Value}{v:Value},VI isMax X ys=some τ->Rep U X v->RepL U ys vs->∃z,(vs.foldlM (if isMax then Builtin.max2 else Builtin.min2) v).run P U.w=.ok z U.w/\Rep U τ z
 |[],X,τ,vs,v,hm,hx,hy=>by simp_all[VI,RepL]
 |Y::ys,X,τ,vs,v,hm,hx,hy=>by
  simp only[VI]at hm;obtain⟨y,us,rfl,h2,h3⟩:=hy;split at hm
  ·rename_i σ hU;unfold oX at hU;split at hU
   ·rename_i k n k' m;simp at hU;have e1:=Ee (X:=.un) hx;have e2:=Ee (X:=.un) h2;have hrun:((if isMax then Builtin.max2 else Builtin.min2) (.int k n) (.int k' m)).run P U.w=.ok (.int k (bif isMax then max n m else min n m)) U.w:=by
     cases isMax
     ·simp[Builtin.min2];omega
     ·simp[Builtin.max2];omega
    subst hU;obtain⟨z,g1,g2⟩:=Ty hm (v:=.int k (bif isMax then max n m else min n m)) (by simp[Rep]) h3
    simp_all
   ·simp at hU
  ·simp at hm
theorem VY(h:HInv U hp){c:Call}{Xs:List AV}{isMax:Bool}(ho:o.op=.call c)(hc:c.callee=.builtin (if isMax then .max else .min))(hx:RepL U Xs (c.args.toList.map a.eval))(hex:Rr isMax Xs=some (vc,r,ws)):Step P o a U nm (ws++hp) r:=by
 cases Xs with
 |nil=>simp[Rr]at hex
 |cons X Ys=>
  simp only[Rr]at hex;split at hex
  ·rename_i τ hZ;obtain⟨_,rfl,rfl⟩:=hex;obtain⟨v,vs,e1,e2,e3⟩:=hx;obtain⟨z,g1,g2⟩:=Ty (P:=P) hZ e2 e3;refine Step.quiet h ?_ g2;cases isMax
   all_goals simp_all[execOp,resolve,invoke,builtin,Builtin.min_,Builtin.max_]
  ·simp at hex
theorem bT(h:HInv U hp){fn:Fn}{f c:Array Operand}{Xs Ys:List AV}(ho:o.op=.makeFunc fn f c)(hx:RepL U Xs (f.toList.map a.eval))(hy:RepL U Ys (c.toList.map a.eval)):Step P o a U nm ([]++hp) (.clo fn Xs Ys):=by
 refine Step.quiet h (v:=.func fn (f.map a.eval) (c.map a.eval)) ?_ ?_
 ·simp[execOp,ho,Instr.makeFunc]
 grind[Rep,Array.toList_map]
theorem bU(h:HInv U hp){x:Operand}{X:AV}(ho:o.op=.nilCheck x)(hx:Rep U X (a.eval x))(hex:Qm X=some (vc,r,ws)):Step P o a U nm (ws++hp) r:=by
 unfold Qm at hex;split at hex
 ·obtain⟨_,rfl,rfl⟩:=hex;have hx':=hx;exact Step.quiet h (by simp[execOp,ho,hx.2]) hx'
 ·obtain⟨_,rfl,rfl⟩:=hex;have hx':=hx;obtain⟨b,k0,e1,_⟩:=hx;exact Step.quiet h (by simp[execOp,ho,e1]) hx'
 ·obtain⟨_,rfl,rfl⟩:=hex;have hx':=hx;obtain⟨xs,ys,e1,_⟩:=hx;exact Step.quiet h (by simp[execOp,ho,e1]) hx'
 ·obtain⟨_,rfl,rfl⟩:=hex;have hx':=hx;simp only[Rep]at hx;exact Step.quiet h (by simp[execOp,ho,hx]) hx'
 ·simp at hex
theorem bV(h:HInv U hp){src dst:TypeId}{x:Operand}{X:AV}{k k':IntKind}(ho:o.op=.convert src dst x)(hs:P.underlying src=some (.int k'))(hd:P.underlying dst=some (.int k))(hx:Rep U X (a.eval x))(hex:Qn k X=some (vc,r,ws))(hvc:vc):Step P o a U nm (ws++hp) r:=by
 unfold Qn at hex;split at hex
 ·rename_i k0 n;obtain⟨rfl,rfl,rfl⟩:=hex;have e:=Ee (X:=.un) hx;refine Step.quiet h (v:=.int k n) ?_ (by simp[Rep])
  simp_all[execOp,convert,Conv.intToInt,run_underlying,M1]
 ·simp at hex
theorem lG(h:HInv U hp){t:TypeId}{op:UnOp}{x:Operand}{X:AV}(ho:o.op=.unOp op t x)(hx:Rep U X (a.eval x))(hex:vr (W6 op X)=some (vc,r,ws))(hvc:vc):Step P o a U nm (ws++hp) r:=by
 unfold W6 at hex;split at hex
 ·rename_i b;obtain⟨rfl,rfl,rfl⟩:=hex;have e:=by simpa[Rep]using hx
  exact Step.quiet h (v:=.bool (!b)) (by simp[execOp,ho,Op.unary,e]) (by simp[Rep])
 ·rename_i k n;obtain⟨rfl,rfl,rfl⟩:=hex;have e:=Ee (X:=.un) hx;refine Step.quiet h (v:=.int k (-n)) ?_ (by simp[Rep]);have:=M1 hvc
  simp_all[execOp,Op.unary,Op.intArith]
 ·simp[vr]at hex
theorem Yj{op:BinOp}{x y:Int}{b:Bool}(h:W4 op x y=some b)(k:IntKind)(t:TypeId)(w:World):(binOp op t (.int k x) (.int k y)).run P w=.ok (.bool b) w:=by
 cases op<;>simp only[W4,yE]at h
 case neq=>subst h;simp[binOp,Op.intCmp];rw[A49];simp
 case eql=>subst h;simp[binOp,Op.intCmp];rw[A49];simp
 all_goals simp_all[binOp,Op.intCmp]
theorem bW{op:BinOp}{k:IntKind}{x y z:Int}{p:Prop}(h:iI op k x y=some (p,z))(hp:p)(t:TypeId)(w:World):(binOp op t (.int k x) (.int k y)).run P w=.ok (.int k z) w:=by
 cases op<;>simp only[iI,A57]at h<;>obtain⟨rfl,rfl⟩:=h
 all_goals simp_all[binOp,Op.intArith,M1,Op.intDiv]
theorem Mo(op:BinOp)(t:TypeId)(x y:Operand)(k k':IntKind)(m n:Int)(w:World):(eqGuard op t x y (.int k m) (.int k' n)).run P w=.ok () w:=by cases op<;>simp[eqGuard]
theorem Tz(op:BinOp)(t:TypeId)(x y:Operand)(m n:Bool)(w:World):(eqGuard op t x y (.bool m) (.bool n)).run P w=.ok () w:=by cases op<;>simp[eqGuard]
theorem Yk{t:TypeId}(hu:P.underlying t=some .bool)(d:Nat)(b1 b2:Bool)(w:World):(Op.equalIn (d+1) t (.bool b1) (.bool b2)).run P w=.ok (b1==b2) w:=by simp[Op.equalIn,run_underlying hu]
theorem Qt{l:Bool}{e:Prop}{c:Bool}{R:Option (Prop×Bool)}{p:Prop}{b:Bool}(h:Lp l e c R=some (p,b)):∃q d,R=some (q,d)/\p=(e/\q)/\b=(bif l then c else c&&d):=by
 match R,h with
 |none,h=>exact absurd h (by simp[Lp])
 |some (q,d),h=>unfold Lp at h;grind
theorem HE{xs ys:List AV}{p:Prop}{b:Bool}(h:C7 [] xs ys=some (p,b)):xs=[]/\ys=[]/\p=True/\b=true:=by
 match xs,ys,h with
 |[],[],h=>unfold C7 at h;grind
 |[],_::_,h=>exact absurd h (by simp[C7])
 |_::_,_,h=>exact absurd h (by simp[C7])
theorem Je{k:Bool}{ks:List Bool}{xs ys:List AV}{p:Prop}{b:Bool}(h:C7 (k::ks) xs ys=some (p,b)):∃x xs' y ys' e c q d,xs=x::xs'/\ys=y::ys'/\C7 ks xs' ys'=some (q,d)/\p=(e/\q)/\b=(bif ks.isEmpty then c else c&&d)/\(∀ks2 A B,C7 (k::ks2) (x::A) (y::B)=Lp ks2.isEmpty e c (C7 ks2 A B))/\((k=true/\∃m m' i j,x=.v (.int m i)/\y=.v (.int m' j)/\e=(m=m')/\c=decide (i=j))\/(k=false/\∃i j,x=.v (.bool i)/\y=.v (.bool j)/\e=True/\c=(i==j))):=by
 unfold C7 at h;split at h
 ·grind
 ·rename_i ks' m i xs' m' j ys' e;cases e
  obtain⟨q,d,h1,h2,h3⟩:=Qt h;exact⟨_,_,_,_,_,_,q,d,rfl,rfl,h1,h2,h3,λ_ _ _=>by rw[C7],by grind⟩
 ·rename_i ks' i xs' j ys' e;cases e
  obtain⟨q,d,h1,h2,h3⟩:=Qt h;exact⟨_,_,_,_,_,_,q,d,rfl,rfl,h1,h2,h3,λ_ _ _=>by rw[C7],by grind⟩
 ·cases h
theorem Ki:∀{ks:List Bool}{xs ys:List AV}{p:Prop}{b:Bool},C7 ks xs ys=some (p,b)->xs.length=ks.length/\ys.length=ks.length
 |[],xs,ys,p,b,h=>by obtain⟨rfl,rfl,_⟩:=HE h;exact⟨rfl,rfl⟩
 |k::ks,xs,ys,p,b,h=>by obtain⟨x,xs',y,ys',e,c,q,d,rfl,rfl,h1,_⟩:=Je h;have:=Ki h1;simp;omega
theorem Mp:∀{k1 k2:List Bool}{A B:List AV}{p:Prop}{b:Bool},C7 (k1++k2) A B=some (p,b)->p->∃p1 b1 p2 b2,C7 k1 (A.take k1.length) (B.take k1.length)=some (p1,b1)/\C7 k2 (A.drop k1.length) (B.drop k1.length)=some (p2,b2)/\p1/\p2/\b=(b1&&b2)
 |[],k2,A,B,p,b,h,hp=>⟨True,true,p,b,by simp[C7],by simpa using h,trivial,hp,by simp⟩
 |k::k1,k2,A,B,p,b,h,hp=>by
  obtain⟨x,xs',y,ys',e,c,q,d,rfl,rfl,h1,rfl,rfl,h4,_⟩:=Je h;obtain⟨p1,b1,p2,b2,e1,e2,g1,g2,rfl⟩:=Mp h1 hp.2;refine⟨e/\p1,bif k1.isEmpty then c else c&&b1,p2,b2,?_,by simpa using e2,⟨hp.1,g1⟩,g2,?_⟩
  ·rw[A03,List.take_succ_cons,List.take_succ_cons,h4,e1];rfl
  grind[HE]
theorem JO:∀{o n:Nat}{cs:List AV},o+n<=cs.length->cut o n cs=some ((cs.drop o).take n)
 |0,0,cs,h=>by simp[cut]
 |0,n+1,[],h=>by simp at h
 |0,n+1,c::cs,h=>by have:=JO (o:=0) (n:=n) (cs:=cs) (by simp at h;omega);simp[cut,this]
 |o+1,n,[],h=>by simp at h
 |o+1,n,c::cs,h=>by have:=JO (o:=o) (n:=n) (cs:=cs) (by simp at h;omega);simp[cut,this]
theorem Qu{d:Nat}{t:TypeId}{ks:List Bool}(h:F4 P d t=some ks):∃td,P.underlying t=some td/\(B8 td=false->ks.length=1):=by
 cases d with
 |zero=>simp[F4]at h
 |succ d=>unfold F4 at h;all_goals grind[B8]
theorem Yl(w:World){t e:TypeId}{n:Nat}(d:Nat)(ht:P.underlying t=some (.array n e))(xs ys:Array Value)(hp:(sizeOf e).run P w=.ok 1 w)(b:Nat->Bool)(hs:∀i,i<n->∃x y,(part e xs (i*1)).run P w=.ok x w/\(part e ys (i*1)).run P w=.ok y w/\(Op.equalIn d e x y).run P w=.ok (b i) w):(Op.equalIn (d+1) t (.agg xs) (.agg ys)).run P w=.ok ((List.range n).all b) w:=by
 simp only[Op.equalIn,Sem.run_bind,run_underlying ht,Result.andThen_ok,hp];rw[Std.Legacy.Range.forIn_eq_forIn_range',A36];simp only[Std.Legacy.Range.size,Nat.sub_zero,Nat.add_sub_cancel,Nat.div_one];have key:∀(k s:Nat),s+k=n->(forIn (List.range' s k 1) ((none),()) λi __s=>(do
      let __do_lift<-part e xs (i*1)
      let __do_lift_1<-part e ys (i*1)
      let __do_lift<-Op.equalIn d e __do_lift __do_lift_1
      if(!__do_lift)=true then pure (ForInStep.done (some false,()))else pure (ForInStep.yield (none,())))).run P w=.ok (bif ((List.range' s k 1).all b)then(none,())else(some false,())) w:=by
  intro k;induction k with
  |zero=>simp
  |succ k ih=>
   intro s hk;obtain⟨x,y,h1,h2,h3⟩:=hs s (by omega);rw[A38,List.forIn_cons];simp only[Sem.run_bind,h1,h2,h3,Result.andThen_ok,List.all_cons];by_cases hb:b s=true
   ·have:=ih (s+1) (by omega);rw[hb];simpa using this
   simp_all
 rw[key n 0 (by omega)];cases(List.range' 0 n 1).all b<;>simp
theorem K6:∀(d:Nat){t:TypeId}{ks:List Bool},F4 P d t=some ks->∀(D:Nat),d<=D->∀{td:TypeDesc},P.underlying t=some td->∀{cs ds:List AV}{p:Prop}{b:Bool},C7 ks cs ds=some (p,b)->p->∀{X Y:AV}{v u:Value},FH (B8 td) cs=some X->FH (B8 td) ds=some Y->Rep U X v->Rep U Y u->(Op.equalIn D t v u).run P U.w=.ok b U.w
 |0,t,ks,h=>by simp[F4]at h
 |d+1,t,ks,h=>by
  intro D' hD td htd cs ds p b he hp X Y v u hX hY hv hu;obtain⟨D,rfl⟩:∃α,D'=α+1:=⟨D'-1,by omega⟩
  have hl:=Ki he;unfold F4 at h;split at h
  ·rename_i k hk;cases h
   rw[hk]at htd;cases htd
   obtain⟨x,xs',y,ys',e,c,q,d,rfl,rfl,h1,rfl,rfl,_,h5⟩:=Je he;obtain⟨rfl,rfl,rfl,rfl⟩:=HE h1;rcases h5 with⟨_,m,m',i,j,rfl,rfl,rfl,rfl⟩|⟨h5,_⟩
   ·obtain⟨rfl,_⟩:=hp;simp[B8,FH]at hX hY;subst hX;subst hY;rw[Ee (X:=.un) hv,Ee (X:=.un) hu,run_equalIn_int (P:=P) U.w D t m k i j hk];rfl
   ·cases h5
  ·rename_i hk;cases h
   rw[hk]at htd;cases htd
   obtain⟨x,xs',y,ys',e,c,q,d,rfl,rfl,h1,rfl,rfl,_,h5⟩:=Je he;obtain⟨rfl,rfl,rfl,rfl⟩:=HE h1;rcases h5 with⟨h5,_⟩|⟨_,i,j,rfl,rfl,rfl,rfl⟩
   ·cases h5
   ·simp[B8,FH]at hX hY;subst hX;subst hY;have e1:v=.bool i:=by simpa[Rep]using hv
    have e2:u=.bool j:=by simpa[Rep]using hu
    rw[e1,e2,run_equalIn_bool' (P:=P) U.w D t i j hk]
  ·rename_i fs hk;rw[hk]at htd;cases htd
   split at h
   ·simp at h
   rename_i hst;simp only[not_or,Bool.not_eq_true]at hst;simp[B8,FH]at hX hY;subst hX;subst hY;simp only[Rep]at hv hu;obtain⟨xs,rfl,o1,r1⟩:=hv;obtain⟨ys,rfl,o2,r2⟩:=hu;have hfo:P.fieldsOf t=fs:=by unfold Program.fieldsOf;rw[hk]
   rw[run_equalIn_struct U.w D t _ _ (by rw[hfo];exact hk) hst.1,hfo];have flds:∀(l:List Field)(o:Nat)(ks:List Bool),MD (F4 P d) P l o=some ks->∀(p:Prop)(b:Bool),C7 ks (cs.drop o) (ds.drop o)=some (p,b)->p->(Op.eqFields D xs.toArray ys.toArray l).run P U.w=.ok b U.w:=by
    intro l;induction l with
    |nil=>intro o ks h p b he hp;simp[MD]at h;subst h;obtain⟨_,_,_,rfl⟩:=HE he;simp[Op.eqFields]
    |cons f l ih=>
     intro o ks h p b he hp;simp only[MD]at h;split at h
     ·simp at h
     rename_i hf;simp only[not_or,Classical.not_not]at hf;split at h
     ·rename_i k1 i hk1 hi;split at h
      ·rename_i hsz';obtain⟨hsz,hne⟩:=hsz';have hpos:0<k1.length:=by cases k1<;>simp at hne⊢
       cases hk2:MD (F4 P d) P l (o+k1.length)with
       |none=>rw[hk2]at h;simp at h
       |some k2=>
        rw[hk2]at h;simp at h;subst h;obtain⟨p1,b1,p2,b2,e1,e2,h1,h2,rfl⟩:=Mp he hp;have hlen:=Ki he;simp at hlen;obtain⟨td,htd,hone⟩:=Qu hk1;have cA:cut f.offset i.size cs=some ((cs.drop o).take k1.length):=by rw[hf.2,hsz];exact JO (by omega)
        have cB:cut f.offset i.size ds=some ((ds.drop o).take k1.length):=by rw[hf.2,hsz];exact JO (by omega)
        have mk:∀(l:List AV),l.length=k1.length->∃τ,FH (B8 td) l=some τ:=by
         intro l hl;cases ha:B8 td with
         |true=>exact⟨.agg l,rfl⟩
         |false=>
          rw[hone ha]at hl
          match l,hl with
          |[c],_=>exact⟨c,rfl⟩
        obtain⟨X1,hX1⟩:=mk ((cs.drop o).take k1.length) (by simp;omega);obtain⟨Y1,hY1⟩:=mk ((ds.drop o).take k1.length) (by simp;omega);obtain⟨v1,g1,g2⟩:=JN htd hi r1 o1 cA hX1;obtain⟨u1,g3,g4⟩:=JN htd hi r2 o2 cB hY1;have hr:=K6 d hk1 D (by omega) htd e1 h1 hX1 hY1 g2 g4;have hrest:=ih (o+k1.length) k2 hk2 p2 b2 (by simpa[List.drop_drop,A44]using e2) h2;simp only[Op.eqFields,ne_eq,hf.1,not_false_eq_true,if_true,Sem.run_bind,g1,g3,hr,Result.andThen_ok];cases b1 with
        |false=>simp
        |true=>simpa using hrest
      ·simp at h
     ·simp at h
   exact flds fs.toList 0 ks h p b (by simpa using he) hp
  ·rename_i n e hk;rw[hk]at htd;cases htd
   split at h
   ·rename_i k0 i hk1 hi;split at h
    ·simp at h
    rename_i hst;simp only[not_or,Classical.not_not]at hst;cases h
    simp[B8,FH]at hX hY;subst hX;subst hY;simp only[Rep]at hv hu;obtain⟨xs,rfl,o1,r1⟩:=hv;obtain⟨ys,rfl,o2,r2⟩:=hu;obtain⟨td,htd,hone⟩:=Qu hk1;have mk:∀(l:List AV),l.length=1->∃τ,FH (B8 td) l=some τ:=by
     intro l hl;cases ha:B8 td with
     |true=>exact⟨.agg l,rfl⟩
     |false=>
      match l,hl with
      |[c],_=>exact⟨c,rfl⟩
    have hlen:=Ki he;rw[List.length_replicate]at hlen
    let c:Nat->Bool:=λj=>((C7 [k0] ((cs.drop j).take 1) ((ds.drop j).take 1)).map (·.2)).getD false
    have arr:∀(m o:Nat),o+m=n->∀(p:Prop)(b:Bool),C7 (List.replicate m k0) (cs.drop o) (ds.drop o)=some (p,b)->p->(∀j,o<=j->j<n->∃x y,(part e xs.toArray (j*1)).run P U.w=.ok x U.w/\(part e ys.toArray (j*1)).run P U.w=.ok y U.w/\(Op.equalIn D e x y).run P U.w=.ok (c j) U.w)/\b=(List.range' o m 1).all c:=by
     intro m;induction m with
     |zero=>intro o ho p b he hp;obtain⟨_,_,_,rfl⟩:=HE he;exact⟨λj h1 h2=>absurd h2 (by omega),rfl⟩
     |succ m ih=>
      intro o ho p b he hp;rw[List.replicate_succ,show k0::List.replicate m k0=[k0]++List.replicate m k0 from rfl]at he;obtain⟨p1,b1,p2,b2,e1,e2,h1,h2,rfl⟩:=Mp he hp;rw[List.length_singleton]at e1 e2;obtain⟨q1,q2⟩:=ih (o+1) (by omega) p2 b2 (by simpa[List.drop_drop,A44]using e2) h2;have hc:c o=b1:=by simp only[c];rw[e1];rfl
      refine⟨λj hj1 hj2=>?_,?_⟩
      ·by_cases hjo:j=o
       ·subst hjo;have cA:cut (j*1) i.size cs=some ((cs.drop j).take 1):=by rw[hst.2,Nat.mul_one];exact JO (by omega)
        have cB:cut (j*1) i.size ds=some ((ds.drop j).take 1):=by rw[hst.2,Nat.mul_one];exact JO (by omega)
        obtain⟨X1,hX1⟩:=mk ((cs.drop j).take 1) (by simp;omega);obtain⟨Y1,hY1⟩:=mk ((ds.drop j).take 1) (by simp;omega);obtain⟨v1,g1,g2⟩:=JN htd hi r1 o1 cA hX1;obtain⟨u1,g3,g4⟩:=JN htd hi r2 o2 cB hY1;exact⟨v1,u1,g1,g3,by rw[hc];exact K6 d hk1 D (by omega) htd e1 h1 hX1 hY1 g2 g4⟩
       ·exact q1 j (by omega) hj2
      ·rw[A38,List.all_cons,hc,<-q2]
    obtain⟨a1,a2⟩:=arr n 0 (by omega) p b (by simpa using he) hp;have hsz:(sizeOf e).run P U.w=.ok 1 U.w:=by rw[Ed hi,hst.2]
    rw[Yl U.w D hk xs.toArray ys.toArray hsz c (λj hj=>a1 j (by omega) hj),a2,A36]
   ·simp at h
  ·simp at h
theorem bX(h:HInv U hp){t yt:TypeId}{op:BinOp}{x y:Operand}{X Y:AV}{ks:List Bool}{td:TypeDesc}(ho:o.op=.binOp op t x y yt)(hu:P.underlying t=some td)(had:B8 td=true)(hk:F4 P 8 t=some ks)(hx:Rep U X (a.eval x))(hy:Rep U Y (a.eval y))(hex:Ql ks op X Y=some (vc,r,ws))(hvc:vc):Step P o a U nm (ws++hp) r:=by
 unfold Ql at hex;split at hex
 ·rename_i cs ds;have hg:P.eqGuardType P.depth t=false:=by
   unfold F4 at hk;cases td with
   |struct fs=>grind
   |array n e=>grind
   |_=>simp[B8]at had
  have hx':=hx;have hy':=hy;obtain⟨xs,ex,_,_⟩:=hx;obtain⟨ys,ey,_,_⟩:=hy;have g1:=run_eqGuard_agg (P:=P) U.w op t x y xs.toArray ys.toArray hg;split at hex
  ·rename_i p b hc;obtain⟨rfl,rfl,rfl⟩:=hex;have hr:=K6 (U:=U) 8 hk 10000 (by omega) hu hc hvc (X:=.agg cs) (Y:=.agg ds) (by rw[had];rfl) (by rw[had];rfl) hx' hy';rw[ex,ey]at hr;refine Step.quiet h (v:=.bool b) ?_ (by simp[Rep]);have g2:=run_eql_struct (P:=P) U.w t xs.toArray ys.toArray;rw[hr]at g2;simp[execOp,ho,ex,ey,g1,g2]
  ·rename_i p b hc;obtain⟨rfl,rfl,rfl⟩:=hex;have hr:=K6 8 hk 10000 (by omega) hu hc hvc (by rw[had];rfl) (by rw[had];rfl) hx' hy';rw[ex,ey]at hr;refine Step.quiet h (v:=.bool (!b)) ?_ (by simp[Rep]);have g2:=run_neq_struct (P:=P) U.w t xs.toArray ys.toArray;rw[hr]at g2;simp[execOp,ho,ex,ey,g1,g2]
  ·simp at hex
 ·simp at hex
theorem Xf{t e:TypeId}(hu:P.underlying t=some (.slice e))(d:Nat)(b:Option Addr)(n c:Nat)(w:World):(Op.equalIn (d+1) t (.slice b n c) (.slice none 0 0)).run P w=.ok b.isNone w:=by cases b<;>simp[Op.equalIn,run_underlying hu]
theorem Ym(h:HInv U hp){t yt e:TypeId}{op:BinOp}{x y:Operand}{X:AV}{neg:Bool}(ho:o.op=.binOp op t x y yt)(hop:op=.eql/\neg=false\/op=.neq/\neg=true)(hu:P.underlying t=some (.slice e))(hy:a.eval y=.slice none 0 0)(hx:Rep U X (a.eval x))(hex:NU neg X=some (vc,r,ws))(hvc:vc):Step P o a U nm (ws++hp) r:=by
 have run:∀(b:Option Addr)(n c:Nat),a.eval x=.slice b n c->(execOp a.eval o).run P U.w=.ok (.value (.bool (b.isNone !=neg))) U.w:=by
  intro b n c e1;have g1:(eqGuard op t x y (.slice b n c) (.slice none 0 0)).run P U.w=.ok () U.w:=by rcases hop with⟨rfl,_⟩|⟨rfl,_⟩<;>simp[eqGuard]
  have g2:(Op.equal t (.slice b n c) (.slice none 0 0)).run P U.w=.ok b.isNone U.w:=Xf hu 9999 b n c U.w;rcases hop with⟨rfl,rfl⟩|⟨rfl,rfl⟩<;>simp[execOp,ho,e1,hy,g1,binOp,g2]
 unfold NU at hex;grind[Rep,Step.quiet]
theorem PW(h:HInv U hp){t yt:TypeId}{op:BinOp}{x y:Operand}{X Y:AV}(ho:o.op=.binOp op t x y yt)(hop:E3 P op t (Al x) (Al y)=.bin op .int (Al x) (Al y)\/E3 P op t (Al x) (Al y)=.bin op .bool (Al x) (Al y)/\P.underlying t=some .bool){tk:TK}(htk:E3 P op t (Al x) (Al y)=.bin op tk (Al x) (Al y))(hx:Rep U X (a.eval x))(hy:Rep U Y (a.eval y))(hex:vr (OV op tk X Y)=some (vc,r,ws))(hvc:vc):Step P o a U nm (ws++hp) r:=by
 unfold OV at hex;split at hex
 ·rename_i k m k' n;have e1:=Ee (X:=.un) hx;have e2:=Ee (X:=.un) hy;split at hex
  ·rename_i b hb;simp only[vr,yE,A57]at hex;obtain⟨rfl,rfl,rfl⟩:=hex;subst hvc;refine Step.quiet h (v:=.bool b) ?_ (by simp[Rep]);have g1:=Mo (P:=P) op t x y k k m n U.w;have g2:=Yj (P:=P) hb k t U.w;simp[execOp,ho,e1,e2,g1,g2]
  ·split at hex
   ·rename_i p z hz;simp only[vr,yE,A57]at hex;obtain⟨rfl,rfl,rfl⟩:=hex;obtain⟨rfl,hp'⟩:=hvc;refine Step.quiet h (v:=.int k z) ?_ (by simp[Rep]);have g1:=Mo (P:=P) op t x y k k m n U.w;have g2:=bW (P:=P) hz hp' t U.w;simp[execOp,ho,e1,e2,g1,g2]
   ·simp[vr]at hex
 ·rename_i b1 b2;have e1:a.eval x=.bool b1:=by simpa[Rep]using hx
  have e2:a.eval y=.bool b2:=by simpa[Rep]using hy
  have hu:P.underlying t=some .bool:=by grind
  have heq:∀w,(Op.equal t (.bool b1) (.bool b2)).run P w=.ok (b1==b2) w:=by intro w;exact Yk hu 9999 b1 b2 w
  have g1:=λop=>Tz (P:=P) op t x y b1 b2 U.w
  split at hex
  ·obtain⟨rfl,rfl,rfl⟩:=hex;refine Step.quiet h (v:=.bool (b1==b2)) ?_ (by simp[Rep])
   simp_all[execOp,binOp]
  ·obtain⟨rfl,rfl,rfl⟩:=hex;refine Step.quiet h (v:=.bool (b1 !=b2)) ?_ (by simp[Rep])
   simp_all[execOp,binOp,bne]
  ·simp[vr]at hex
 ·simp[vr]at hex
theorem Yn{w:Bool}(h:HInv U hp){t yt:TypeId}{op:BinOp}{x y:Operand}{X Y:AV}(ho:o.op=.binOp op t x y yt)(hop:E3 P op t (Al x) (Al y)=.bin op .int (Al x) (Al y)\/E3 P op t (Al x) (Al y)=.bin op .bool (Al x) (Al y)/\P.underlying t=some .bool){tk:TK}(htk:E3 P op t (Al x) (Al y)=.bin op tk (Al x) (Al y))(hx:Rep U X (a.eval x))(hy:Rep U Y (a.eval y))(hex:vr (Qh w op tk X Y)=some (vc,r,ws))(hvc:vc):Step P o a U nm (ws++hp) r:=by
 cases w with
 |false=>exact PW h ho hop htk hx hy hex hvc
 |true=>
  simp only[Qh]at hex;unfold Th at hex;split at hex
  ·rename_i k m k' n;split at hex
   ·rename_i z hz;obtain⟨rfl,rfl,rfl⟩:=hex;subst hvc;have e1:=Ee (X:=.un) hx;have e2:=Ee (X:=.un) hy;refine Step.quiet h (v:=.int k z) ?_ (by simp[Rep]);have g1:=Mo (P:=P) op t x y k k m n U.w;have g2:(binOp op t (.int k m) (.int k n)).run P U.w=.ok (.int k z) U.w:=by cases op<;>simp only[W5,yE,reduceCtorEq]at hz<;>subst hz<;>simp[binOp,Op.intArith]
    simp[execOp,ho,e1,e2,g1,g2]
   grind[PW]
  grind[PW]
end
section
variable{P:Program}{o:Oper}{a:Act}{U:Cf}{nm:Nm}{hp:Hp}{r:AV}{vc:Prop}{ws:Hp}
theorem TA(off:Nat):∀(l:List Value)(k:Nat)(cs:Array Value),off+k+l.length<=cs.size->((l.zipIdx k).foldl (λ(cs:Array Value)(p:Value×Nat)=>cs.setIfInBounds (off+p.2) p.1) cs).size=cs.size/\∀j,((l.zipIdx k).foldl (λ(cs:Array Value)(p:Value×Nat)=>cs.setIfInBounds (off+p.2) p.1) cs)[j]? =if off+k<=j/\j<off+k+l.length then l[j-(off+k)]? else cs[j]?
 |[],k,cs,_=>⟨rfl,λj=>by simp;omega⟩
 |x::l,k,cs,h=>by simp only[List.zipIdx_cons];simp at h;obtain⟨h1,h2⟩:=TA off l (k+1) (cs.setIfInBounds (off+k) x) (by simp;omega);grind
theorem Yo{cs ds rs:List AV}{off:Nat}{cells xs:Array Value}(h:FZ cs off ds=some rs)(hc:RepL U cs cells.toList)(h1:∀x∈cells.toList,Bp x=true)(hd:RepL U ds xs.toList)(h2:∀x∈xs.toList,Bp x=true):off+xs.size<=cells.size/\RepL U rs (xs.zipIdx.foldl (λ(cs:Array Value)(p:Value×Nat)=>cs.setIfInBounds (off+p.2) p.1) cells).toList/\∀x∈(xs.zipIdx.foldl (λ(cs:Array Value)(p:Value×Nat)=>cs.setIfInBounds (off+p.2) p.1) cells).toList,Bp x=true:=by
 obtain⟨q1,q2,q3⟩:=L4 h;have l1:=Bx hc;have l2:=Bx hd;simp only[Array.length_toList]at l1 l2;have hle:off+xs.size<=cells.size:=by omega
 obtain⟨f1,f2⟩:=TA off xs.toList 0 cells (by simpa using hle);have hz:xs.zipIdx.foldl (λ(cs:Array Value)(p:Value×Nat)=>cs.setIfInBounds (off+p.2) p.1) cells=(xs.toList.zipIdx 0).foldl (λ(cs:Array Value)(p:Value×Nat)=>cs.setIfInBounds (off+p.2) p.1) cells:=by rw[<-Array.foldl_toList,Array.toList_zipIdx]
 rw[hz];generalize (xs.toList.zipIdx 0).foldl (λ(cs:Array Value)(p:Value×Nat)=>cs.setIfInBounds (off+p.2) p.1) cells=res at f1 f2;simp only[A43,Array.length_toList]at f2;refine⟨hle,My (by simp;omega) λj c hj=>?_,λx hx=>?_⟩
 ·rw[q3]at hj;rw[Array.getElem?_toList,f2];by_cases hin:off<=j/\j<off+xs.size
  ·rw[t8 hin];rw[t8 (by omega)]at hj;exact C1 hd _ c hj
  ·rw[t7 hin];rw[t7 (by omega)]at hj;simpa using C1 hc j c hj
 ·obtain⟨j,hj,rfl⟩:=List.mem_iff_getElem.1 hx;have hg:=f2 j;grind
theorem M6{pf:Nat->Option (Nat×Nat)}:∀{qs:List (Nat×Operand)}{ps:List (Nat×Nat×Opd)}{f:Opd->AV}{zs cs:List AV}{cells:Array Value},Kn pf qs=some ps->(∀p∈qs,Rep U (f (Al p.2)) (a.eval p.2))->K5 zs (ps.map λ(o,s,x)=>(o,s,f x))=some cs->RepL U zs cells.toList->(∀x∈cells.toList,Bp x=true)->∃cells',Instr.fill pf cells (qs.map λ(i,x)=>(i,a.eval x))=some cells'/\RepL U cs cells'.toList/\∀x∈cells'.toList,Bp x=true
 |[],ps,f,zs,cs,cells,hp,_,hf,hz,h1=>by grind[Kn,K5,Instr.fill]
 |(i,x)::qs,ps,f,zs,cs,cells,hp,hr,hf,hz,h1=>by
  simp only[Kn]at hp;split at hp
  ·rename_i off s ps' hpf hps;simp at hp;subst hp;simp only[w5,K5]at hf;split at hf
   ·rename_i xs hxs;split at hf
    ·split at hf
     ·rename_i cs' hov;have hrx:Rep U (f (Al x)) (a.eval x):=by simp_all
      obtain⟨g1,g2⟩:=NX hxs hrx;have hl:=Bx g1;obtain⟨k1,k2,k3⟩:=Yo hov hz h1 g1 g2;obtain⟨cells',m1,m2,m3⟩:=M6 hps (by grind) hf k2 k3
      simp_all[Instr.fill]
     ·simp at hf
    ·simp at hf
   ·simp at hf
  ·simp at hp
theorem Xg(h:HInv U hp){t:TypeId}{parts:Array (Nat×Operand)}{zs:List AV}{ps:List (Nat×Nat×Opd)}{pf:Nat->Option (Nat×Nat)}{f:Opd->AV}(ho:o.op=.build t parts)(hz:Gk P t=some zs)(hpf:Ru P t=some pf)(hps:Kn pf parts.toList=some ps)(hr:∀x,Rep U (f (Al x)) (a.eval x))(hex:Lj zs (ps.map λ(o,s,x)=>(o,s,f x))=some (vc,r,ws)):Step P o a U nm (ws++hp) r:=by
 unfold Lj at hex;split at hex
 ·rename_i cs hcs;obtain⟨_,rfl,rfl⟩:=hex;obtain⟨i,z,e1,e2,e3,e4,rfl⟩:=Gm hz;obtain⟨cells',m1,m2,m3⟩:=M6 hps (λp _=>hr p.2) hcs (Lt U z.cells.toList) e3;refine Step.quiet h (v:=.agg cells') ?_ (by simp only[Rep];grind);have hb:P.built t (parts.map λ(i,x)=>(i,a.eval x)).toList=some cells':=by
   unfold Program.built;unfold Ru at hpf;rw[Array.toList_map];split at hpf
   ·rename_i fs hu;cases hm:fs.toList.mapM (λf=>(P.info? f.type).map λi=>(f.offset,i.size))<;>grind
   ·rename_i n e hu;cases hm:P.info? e<;>grind
   ·simp at hpf
  have:=run_build U.w t _ cells' hb;simp[execOp,ho,this]
 ·simp at hex
theorem TB:∀(xs cs ds rs:List AV)(k:Nat),FZ cs k ds=some rs->FZ (xs++cs) (xs.length+k) ds=some (xs++rs)
 |[],cs,ds,rs,k,h=>by simpa using h
 |x::xs,cs,ds,rs,k,h=>by have:=TB xs cs ds rs k h;rw[show(x::xs).length+k=(xs.length+k)+1 from by simp;omega];simp[FZ,this]
theorem TC:∀(xs ds cs:List AV),xs.length=ds.length->FZ (xs++cs) 0 ds=some (ds++cs)
 |[],[],cs,_=>by cases cs<;>simp[FZ]
 |[],_::_,_,h=>by simp at h
 |_::_,[],_,h=>by simp at h
 |x::xs,d::ds,cs,h=>by simp[FZ,TC xs ds cs (by simpa using h)]
theorem N3{sz:Nat}:∀(rows:List (List AV))(i:Nat)(xs:List AV),(∀r∈rows,r.length=sz)->xs.length=sz->i<rows.length->FZ rows.flatten (i*sz) xs=some (rows.set i xs).flatten
 |[],i,xs,_,_,h=>by simp at h
 |r::rows,0,xs,hr,hx,_=>by simp_all[TC]
 |r::rows,i+1,xs,hr,hx,h=>by rw[A42,A44,<-hr r (by simp)];refine TB _ _ _ _ _ ?_;rw[hr r (by simp)];exact N3 rows i xs (by grind) hx (by simpa using h)
theorem Pu{sz:Nat}:∀{ps:List (Nat×AV)}{rows rows':List (List AV)},OW sz rows ps=some rows'->(∀r∈rows,r.length=sz)->K5 rows.flatten (ps.map λ(i,x)=>(i*sz,sz,x))=some rows'.flatten/\(∀r∈rows',r.length=sz)/\rows'.length=rows.length
 |[],rows,rows',h,hr=>by simp[OW]at h;subst h;exact⟨by simp[K5],hr,rfl⟩
 |(i,x)::ps,rows,rows',h,hr=>by
  simp only[OW]at h;split at h
  ·split at h
   ·obtain⟨h1,h2,h3⟩:=Pu h (by grind)
    simp_all[K5,N3]
   ·simp at h
  ·simp at h
theorem PX{zs:List AV}{sz:Nat}(hz:zs.length=sz)(h0:0<sz):∀(len j:Nat),(List.replicate len zs).flatten[j]? =if j<len*sz then zs[j%sz]? else none
 |0,j=>by simp
 |len+1,j=>by
  simp only[List.replicate_succ,List.flatten_cons];by_cases hj:j<zs.length
  ·rw[A31 hj,A13 (by omega),t8 (by rw[A42];omega)]
  ·rw[List.getElem?_append_right (by omega),PX hz h0 len,hz];have hm:(j-sz)%sz=j%sz:=(Nat.mod_eq_sub_mod (by omega)).symm;grind
theorem Mq{sz:Nat}:∀{rows:List (List AV)},(∀r∈rows,r.length=sz)->rows.flatten.length=rows.length*sz
 |[],_=>by simp
 |r::rs,h=>by have:=Mq (rows:=rs) (λr hr=>h r (by simp[hr]));grind
theorem TD{n:Nm}:∀{xs:List AV}{x:AV},x∈xs->n∈Fl x->n∈Dy xs
 |y::ys,x,hx,hn=>by
  simp only[Dy,y7];rcases y6.1 hx with rfl|hx
  ·exact .inl hn
  ·exact .inr (TD hx hn)
theorem TE:∀{xs:List AV}{x:AV},E2 hp xs->x∈xs->FI hp x
 |y::ys,x,h,hx=>by
  rcases y6.1 hx with rfl|hx
  ·exact h.1
  ·exact TE h.2 hx
theorem TF:∀{xs:List AV}{x:AV},F0 xs=true->x∈xs->Km x=true
 |y::ys,x,h,hx=>by
  simp only[F0,y8]at h;rcases y6.1 hx with rfl|hx
  ·exact h.1
  ·exact TF h.2 hx
theorem bY(h:HInv U hp)(hnm:¬U.al nm){t e:TypeId}{len:Nat}{parts:Array (Nat×Operand)}{zs:List AV}{i:TypeInfo}{f:Opd->AV}(ho:o.op=.buildSlice t len parts)(ht:P.underlying t=some (.slice e))(hi:P.info? e=some i)(hz:Gk P e=some zs)(h0:0<i.size/\len*i.size<=16777216)(hr:∀x,Rep U (f (Al x)) (a.eval x))(hex:Ke hp nm i.size len zs ((parts.toList.map λ(j,x)=>(j,Al x)).map λ(j,x)=>(j,f x))=some (vc,r,ws))(hvc:vc):Step P o a U nm (ws++hp) r:=by
 unfold Ke at hex;split at hex
 case h_2=>simp at hex
 rename_i rows hrows;simp only[yE,A57]at hex;obtain⟨rfl,rfl,rfl⟩:=hex;obtain⟨v1,v2,v3⟩:=hvc;obtain⟨i',z,e1,e2,e3,e4,e5⟩:=Gm hz;rw[hi]at e1;cases e1
 generalize hps:((parts.toList.map λ(j,x)=>(j,Al x)).map λ(j,x)=>(j,f x))=ps at*;obtain⟨σ1,f1,f2,f3,f4,f5,f6,f7,f8⟩:=h.frz (Dy (ps.map (·.2)));have hzl:zs.length=i.size:=by rw[e5];simp[e4]
 have hrep:∀p∈parts.toList,Rep σ1 (res hp (f (Al p.2))) (a.eval p.2):=by
  intro p hp';have hm:f (Al p.2)∈ps.map (·.2):=by rw[<-hps];simp only[List.map_map,List.mem_map];exact⟨p,hp',rfl⟩
  exact O4 h f1 f3 _ f7 _ _ (TE v1 hm) (TF v2 hm) (λn hn=>TD hm hn) (hr p.2)
 have hcp:∀qs:List (Nat×Operand),Kn (λj=>some (j*i.size,i.size)) qs=some (qs.map λ(j,x)=>(j*i.size,i.size,Al x)):=by intro qs;induction qs<;>grind[Kn]
 obtain⟨g1,g2,g3⟩:=Pu hrows (λr hr'=>by rw[List.eq_of_mem_replicate hr'];exact hzl);have hcells:RepL σ1 (List.replicate len zs).flatten ((Array.range (len*i.size)).map (z.cells[·%z.cells.size]!)).toList:=by
  refine My (by simp[hzl]) λj c hj=>?_
  rw[PX hzl h0.1]at hj;split at hj
  ·rename_i hlt;have hm:j%i.size<i.size:=A17 _ h0.1;rw[e5,A07]at hj;refine⟨z.cells[j%i.size]!,?_,?_⟩
   ·simp[hlt,e4]
   ·rw[<-e4]at hm;simp only[e4]at hm hj;cases hzc:z.cells.toList[j%i.size]? with
    |none=>rw[hzc]at hj;simp at hj
    |some x=>
     rw[hzc]at hj;simp at hj;subst hj;have:z.cells[j%i.size]! =x:=by simp at hzc;rw[getElem!_def];simp[hzc]
     rw[this];exact MA σ1 x
  ·simp at hj
 have hone:∀x∈((Array.range (len*i.size)).map (z.cells[·%z.cells.size]!)).toList,Bp x=true:=by intro x hx;simp only[Array.toList_map,List.mem_map]at hx;obtain⟨j,_,rfl⟩:=hx;have hm:j%z.cells.size<z.cells.size:=A17 _ (by omega);have hg:z.cells[j%z.cells.size]! =z.cells[j%z.cells.size]'hm:=getElem!_pos z.cells _ hm;grind
 have hfm:(parts.toList.map λ(j,x)=>(j*i.size,i.size,Al x)).map (λ(o,s,x)=>(o,s,res hp (f x)))=(ps.map λ(j,x)=>(j,res hp x)).map λ(j,x)=>(j*i.size,i.size,x):=by rw[<-hps];simp[List.map_map,Function.comp_def]
 obtain⟨cells',m1,m2,m3⟩:=M6 (U:=σ1) (f:=λx=>res hp (f x)) (hcp parts.toList) hrep (by rw[hfm];exact g1) hcells hone;have hrl:rows.length=len:=by rw[g3];simp
 have hnm1:¬σ1.al nm:=λhc=>hnm (f4 nm hc)
 have hml:=Bx m2;have hfl:=Mq g2;obtain⟨k1,k2⟩:=f2.newArr (d:=zs) (us:=[]) (T:=e) hnm1 h0.1 m2 m3 g2 (λr hr=>List.all_eq_true.1 v3 r hr) (w6 _) (by rw[A05,hml,hfl];exact w6 _);rw[A05,Array.toArray_toList,f3]at k1 k2;refine .inl ⟨.slice (some ⟨U.w.heap.size,0,none⟩) len len,_,_,.inl ?_,⟨f1.trans k1,k2,rfl,λm hm=>hm.elim (λh=>.inl (f4 m h)) .inr⟩,?_⟩
 ·have hfill:Instr.fill (λj=>some (j*i.size,i.size)) ((Array.range (len*i.size)).map (z.cells[·%z.cells.size]!)) (parts.map λ(j,x)=>(j,a.eval x)).toList=some cells':=by rw[Array.toList_map];exact m1
  have h24:¬(2^24<len*i.size):=by omega
  by_cases hl0:len*i.size=0
  ·have hr0:(Array.range (len*i.size)).map ((#[]:Array Value)[·%(#[]:Array Value).size]!)=(Array.range (len*i.size)).map (z.cells[·%z.cells.size]!):=by simp[hl0]
   rw[<-hr0]at hfill;simp[execOp,ho,Instr.buildSlice,run_underlying ht,Ed hi,h24,hl0]
   simp_all[newRow,Cf.setArr]
  ·simp[execOp,ho,Instr.buildSlice,run_underlying ht,Ed hi,h24,hl0,zeroValue,typeInfo,hi,e2]
   simp_all[newRow,Cf.setArr]
 ·simp[Rep,Cf.setArr,Bp,hrl]
theorem PY{z:Value}{zs:List AV}{sz:Nat}(h0:0<sz)(e3:∀x∈z.cells.toList,Bp x=true)(e4:z.cells.size=sz)(e5:zs=z.cells.toList.map IU)(len:Nat):RepL U (List.replicate len zs).flatten (Builtin.zeroCells z.cells len).toList/\(∀x∈(Builtin.zeroCells z.cells len).toList,Bp x=true)/\AA zs=true:=by
 have hzl:zs.length=sz:=by rw[e5];simp[e4]
 refine⟨?_,?_,?_⟩
 ·unfold Builtin.zeroCells;refine My (by simp[hzl,e4]) λj c hj=>?_
  rw[PX hzl h0]at hj;split at hj
  ·rename_i hlt;rw[e5,A07]at hj;refine⟨z.cells[j%sz]!,?_,?_⟩
   ·simp[hlt,e4]
   ·cases hzc:z.cells.toList[j%sz]? with
    |none=>rw[hzc]at hj;simp at hj
    |some x=>
     rw[hzc]at hj;simp at hj;subst hj;have:z.cells[j%sz]! =x:=by grind
     rw[this];exact MA _ x
  ·simp at hj
 ·intro x hx;unfold Builtin.zeroCells at hx;simp at hx;obtain⟨j,_,rfl⟩:=hx;have hm:j%z.cells.size<z.cells.size:=A17 _ (by omega);grind
 ·rw[e5];have:∀l:List Value,AA (l.map IU)=true:=by
   intro l;induction l with
   |nil=>rfl
   |cons v l ih=>simp only[w5,AA,ih];unfold IU;split<;>rfl
  exact this _
theorem Vj{P:Program}{w:World}(t tx ty e:TypeId)(i:TypeInfo)(z:Value){kk:IntKind}(ht:P.underlying t=some (.slice e))(hx:P.underlying tx=some (.int kk))(hi:P.info? e=some i)(hz:i.zero=some z)(sb:Option Addr)(n:Int)(hn:0<n)(hb:n*i.bytes<=140737488355328)(hb0:0<i.bytes)(hs0:0<i.size):(Builtin.append_ #[t,tx] ty #[.slice sb 0 0,.int .i64 n]).run P w=.ok (.slice (some ⟨w.heap.size,0,none⟩) n.toNat (grownCap w n.toNat 0 e)) (w.drew.alloc (.cells (Builtin.zeroCells z.cells n.toNat++Builtin.zeroCells z.cells (grownCap w n.toNat 0 e-n.toNat)) e)):=by
 have hnb:n<=n*i.bytes:=by have:=Int.mul_le_mul_of_nonneg_left (a:=(1:Int)) (b:=(i.bytes:Int)) (c:=n) (by omega) (by omega);omega
 have hw:IntKind.i64.wrap n=n:=M1 (k:=.i64) ⟨by omega,by omega⟩;have h0:¬n<0:=by omega
 have h1:¬n.toNat<=0:=by omega
 have hpos:¬n<=0:=by omega
 have hne:=by omega
 have h48:¬(281474976710656<n*i.bytes):=by omega
 have h63:¬(9223372036854775807<(n.toNat)):=by omega
 have h63':¬(9223372036854775807<max n 0):=by omega
 have hb':n.toNat*i.bytes<=140737488355328:=by grind
 have h48':¬(281474976710656<Builtin.nextslicecap n.toNat 0*i.bytes):=by have:=growslice_fits (old:=0) (by omega) hb';omega
 have hs:=by omega
 have hf:∀w,(Builtin.firstCells i.size 0 (.slice sb 0 0)).run P w=.ok #[] w:=λw=>GU (.inl rfl) i.size 0 0 0 (by simp)
 simp[Builtin.append_,run_underlying ht,run_underlying hx,sizeOf,typeInfo,zeroValue,hi,hz,hw,h0,h1,hpos,hne,h48,h63,h63',h48',hs,Question.forced,hf,newRow,grownCap,asInt,asIntOf]
 simp_all[Nat.ne_of_gt]
theorem Yp(h:HInv U hp)(hnm:¬U.al nm){c:Call}{s x:Operand}{X Y:AV}{t t' e:TypeId}{kk:IntKind}{i:TypeInfo}{zs:List AV}(ho:o.op=.call c)(hc:c.callee=.builtin .append)(ha:c.args.toList=[s,x])(hat:c.argTypes.toList=[t,t'])(ht:P.underlying t=some (.slice e))(ht':P.underlying t'=some (.int kk))(hi:P.info? e=some i)(hz:Gk P e=some zs)(h0:0<i.size/\0<i.bytes)(hx:Rep U X (a.eval s))(hy:Rep U Y (a.eval x))(hex:Qi nm i.size i.bytes zs X Y=some (vc,r,ws))(hvc:vc):Step P o a U nm (ws++hp) r:=by
 have ha':c.args=#[s,x]:=by grind
 have hat':c.argTypes=#[t,t']:=by grind
 obtain⟨i',z,e1,e2,e3,e4,e5⟩:=Gm hz;rw[hi]at e1;cases e1
 unfold Qi at hex;split at hex
 ·rename_i sz0 d0 k n;obtain⟨rfl,rfl,rfl⟩:=hex;obtain⟨rfl,v1,v2⟩:=hvc;simp only[Rep]at hx;obtain⟨base,cap,q1,_,q3,_⟩:=hx;have hc0:=q3 trivial;subst hc0;have q2:=Ee (X:=.un) hy;have hrun:=Vj (w:=U.w) t t' o.type e i z ht ht' hi e2 base n v1 v2 h0.2 h0.1;obtain⟨len,hlen⟩:∃len,n.toNat=len:=⟨_,rfl⟩
  rw[hlen]at hrun⊢;have hw:∀(b:Nat)(o:Obj),U.w.heap[b]? =some o->U.w.drew.heap[b]? =some o:=λb o hb=>hb
  have h':=h.at hw ⟨rfl,rfl⟩;have e':=Evo.at hw ⟨rfl,rfl⟩;obtain⟨hcells,hone,hpz⟩:=PY h0.1 e3 e4 e5 len;have hcg:=Pp U.w len 0 e;obtain⟨k1,k2⟩:=h'.newArr (us:=(Builtin.zeroCells z.cells (grownCap U.w len 0 e-len)).toList) hnm h0.1 hcells hone
   (by grind) (by grind) (by simpa using hcg)
   (by rw[w9];simp only[Array.length_toList,size_zeroCells,<-Nat.add_mul];grind)
  have hblk:(Builtin.zeroCells z.cells len++Builtin.zeroCells z.cells (grownCap U.w len 0 e-len))=((Builtin.zeroCells z.cells len).toList++(Builtin.zeroCells z.cells (grownCap U.w len 0 e-len)).toList).toArray:=by simp
  refine .inl ⟨.slice (some ⟨U.w.heap.size,0,none⟩) len (grownCap U.w len 0 e),U.w.drew.alloc (.cells (Builtin.zeroCells z.cells len++Builtin.zeroCells z.cells (grownCap U.w len 0 e-len)) e),_,.inl ?_,⟨e'.trans k1,k2,?_,λm hm=>hm⟩,?_⟩
  ·simp[execOp,ho,resolve,hc,invoke,builtin,ha',hat',q1,q2,hrun]
  ·simp only[Cf.setArr,Cf.at];rw[hblk]
  ·simp[Rep,Cf.setArr,Bp,Cf.at]
 ·simp at hex
theorem bZ(h:HInv U hp)(hnm:¬U.al nm){x y:Operand}{X Y:AV}{t e:TypeId}{i:TypeInfo}{zs:List AV}(ho:o.op=.makeSlice t x y)(ht:P.underlying t=some (.slice e))(hi:P.info? e=some i)(hz:Gk P e=some zs)(h0:0<i.size/\0<i.bytes)(hx:Rep U X (a.eval x))(hy:Rep U Y (a.eval y))(hex:SY nm i.size i.bytes zs X Y=some (vc,r,ws))(hvc:vc):Step P o a U nm (ws++hp) r:=by
 obtain⟨i',z,e1,e2,e3,e4,e5⟩:=Gm hz;rw[hi]at e1;cases e1
 unfold SY at hex;split at hex
 ·rename_i k n k' c;obtain⟨rfl,rfl,rfl⟩:=hex;obtain⟨rfl,v1,v2,v3⟩:=hvc;have hrun:=run_make U.w t e i z ht hi e2 k k' n n (by omega) (Int.le_refl _) (by rw[Int.mul_comm];omega) v3;obtain⟨len,hlen⟩:∃len,n.toNat=len:=⟨_,rfl⟩
  rw[hlen]at hrun⊢;obtain⟨hcells,hone,hpz⟩:=PY h0.1 e3 e4 e5 len;have hmk:madeCells z.cells (len*i.size)=Builtin.zeroCells z.cells len:=by unfold madeCells Builtin.zeroCells;rw[e4]
  obtain⟨k1,k2⟩:=h.newArr (us:=[]) (T:=e) (cap:=len) hnm h0.1 hcells hone
   (by grind) (by grind) (by simp)
   (by simp[size_zeroCells,e4])
  refine .inl ⟨.slice (some ⟨U.w.heap.size,0,none⟩) len len,_,_,.inl ?_,⟨k1,k2,rfl,λm hm=>hm⟩,?_⟩;all_goals simp_all[execOp,Cf.setArr,Rep,Bp]
 ·simp at hex
theorem IW{X:AV}{v:Value}{n:Int}(hx:Rep U X v)(ha:Ti X=some n)(y:Nat)(code:BoundsCode)(h0:0<=n)(h1:n<=y)(w:World):(Instr.sliceBound v y code).run P w=.ok n.toNat w:=by
 unfold Ti at ha;split at ha
 ·have e:=Ee (X:=.un) hx
  simp_all[Instr.sliceBound,asIntOf]
 ·simp at ha
theorem N4{full:Bool}{rows rs:List (List AV)}{lo hi mx:Option AV}{lv hv mv:Option Value}{f:Bool}{p:Prop}{cap:Nat}(hex:NR full rows lo hi mx=some (p,f,rs))(hp:p)(hlo:∀x,lo=some x->∃v,lv=some v/\Rep U x v)(hlo':lo=none->lv=none)(hhi:∀x,hi=some x->∃v,hv=some v/\Rep U x v)(hhi':hi=none->hv=none)(hmx:∀x,mx=some x->∃v,mv=some v/\Rep U x v)(hmx':mx=none->mv=none)(hcap:rows.length<=cap)(hfull:full=true->cap=rows.length):∃l h m:Nat,(Instr.sliceBounds true rows.length cap lv hv mv).run P U.w=.ok (l,h,m) U.w/\l<=h/\h<=m/\m<=cap/\h<=rows.length/\rs=(rows.drop l).take (h-l)/\(f=true->m=h):=by
 have Oq:∀(n:Int)(h:Nat)(c:BoundsCode),iJ lo=some n->0<=n->n<=h->(lv=none/\n=0)\/∃v,lv=some v/\(Instr.sliceBound v h c).run P U.w=.ok n.toNat U.w:=by
  intro n h c h1 h2 h3;cases hlc:lo with
  |none=>simp[iJ]at h1;grind
  |some x=>rw[hlc]at h1;obtain⟨v,e1,e2⟩:=hlo x hlc;exact .inr ⟨v,e1,IW e2 h1 h c h2 h3 _⟩
 unfold NR at hex;split at hex
 ·rename_i l hl;obtain⟨rfl,rfl,rfl⟩:=hex;have hl2:=Oq l rows.length .sliceB hl hp.1 (by omega);refine⟨l.toNat,rows.length,cap,?_,by omega,hcap,w6 _,w6 _,?_,hfull⟩
  ·rcases hl2 with⟨rfl,rfl⟩|⟨v,rfl,hl3⟩
   all_goals simp_all[Instr.sliceBounds]
  grind[List.take_of_length_le]
 ·rename_i l h hl;obtain⟨v,e1,e3⟩:=hhi h rfl;split at hex
  ·rename_i h' hh;obtain⟨rfl,rfl,rfl⟩:=hex;have hh2:=IW (P:=P) e3 hh cap .sliceAcap (by omega) (by omega) U.w;have hl2:=Oq l h'.toNat .sliceB hl hp.1 (by omega);refine⟨l.toNat,h'.toNat,cap,?_,by omega,by omega,w6 _,by omega,rfl,?_⟩
   ·rcases hl2 with⟨rfl,rfl⟩|⟨v,rfl,hl3⟩
    all_goals simp_all[Instr.sliceBounds]
   grind
  ·simp at hex
 ·rename_i l h m hl;obtain⟨v,e1,e3⟩:=hhi h rfl;obtain⟨u,e2,e4⟩:=hmx m rfl;split at hex
  ·rename_i h' m' hh hm;obtain⟨rfl,rfl,rfl⟩:=hex;have hm2:=IW (P:=P) e4 hm cap .slice3Acap (by omega) (by omega) U.w;have hh2:=IW (P:=P) e3 hh m'.toNat .slice3B (by omega) (by omega) U.w;have hl2:=Oq l h'.toNat .slice3C hl hp.1 (by omega);refine⟨l.toNat,h'.toNat,m'.toNat,?_,by omega,by omega,by omega,by omega,rfl,?_⟩
   ·rcases hl2 with⟨rfl,rfl⟩|⟨v,rfl,hl3⟩
    all_goals simp_all[Instr.sliceBounds]
   grind
  ·simp at hex
 ·simp at hex
theorem TG{sz l h m:Nat}{f:Bool}{rows:List (List AV)}{d:List AV}{base:Option Addr}(hpu:∀r∈rows,AA r=true)(hrow:rows=[]\/∃b k,base=some ⟨b,k,none⟩/\Fz U b/\RepRows U sz b k rows)(h1:l<=h)(h2:h<=m)(h3:h<=rows.length)(hf:f=true->m=h):Rep U (.sl sz f ((rows.drop l).take (h-l)) d) (.slice (if m=l then base else base.map (·.add (l*sz))) (h-l) (m-l)):=by
 have hlen:((rows.drop l).take (h-l)).length=h-l:=by simp;omega
 refine⟨_,m-l,by rw[hlen],by omega,by grind,by grind,?_⟩;by_cases he:h=l
 ·simp_all
 ·right;rcases hrow with rfl|⟨b,k,rfl,k1,k2⟩
  ·simp at h3;omega
  ·refine⟨b,k+l*sz,?_,k1,H6 λi r hi=>?_⟩
   ·rw[t7 (by omega)];simp[HN]
   ·have hil:=(y5.1 hi).1;rw[hlen]at hil;rw[List.getElem?_take_of_lt hil,A48]at hi;have:=FR k2 (l+i) r hi;rw[Nat.add_mul,<-A15]at this;exact this
theorem TH(h:HInv U hp){t e:TypeId}{x:Operand}{lo hi mx:Option Operand}{X:AV}{i:TypeInfo}{f:Operand->AV}(ho:o.op=.slice t x lo hi mx)(ht:P.underlying t=some (.slice e))(hi':P.info? e=some i)(hx:Rep U X (a.eval x))(hr:∀x,Rep U (f x) (a.eval x))(hex:LY hp i.size X (lo.map f) (hi.map f) (mx.map f)=some (vc,r,ws))(hvc:vc):Step P o a U nm (ws++hp) r:=by
 have bnd:∀y:Option Operand,(∀x,y.map f=some x->∃v,y.map a.eval=some v/\Rep U x v)/\(y.map f=none->y.map a.eval=none):=by intro y;cases y<;>grind
 have run:∀(base:Option Addr)(n cap l h' m:Nat),a.eval x=.slice base n cap->(Instr.sliceBounds true n cap (lo.map a.eval) (hi.map a.eval) (mx.map a.eval)).run P U.w=.ok (l,h',m) U.w->(execOp a.eval o).run P U.w=.ok (.value (.slice (if m=l then base else base.map (·.add (l*i.size))) (h'-l) (m-l))) U.w:=by simp_all[execOp,Instr.sliceAt,Instr.slice,run_underlying,Ed]
 unfold LY at hex;split at hex
 ·split at hex
  ·rename_i p fl rs hs;obtain⟨rfl,rfl,rfl⟩:=hex;obtain⟨base,cap,e1,e2,e3,e4,e5⟩:=hx;obtain⟨l,h',m,g1,g2,g3,g4,g5,rfl,g7⟩:=N4 hs hvc.2 (bnd lo).1 (bnd lo).2 (bnd hi).1 (bnd hi).2 (bnd mx).1 (bnd mx).2 e2 e3;refine Step.quiet h (run _ _ _ l h' m e1 g1) ?_;rcases hvc.1 with rfl|rfl
   ·exact TG e4 e5 g2 g3 g5 g7
   ·simp only[Rep];grind
  ·simp at hex
 ·rename_i n l0;cases hsn:GG n with
  |true=>rw[hsn]at hex;cases hex
  |false=>
  rw[hsn,A12]at hex;split at hex
  ·rename_i sz' live rows d hn;split at hex
   ·rename_i p fl rs hs;obtain⟨rfl,rfl,rfl⟩:=hex;obtain⟨rfl,v2,v3⟩:=hvc;obtain⟨σ1,f1,f2,f3,f4,f5,f6,f7,f8⟩:=h.frz [n];have hsl:=O3 h f1 f3 hsn hn v2 hx (f7 n (by simp));obtain⟨base,cap,e1,e2,e3,e4,e5⟩:=hsl;obtain⟨l,h',m,g1,g2,g3,g4,g5,rfl,g7⟩:=N4 (P:=P) hs v3 (bnd lo).1 (bnd lo).2 (bnd hi).1 (bnd hi).2 (bnd mx).1 (bnd mx).2 e2 (by simp);exact .inl ⟨_,U.w,σ1,by grind,⟨f1,f2,f3,by grind⟩,TG e4 e5 g2 g3 g5 g7⟩
   ·simp at hex
  ·simp at hex
 ·simp at hex
def Cf.move(U:Cf)(n m:Nm)(k:Nat):Cf:={U with ra:=λj=>if j=m then U.ra n else U.ra j,al:=λj=>U.al j\/j=m,ln:=λj=>if j=m then some k else if j=n then none else U.ln j}
theorem Evo.move{U:Cf}{n m:Nm}{k:Nat}(hm:¬U.al m):Evo U (U.move n m k) where
 box j hj:=⟨.inl hj,rfl⟩
 arr j hj l hl:=by
  have:¬j=m:=by rintro rfl;exact hm hj
  simp only[Cf.move,t7 this]at hl⊢;split at hl
  ·cases hl
  ·exact⟨l,hl,w6 _,λ_=>trivial⟩
 fro b o h h':=⟨h,h'⟩
 out:=rfl
 sz:=w6 _
 io:=SameO.refl _
theorem RepRows.take{U:Cf}{sz b:Nat}:∀{rs:List (List AV)}{o k:Nat},RepRows U sz b o rs->RepRows U sz b o (rs.take k)
 |[],o,k,h=>by simp[RepRows]
 |r::rs,o,0,h=>by simp[RepRows]
 |r::rs,o,k+1,h=>by exact⟨h.1,h.2.1,RepRows.take h.2.2⟩
theorem HInv.move{U:Cf}{hp:Hp}(h:HInv U hp){n m:Nm}(hsn:GG n=false)(hm:¬U.al m){sz:Nat}{rows:List (List AV)}{d:List AV}{k:Nat}(hn:hl hp (.a n)=some (.sl sz true rows d))(hk:k<=rows.length):HInv (U.move n m k) ((.a m,.sl sz true (rows.take k) d)::(.a n,.un)::hp):=by
 have ev:=Evo.move (n:=n) (k:=k) hm;have hA:=h.arr n sz true rows d hn;have ha:∀p,hl ((.a m,.sl sz true (rows.take k) d)::(.a n,.un)::hp) (.a p)=if p=m then some (.sl sz true (rows.take k) d)else if p=n then some .un else hl hp (.a p):=λp=>by simp only[hl];grind
 refine⟨λp=>?_,λp j c hh=>?_,λp sz' live' rows' d' hh=>?_,λp q b hp' hq'=>?_,h.lt,h.ou,h.dis⟩
 ·unfold lenOf;rw[ha];simp only[Cf.move];by_cases e:p=m
  ·rw[t8 e,t8 e];simp;omega
  ·rw[t7 e,t7 e];by_cases e2:p=n
   ·rw[t8 e2,t8 e2]
   ·rw[t7 e2,t7 e2];exact h.ln p
 ·have q:=h.cel p j c hh;exact q.keep ev q.2.1 rfl
 ·rw[ha]at hh;by_cases e:p=m
  ·subst e;rw[t8 rfl]at hh;cases hh
   obtain⟨q1,q2,q3,q4⟩:=hA;refine⟨.inr rfl,q2,by grind,?_⟩;rcases q4 with⟨a,g1,rfl⟩|⟨b,o,cap,g1,g2,g3,g4,g5,g6⟩
   ·simp_all[Cf.move]
   ·refine .inr ⟨b,o,cap,by simp[Cf.move,g1],g2,by simp;omega,?_,g5,by grind⟩;exact(g4.keep ev λj x _ hx=>hx).take
  ·rw[t7 e]at hh;by_cases e2:p=n
   ·rw[t8 e2]at hh;cases hh
   ·rw[t7 e2]at hh;exact(h.arr p sz' live' rows' d' hh).keep ev (by simp[Cf.move,e]) λ_ _ _ _ _ _ hM=>⟨hM,rfl⟩
 ·have key:∀p b,Owns (U.move n m k) ((.a m,.sl sz true (rows.take k) d)::(.a n,.un)::hp) p b->(p=(true,m)/\Owns U hp (true,n) b)\/(p≠(true,m)/\p≠(true,n)/\Owns U hp p b):=by
   rintro⟨f,p⟩ b (⟨h1,h2,j,c,h3⟩|⟨h1,⟨sz',rows',d',h2⟩,o,cap,h3,h4⟩)
   ·subst h1;exact .inr ⟨by simp,by simp,.inl ⟨rfl,h2,j,c,h3⟩⟩
   ·subst h1;rw[ha]at h2;by_cases e:p=m
    ·subst e;exact .inl ⟨rfl,.inr ⟨rfl,⟨_,_,_,hn⟩,o,cap,by simpa[Cf.move]using h3,h4⟩⟩
    ·rw[t7 e]at h2;by_cases e2:p=n
     ·rw[t8 e2]at h2;cases h2
     ·rw[t7 e2]at h2;exact .inr ⟨by simp[e],by simp[e2],.inr ⟨rfl,⟨_,_,_,h2⟩,o,cap,by simpa[Cf.move,e]using h3,h4⟩⟩
  rcases key p b hp' with⟨rfl,a1⟩|⟨a0,a2,a1⟩<;>rcases key q b hq' with⟨rfl,b1⟩|⟨b0,b2,b1⟩
  ·rfl
  ·exact absurd (h.inj _ _ _ a1 b1).symm b2
  ·exact absurd (h.inj _ _ _ a1 b1) a2
  ·exact h.inj _ _ _ a1 b1
theorem Yq(h:HInv U hp)(hnm:¬U.al nm){t e:TypeId}{x:Operand}{lo hi mx:Option Operand}{X:AV}{i:TypeInfo}{f:Operand->AV}(ho:o.op=.slice t x lo hi mx)(ht:P.underlying t=some (.slice e))(hi':P.info? e=some i)(hx:Rep U X (a.eval x))(hr:∀x,Rep U (f x) (a.eval x))(hex:Lq hp nm i.size X (lo.map f) (hi.map f) (mx.map f)=some (vc,r,ws))(hvc:vc):Step P o a U nm (ws++hp) r:=by
 unfold Lq at hex;split at hex
 ·rename_i n l kk k e1 e2 e3;cases hsn:GG n with
  |true=>rw[hsn]at hex;cases hex
  |false=>
  rw[hsn,A12]at hex;split at hex
  ·rename_i sz' live rows d hn;obtain⟨rfl,rfl,rfl⟩:=hex;obtain⟨rfl,v2,rfl,v4,v5⟩:=hvc;have hlo:lo=none:=by simp_all
   have hmx:mx=none:=by simp_all
   obtain⟨y,rfl,hy⟩:∃y,hi=some y/\f y=.v (.int kk k):=by simp_all
   subst hlo hmx;have hv:=Hb h hn hx v2;have hy':=hr y;rw[hy]at hy';have hA:=h.arr n i.size true rows d hn;have hcap:rows.length<=(U.ra n).2:=by
    rcases hA.2.2.2 with⟨a,g1,rfl⟩|⟨b,o,cap,g1,_,g3,_⟩
    all_goals grind
   have hb:(Instr.sliceBounds true rows.length (U.ra n).2 none (some (a.eval y)) none).run P U.w=.ok (0,k.toNat,(U.ra n).2) U.w:=by simp[Instr.sliceBounds,IW hy' rfl (U.ra n).2 .sliceAcap v4 (by omega)]
   have ev:=Evo.move (n:=n) (k:=k.toNat) hnm;refine .inl ⟨.slice (U.ra n).1 k.toNat (U.ra n).2,U.w,U.move n nm k.toNat,.inl ?_,⟨ev,h.move hsn hnm hn (by omega),rfl,λm hm=>hm⟩,?_⟩
   ·simp[execOp,ho,Instr.sliceAt,Instr.slice,run_underlying ht,hv,hb,Ed hi',Addr.add]
   ·simp[Rep,Cf.move,Bp];try omega
  ·simp at hex
 grind[TH]
theorem GV{p:PK}{Xs:List AV}{vc:Prop}{r:AV}{ws:Hp}(h:vr (BX p Xs)=some (vc,r,ws)):ws=[]/\BX p Xs=some (vc,r):=by unfold vr at h;grind
theorem cC(s t:ByteArray):(s.toList==t.toList)=decide (bL s=bL t):=by rw[ByteArray.toList_eq,ByteArray.toList_eq];all_goals grind[bL]
theorem Qv(s:ByteArray):(bL s).length=s.size:=rfl
theorem M7(s:ByteArray)(l h:Nat):s.extract l h=sB (((bL s).drop l).take (h-l)):=by rw[<-MS (s.extract l h)];simp[bL]
theorem Fj{v u:Value}(h:Rep U (.v v) u):u=v:=by simpa[Rep]using h
theorem cD(h:HInv U hp){t yt:TypeId}{op:BinOp}{x y:Operand}{X Y:AV}(hop:op=.shl\/op=.shr)(ho:o.op=.binOp op t x y yt)(hx:Rep U X (a.eval x))(hy:Rep U Y (a.eval y))(hex:vr (BX (.shf op) [X,Y])=some (vc,r,ws))(hvc:vc):Step P o a U nm (ws++hp) r:=by
 obtain⟨rfl,he⟩:=GV hex;cases X with
 |v X=>cases X with
  |int k n=>cases Y with
   |v Y=>cases Y with
    |int k' m=>obtain⟨rfl,rfl⟩:=he;have e1:=Fj hx;have e2:=Fj hy;refine Step.quiet h (v:=.int k (D5 op k n m)) ?_ (by simp[Rep]);rcases hop with rfl|rfl<;>simp[execOp,ho,e1,e2,binOp,Op.shift,D5,Int.not_lt.2 hvc,eqGuard]
    |_=>simp[BX]at he
   |_=>simp[BX]at he
  |_=>simp[BX]at he
 |_=>simp[BX]at he
theorem Yr(h:HInv U hp){t yt:TypeId}{op:BinOp}{x y:Operand}{X Y:AV}(hop:op=.and\/op=.or\/op=.xor\/op=.andNot)(ho:o.op=.binOp op t x y yt)(hx:Rep U X (a.eval x))(hy:Rep U Y (a.eval y))(hex:vr (BX (.bits op) [X,Y])=some (vc,r,ws))(hvc:vc):Step P o a U nm (ws++hp) r:=by
 obtain⟨rfl,he⟩:=GV hex;cases X with
 |v X=>cases X with
  |int k n=>cases Y with
   |v Y=>cases Y with
    |int k' m=>obtain⟨rfl,rfl⟩:=he;have e1:=Fj hx;have e2:=Fj hy;subst hvc;refine Step.quiet h (v:=.int k (Ei op k n m)) ?_ (by simp[Rep]);rcases hop with rfl|rfl|rfl|rfl<;>simp[execOp,ho,e1,e2,binOp,Op.intBits,Ei,eqGuard]
    |_=>simp[BX]at he
   |_=>simp[BX]at he
  |_=>simp[BX]at he
 |_=>simp[BX]at he
theorem Yt(h:HInv U hp){t yt:TypeId}{x y:Operand}{X Y:AV}(ho:o.op=.binOp .add t x y yt)(hx:Rep U X (a.eval x))(hy:Rep U Y (a.eval y))(hex:vr (BX .scat [X,Y])=some (vc,r,ws))(hvc:vc):Step P o a U nm (ws++hp) r:=by
 obtain⟨rfl,he⟩:=GV hex;cases X with
 |v X=>cases X with
  |string s=>cases Y with
   |v Y=>cases Y with
    |string s'=>
     obtain⟨rfl,rfl⟩:=he;have e1:=Fj hx;have e2:=Fj hy;refine Step.quiet h (v:=.string (s++s')) ?_ ?_
     ·have:¬(((s.size+s'.size):Int)>IntKind.i64.max):=by rw[w9,Qv,Qv]at hvc;have:IntKind.i64.max=9223372036854775807:=rfl;omega
      simp_all[execOp,binOp,Op.stringOp,eqGuard]
     ·congr 2
    |_=>simp[BX]at he
   |_=>simp[BX]at he
  |_=>simp[BX]at he
 |_=>simp[BX]at he
theorem TI(h:HInv U hp){t yt:TypeId}{op:BinOp}{neg:Bool}{x y:Operand}{X Y:AV}(hop:op=.eql/\neg=false\/op=.neq/\neg=true)(ho:o.op=.binOp op t x y yt)(hx:Rep U X (a.eval x))(hy:Rep U Y (a.eval y))(hex:vr (BX (.seq neg) [X,Y])=some (vc,r,ws))(hvc:vc):Step P o a U nm (ws++hp) r:=by
 obtain⟨rfl,he⟩:=GV hex;cases X with
 |v X=>cases X with
  |string s=>cases Y with
   |v Y=>cases Y with
    |string s'=>obtain⟨rfl,rfl⟩:=he;have e1:=Fj hx;have e2:=Fj hy;refine Step.quiet h (v:=.bool (bif neg then !decide (bL s=bL s')else decide (bL s=bL s'))) ?_ (by simp[Rep]);rcases hop with⟨rfl,rfl⟩|⟨rfl,rfl⟩<;>simp[execOp,ho,e1,e2,binOp,Op.stringOp,eqGuard,cC]
    |_=>simp[BX]at he
   |_=>simp[BX]at he
  |_=>simp[BX]at he
 |_=>simp[BX]at he
theorem cH(h:HInv U hp){src dst:TypeId}{x:Operand}{X:AV}{k k':IntKind}(ho:o.op=.convert src dst x)(hs:P.underlying src=some (.int k'))(hd:P.underlying dst=some (.int k))(hx:Rep U X (a.eval x))(hex:vr (BX (.cvw k) [X])=some (vc,r,ws)):Step P o a U nm (ws++hp) r:=by
 obtain⟨rfl,he⟩:=GV hex;cases X with
 |v X=>cases X with
  |int k0 n=>
   obtain⟨_,rfl⟩:=he;have e:=Fj hx;refine Step.quiet h (v:=.int k (k.wrap n)) ?_ (by simp[Rep])
   simp_all[execOp,convert,Conv.intToInt,run_underlying]
  |_=>simp[BX]at he
 |_=>simp[BX]at he
theorem cI(h:HInv U hp){t:TypeId}{x:Operand}{X:AV}{fs:Array Field}(ho:o.op=.makeInterface t x)(hs:P.underlying t=some (.struct fs))(hx:Rep U X (a.eval x))(hex:vr (BX (.mkI t) [X])=some (vc,r,ws)):Step P o a U nm (ws++hp) r:=by
 obtain⟨rfl,he⟩:=GV hex;cases X with
 |agg cs=>cases cs with
  |nil=>
   obtain⟨_,rfl⟩:=he;simp only[Rep,RepL]at hx;refine Step.quiet h (v:=.iface t (.agg #[])) ?_ (by simp[Rep])
   simp_all[execOp,Instr.makeInterface,run_underlying]
  |cons _ _=>simp[BX]at he
 |_=>simp[BX]at he
theorem cJ(h:HInv U hp){t xt:TypeId}{x:Operand}{X:AV}{fs:Array Field}(ho:o.op=.typeAssert x xt t true)(hs:P.underlying t=some (.struct fs))(hz:VW P t=some (.agg []))(hx:Rep U X (a.eval x))(hex:vr (BX (.tas t) [X])=some (vc,r,ws))(hvc:vc):Step P o a U nm (ws++hp) r:=by
 obtain⟨rfl,he⟩:=GV hex;unfold BX at he;split at he
 case h_13 e1 e2=>
  cases e2
  obtain⟨rfl,rfl⟩:=he;have hx:=Fj hx;refine Step.quiet h (v:=.tuple #[.agg #[],.bool true]) ?_ ?_
  ·simp_all[execOp,Instr.typeAssert,run_underlying]
  ·simp only[Rep,RepL];grind
 case h_18 e1 e2=>
  cases e2
  obtain⟨_,rfl⟩:=he;have hx:=Fj hx;obtain⟨zv,z1,z2⟩:=Tx hz;refine Step.quiet h (v:=.tuple #[zv,.bool false]) ?_ ?_
  ·simp_all[execOp,Instr.typeAssert,run_underlying]
  ·have:=z2 U;simp only[Rep,RepL]at this⊢;grind
 all_goals first|(rename_i e1 _;cases e1)|cases he
theorem Yu(h:HInv U hp){c:Call}{x:Operand}{X:AV}{t:TypeId}(ho:o.op=.call c)(hc:c.callee=.builtin .len)(ha:c.args.toList=[x])(hat:c.argTypes.toList=[t])(ht:P.underlying t=some .string)(hx:Rep U X (a.eval x))(hex:vr (BX .slen [X])=some (vc,r,ws)):Step P o a U nm (ws++hp) r:=by
 obtain⟨rfl,he⟩:=GV hex;have h1:c.args=#[x]:=by grind
 have h2:c.argTypes=#[t]:=by grind
 cases X with
 |v X=>cases X with
  |string s=>obtain⟨_,rfl⟩:=he;have e:=Fj hx;refine Step.quiet h (v:=.int .i64 s.size) ?_ (by simp[Rep,Qv]);simp[execOp,ho,resolve,hc,h1,h2,e,invoke,builtin,Builtin.len_,run_underlying ht,goInt]
  |_=>simp[BX]at he
 |_=>simp[BX]at he
theorem Yv(h:HInv U hp){t:TypeId}{x ix:Operand}{X I:AV}(ho:o.op=.index t x ix)(ht:P.underlying t=some .string)(hx:Rep U X (a.eval x))(hi:Rep U I (a.eval ix))(hex:vr (BX .sidx [X,I])=some (vc,r,ws))(hvc:vc):Step P o a U nm (ws++hp) r:=by
 obtain⟨rfl,he⟩:=GV hex;cases X with
 |v X=>cases X with
  |string s=>cases I with
   |v I=>cases I with
    |int k i=>
     obtain⟨rfl,rfl⟩:=he;have e1:=Fj hx;have e2:=Fj hi;obtain⟨g1,g2⟩:=hvc;have hlt:=by rw[Qv]at g2;omega
     have hg:s[i.toNat]? =some s[i.toNat]:=by grind
     refine Step.quiet h (v:=.int .u8 s[i.toNat].toNat) ?_ ?_
     ·simp_all[execOp,Instr.index,asIntOf,run_underlying]
     ·rw[s9];have:(bL s)[i.toNat]? =some s[i.toNat]:=by rw[Array.getElem?_toList];assumption
      rw[this];rfl
    |_=>simp[BX]at he
   |_=>simp[BX]at he
  |_=>simp[BX]at he
 |_=>simp[BX]at he
theorem M8(h:HInv U hp){t:TypeId}{x:Operand}{lo hi:Option Operand}{X:AV}{f:Operand->AV}(ho:o.op=.slice t x lo hi none)(ht:P.underlying t=some .string)(hx:Rep U X (a.eval x))(hf:∀y,Rep U (f y) (a.eval y))(hex:vr (BX (.ssl lo.isSome hi.isSome) (X::((lo.map f).toList++(hi.map f).toList)))=some (vc,r,ws))(hvc:vc):Step P o a U nm (ws++hp) r:=by
 obtain⟨rfl,he⟩:=GV hex;have bad:∀{u:Operand}{Y:AV}(k:IntKind)(n:Int),f u=Y->Y=.v (.int k n)->a.eval u=.int k n:=by grind[Fj]
 have sb:∀(k:IntKind)(n:Int)(y:Nat)(cd:BoundsCode),0<=n->n<=y->(Instr.sliceBound (.int k n) y cd).run P U.w=.ok n.toNat U.w:=by simp_all[Instr.sliceBound,asIntOf]
 cases X with
 |v X=>cases X with
  |string s=>
   have e1:=Fj hx;have hsz:(bL s).length=s.size:=rfl;cases lo with
   |none=>cases hi with
    |none=>
     obtain⟨_,rfl⟩:=he;refine Step.quiet h (v:=.string (s.extract 0 s.size)) ?_ (by simp only[Rep];rw[ByteArray.extract_zero_size])
     simp_all[execOp,Instr.sliceAt,Instr.slice,Instr.sliceBounds,run_underlying]
    |some hh=>
     simp only[A50,w8,Option.map_none,Option.map_some,Option.toList_none,Option.toList_some,A02]at he;generalize hY:f hh=Y at he;cases Y with
     |v Y=>cases Y with
      |int k n=>obtain⟨rfl,rfl⟩:=he;have e2:=bad k n hY rfl;refine Step.quiet h (v:=.string (s.extract 0 n.toNat)) ?_ (by simp only[Rep];rw[M7];simp);simp[execOp,ho,Instr.sliceAt,Instr.slice,Instr.sliceBounds,run_underlying ht,e1,e2,sb k n s.size .sliceAlen hvc.1 hvc.2]
      |_=>simp[BX]at he
     |_=>simp[BX]at he
   |some ll=>cases hi with
    |none=>
     simp only[A50,w8,Option.map_none,Option.map_some,Option.toList_none,Option.toList_some,A05]at he;generalize hY:f ll=Y at he;cases Y with
     |v Y=>cases Y with
      |int k n=>
       obtain⟨rfl,rfl⟩:=he;have e2:=bad k n hY rfl;refine Step.quiet h (v:=.string (s.extract n.toNat s.size)) ?_ (by simp only[Rep];rw[M7,List.take_of_length_le (by rw[A11,hsz];omega)]);simp[execOp,ho,Instr.sliceAt,Instr.slice,Instr.sliceBounds,run_underlying ht,e1,e2,sb k n s.size .sliceB hvc.1 hvc.2]
      |_=>simp[BX]at he
     |_=>simp[BX]at he
    |some hh=>
     simp only[w8,Option.map_some,A10]at he;generalize hY:f ll=Y at he;generalize hZ:f hh=τ at he;cases Y with
     |v Y=>cases Y with
      |int k n=>cases τ with
       |v τ=>cases τ with
        |int k' m=>obtain⟨rfl,rfl⟩:=he;have e2:=bad k n hY rfl;have e3:=bad k' m hZ rfl;refine Step.quiet h (v:=.string (s.extract n.toNat m.toNat)) ?_ (by simp only[Rep];rw[M7]);simp[execOp,ho,Instr.sliceAt,Instr.slice,Instr.sliceBounds,run_underlying ht,e1,e2,e3,sb k' m s.size .sliceAlen (by omega) hvc.2.2,sb k n m.toNat .sliceB hvc.1 (by omega)]
        |_=>simp[BX]at he
       |_=>simp[BX]at he
      |_=>simp[BX]at he
     |_=>simp[BX]at he
  |_=>cases lo<;>cases hi<;>simp[BX]at he
 |_=>cases lo<;>cases hi<;>simp[BX]at he
theorem cM{y:Operand}(h:Al y=.k (.v .nilIface)):y=.const .nilIface:=by
 cases y with
 |const v=>
  simp only[Al]at h;unfold Tk at h;split at h
  ·split at h<;>simp at h
  ·unfold IU at h;grind
 |tmp n=>simp[Al]at h
 |global g=>simp[Al]at h
 |func f=>simp[Al]at h
theorem cN{y:Operand}(h:Al y=.k (.v (.pointer none))):y=.const (.pointer none):=by
 cases y with
 |const v=>
  simp only[Al]at h;unfold Tk at h;split at h
  ·split at h<;>simp at h
  ·unfold IU at h;grind
 |tmp n=>simp[Al]at h
 |global g=>simp[Al]at h
 |func f=>simp[Al]at h
theorem cQ{y:Operand}(h:Al y=.k (.v .nilFunc)):y=.const .nilFunc:=by
 cases y with
 |const v=>
  simp only[Al]at h;unfold Tk at h;split at h
  ·split at h<;>simp at h
  ·unfold IU at h;grind
 |tmp n=>simp[Al]at h
 |global g=>simp[Al]at h
 |func f=>simp[Al]at h
theorem Sa(h:HInv U hp){t yt:TypeId}{op:BinOp}{neg:Bool}{x y:Operand}{X:AV}{ms:Array (String×TypeId)}(hop:op=.eql/\neg=false\/op=.neq/\neg=true)(ho:o.op=.binOp op t x y yt)(hu:P.underlying t=some (.interface ms))(hy:Al y=.k (.v .nilIface))(hx:Rep U X (a.eval x))(hex:vr (BX (.inil neg) [X])=some (vc,r,ws)):Step P o a U nm (ws++hp) r:=by
 obtain⟨rfl,he⟩:=GV hex;have ey:=cM hy;subst ey;have ec:a.eval (.const .nilIface)=.nilIface:=rfl;have en:∀d w,(Op.equalIn (d+1) t .nilIface .nilIface).run P w=.ok true w:=λd w=>by simp[Op.equalIn,run_underlying hu]
 have es:∀d T v w,(Op.equalIn (d+1) t (.iface T v) .nilIface).run P w=.ok false w:=λd T v w=>by simp[Op.equalIn,run_underlying hu]
 cases X with
 |v X=>cases X with
  |nilIface=>obtain⟨_,rfl⟩:=he;have e1:=Fj hx;refine Step.quiet h (v:=.bool (!neg)) ?_ (by simp[Rep]);rcases hop with⟨rfl,rfl⟩|⟨rfl,rfl⟩<;>simp[execOp,ho,e1,ec,binOp,eqGuard,Op.equal,Op.maxDepth,en 9999]
  |iface T v=>obtain⟨_,rfl⟩:=he;have e1:=Fj hx;refine Step.quiet h (v:=.bool neg) ?_ (by simp[Rep]);rcases hop with⟨rfl,rfl⟩|⟨rfl,rfl⟩<;>simp[execOp,ho,e1,ec,binOp,eqGuard,Op.equal,Op.maxDepth,es 9999]
  |_=>simp[BX]at he
 |_=>simp[BX]at he
theorem Sb(h:HInv U hp){t yt e:TypeId}{op:BinOp}{neg:Bool}{x y:Operand}{X:AV}(hop:op=.eql/\neg=false\/op=.neq/\neg=true)(ho:o.op=.binOp op t x y yt)(hu:P.underlying t=some (.pointer e))(hy:Al y=.k (.v (.pointer none)))(hx:Rep U X (a.eval x))(hex:vr (BX (.pnil neg) [X])=some (vc,r,ws)):Step P o a U nm (ws++hp) r:=by
 obtain⟨rfl,he⟩:=GV hex;have ey:=cN hy;subst ey;have ec:a.eval (.const (.pointer none))=.pointer none:=rfl;have en:∀d p w,(Op.equalIn (d+1) t (.pointer p) (.pointer none)).run P w=.ok p.isNone w:=λd p w=>by cases p<;>simp[Op.equalIn,run_underlying hu]
 cases X with
 |v X=>cases X with
  |pointer p=>obtain⟨_,rfl⟩:=he;have e1:=Fj hx;refine Step.quiet h (v:=.bool (p.isNone !=neg)) ?_ (by simp[Rep]);rcases hop with⟨rfl,rfl⟩|⟨rfl,rfl⟩<;>simp[execOp,ho,e1,ec,binOp,eqGuard,Op.equal,Op.maxDepth,en 9999]
  |_=>simp[BX]at he
 |box n k=>obtain⟨_,rfl⟩:=he;have e1:=hx.2;refine Step.quiet h (v:=.bool neg) ?_ (by simp[Rep]);rcases hop with⟨rfl,rfl⟩|⟨rfl,rfl⟩<;>simp[execOp,ho,e1,ec,binOp,eqGuard,Op.equal,Op.maxDepth,en 9999]
 |_=>simp[BX]at he
theorem Sc(h:HInv U hp){t yt:TypeId}{op:BinOp}{neg:Bool}{x y:Operand}{X:AV}{ps rs:Array TypeId}{va:Bool}(hop:op=.eql/\neg=false\/op=.neq/\neg=true)(ho:o.op=.binOp op t x y yt)(hu:P.underlying t=some (.func ps rs va))(hy:Al y=.k (.v .nilFunc))(hx:Rep U X (a.eval x))(hex:vr (BX (.fnil neg) [X])=some (vc,r,ws)):Step P o a U nm (ws++hp) r:=by
 obtain⟨rfl,he⟩:=GV hex;have ey:=cQ hy;subst ey;have ec:a.eval (.const .nilFunc)=.nilFunc:=rfl;have en:∀d w,(Op.equalIn (d+1) t .nilFunc .nilFunc).run P w=.ok true w:=λd w=>by simp[Op.equalIn,run_underlying hu]
 have em:∀d f xs ys w,(Op.equalIn (d+1) t (.func f xs ys) .nilFunc).run P w=.ok false w:=λd f xs ys w=>by simp[Op.equalIn,run_underlying hu]
 cases X with
 |v X=>cases X with
  |nilFunc=>obtain⟨_,rfl⟩:=he;have e1:=Fj hx;refine Step.quiet h (v:=.bool (!neg)) ?_ (by simp[Rep]);rcases hop with⟨rfl,rfl⟩|⟨rfl,rfl⟩<;>simp[execOp,ho,e1,ec,binOp,eqGuard,Op.equal,Op.maxDepth,en 9999]
  |_=>simp[BX]at he
 |clo f xs ys=>obtain⟨_,rfl⟩:=he;obtain⟨us,vs,e1,_,_⟩:=hx;refine Step.quiet h (v:=.bool neg) ?_ (by simp[Rep]);rcases hop with⟨rfl,rfl⟩|⟨rfl,rfl⟩<;>simp[execOp,ho,e1,ec,binOp,eqGuard,Op.equal,Op.maxDepth,em 9999]
 |_=>simp[BX]at he
theorem TJ:∀{rows:List (List AV)}{vs:List Value},rows.all R3=true->RepL U rows.flatten vs->∃ns:List Int,vs=ns.map (Value.int .u8)/\rows.map PQ=ns.map λn=>UInt8.ofNat n.toNat
 |[],vs,_,hr=>by simp[RepL]at hr;simp_all
 |r::rows,vs,hb,hr=>by
  simp only[List.all_cons,y8]at hb;obtain⟨h1,h2⟩:=hb;unfold R3 at h1;split at h1
  ·rename_i n;obtain⟨y,ys,rfl,e1,e2⟩:=hr;obtain⟨ns,rfl,e3⟩:=TJ h2 e2;have:=Fj e1;subst this;exact⟨n::ns,rfl,by simp[e3,PQ]⟩
  ·cases h1
theorem cR(h:HInv U hp){src dst e:TypeId}{x:Operand}{X:AV}(ho:o.op=.convert src dst x)(hs:P.underlying src=some (.slice e))(hd:P.underlying dst=some .string)(hu:P.underlying e=some (.int .u8))(hx:Rep U X (a.eval x))(hex:MW hp X=some (vc,r,ws))(hvc:vc):Step P o a U nm (ws++hp) r:=by
 have run0:∀(l c:Nat),a.eval x=.slice none l c->(execOp a.eval o).run P U.w=.ok (.value (.string (sB []))) U.w:=by intro l c e1;simp only[execOp,ho,e1,Sem.run_bind,run_convert_bytes_nil U.w src e hs hu l c dst hd];rfl
 have run:∀(b k c sz:Nat)(rows:List (List AV)),sz=1->rows.all R3=true->RepRows U sz b k rows->a.eval x=.slice (some ⟨b,k,none⟩) rows.length c->(execOp a.eval o).run P U.w=.ok (.value (.string (sB (rows.map PQ)))) U.w:=by
  rintro b k c sz rows rfl hb hr e1;obtain⟨vs,g1,g2,g3,g4,g5⟩:=GS hr;obtain⟨ns,rfl,e3⟩:=TJ hb g1;have hl:=by simpa using g5
  have:=run_convert_bytes_arg U.w src e hs hu b k rows.length c ns hl (λi hi=>by have:=g3 i (.int .u8 (ns.getD i 0)) (by grind);exact this) dst hd;simp only[execOp,ho,e1,Sem.run_bind,this];rw[e3];rfl
 cases X with
 |sl sz f rows d=>
  obtain⟨rfl,rfl,rfl⟩:=hex;obtain⟨v1,v2⟩:=hvc;obtain⟨base,cap,e1,_,_,_,e4⟩:=hx;rcases e4 with rfl|⟨b,k,rfl,hf,hr⟩
  ·cases base with
   |none=>grind[Step.quiet,Rep]
   |some ad=>refine Step.quiet h (v:=.string (sB [])) ?_ (by simp[Rep]);have:=run_convert_bytes_back U.w src dst e ad cap [] hs hu hd (by simp);simp only[execOp,ho,e1];simp at this⊢;rw[this];rfl
  ·rcases v1 with v1|rfl
   ·grind[Step.quiet,Rep]
   ·exact Step.quiet h (run b k cap 1 [] rfl rfl (by simp[RepRows]) e1) (by simp[Rep])
 |own n l=>
  simp only[MW]at hex;split at hex
  ·rename_i sz live rows d hn;obtain⟨rfl,rfl,rfl⟩:=hex;obtain⟨rfl,v2,v3⟩:=hvc;have hv:=Hb h hn hx v2;have hA:=h.arr n 1 live rows d hn;rcases hA.2.2.2 with⟨ad,g1,rfl⟩|⟨b,k,cap,g1,_,_,g4,_⟩
   ·rw[g1]at hv;cases ad with
    |none=>grind[Step.quiet,Rep]
    |some ad=>refine Step.quiet h (v:=.string (sB [])) ?_ (by simp[Rep]);have:=run_convert_bytes_back U.w src dst e ad 0 [] hs hu hd (by simp);simp only[execOp,ho,hv];simp at this⊢;rw[this];rfl
   ·rw[g1]at hv;exact Step.quiet h (run b k cap 1 rows rfl v3 g4 hv) (by simp[Rep])
  ·simp at hex
 |_=>simp[MW]at hex
mutual
theorem HO{Z:Cf}:∀(x:AV)(v:Value),F1 x=true->Rep U x v->Rep Z x v
 |.v x,v,_,h=>by simpa[Rep]using h
 |.agg cs,v,hf,h=>by obtain⟨xs,h1,h2,h3⟩:=h;exact⟨xs,h1,h2,M9 cs xs (by simpa[F1]using hf) h3⟩
 |.tup cs,v,hf,h=>by obtain⟨xs,h1,h3⟩:=h;exact⟨xs,h1,M9 cs xs (by simpa[F1]using hf) h3⟩
 |.sl _ _ _ _,v,hf,_=>by simp[F1]at hf
 |.ro _ _,v,hf,_=>by simp[F1]at hf
 |.clo _ _ _,v,hf,_=>by simp[F1]at hf
 |.box _ _,v,hf,_=>by simp[F1]at hf
 |.own _ _,v,hf,_=>by simp[F1]at hf
 |.elem _ _ _ _ _,v,hf,_=>by simp[F1]at hf
 |.gd _ _,v,hf,_=>by simp[F1]at hf
 |.mp _,v,hf,_=>by simp[F1]at hf
 |.un,v,hf,_=>by simp[F1]at hf
theorem M9{Z:Cf}:∀(xs:List AV)(vs:List Value),G9 xs=true->RepL U xs vs->RepL Z xs vs
 |[],vs,_,h=>by simpa[RepL]using h
 |x::xs,vs,hf,h=>by simp only[G9,y8]at hf;obtain⟨y,ys,h1,h2,h3⟩:=h;exact⟨y,ys,h1,HO x y hf.1 h2,M9 xs ys hf.2 h3⟩
end
theorem FE{f:Nat}(hf:C0 P f)(args:Array Value)(w:World):(callFunc f args).run P w=.ok (.enter f args) w:=by
 obtain⟨fn,h1,h2,h3⟩:=hf;have h4:fn.name≠ "runtime.NumGoroutine" :=by simpa using h3
 have h5:fn.body≠none:=by intro e;simp[e]at h2
 unfold callFunc;simp[program,Sem.run,h1,h4,h5]
theorem L5{hp:Hp}{n:Nm}{k o j:Nat}{c:AV}(h:(CF hp n o k)[j]? =some c):hl hp (.c n (o+j))=some c:=Qo k o j c h
theorem VZ{n m:Nm}{j:Nat}:∀(us:List (Nat×AV)),m≠n->hl (I1 n us) (.c m j)=none
 |[],_=>rfl
 |u::us,h=>by
  have:=VZ (j:=j) us h
  simp_all[I1,hl,Ne.symm]
theorem N5{n m:Nm}:∀(us:List (Nat×AV)),hl (I1 n us) (.a m)=none
 |[]=>rfl
 |u::us=>by have:=N5 (n:=n) (m:=m) us;assumption
theorem Pv{n:Nm}{j:Nat}{c:AV}:∀(us:List (Nat×AV)),hl (I1 n us) (.c n j)=some c->c∈us.map (·.2)
 |[],h=>by simp[I1,hl]at h
 |u::us,h=>by
  simp only[I1,w5,hl]at h;split at h
  ·simp at h;simp[h]
  ·have:=Pv us h;grind
theorem Ko:∀{cs:List AV}{c:AV},G9 cs=true->c∈cs->F1 c=true
 |c::cs,x,h,hx=>by
  simp only[G9,y8]at h;rcases y6.1 hx with rfl|hx
  ·exact h.1
  ·exact Ko h.2 hx
def Cf.only(U:Cf)(n:Nm):Cf:={rb:=U.rb,ra:=U.ra,M:=λb=>b=U.rb n/\U.M b,O:=U.O,ln:=λ_=>none,al:=λm=>m=n/\U.al n,w:=U.w}
theorem Fz.only{U:Cf}{n:Nm}{b:Nat}(h:Fz U b):Fz (U.only n) b:=⟨λk=>h.1 k.2,h.2.1,h.2.2⟩
theorem Na{n:Nm}:∀{args:List AV}{vs:List Value},Hj args=true->Fh args=some n->RepL U args vs->RepL (U.only n) args vs
 |[],_,h,_,_=>by simp[Hj]at h
 |c::cs,vs,h1,h2,hr=>by
  obtain⟨y,ys,rfl,g1,g2⟩:=hr;refine⟨y,ys,rfl,?_⟩;have pu:∀(a:AV)(v:Value),BN a=true->Rep U a v->Rep (U.only n) a v:=λa v=>Rep.ofPure (λb hb=>hb.only) (λ_ _=>rfl) a v
  cases c with
  |box m o=>simp only[Fh,yE]at h2;subst h2;refine⟨?_,RepL.ofPure (λb hb=>hb.only) (λ_ _=>rfl) _ _ h1 g2⟩;exact⟨⟨rfl,g1.1⟩,g1.2⟩
  |_=>simp only[Hj,y8]at h1 h2;exact⟨pu _ _ h1.1 g1,Na h1.2 h2 g2⟩
theorem TL{c:AV}(h:F1 c=true):isM c=false:=by cases c<;>first|rfl|simp[F1]at h
theorem HInv.only(h:HInv U hp){n:Nm}{cells:List AV}(hc:∀j c,cells[j]? =some c->hl hp (.c n j)=some c)(hf:G9 cells=true):HInv (U.only n) (D6 n 0 cells):=by
 have key:∀m j c,hl (D6 n 0 cells) (.c m j)=some c->m=n/\hl hp (.c n j)=some c/\F1 c=true:=by
  intro m j c hm;rw[Mz]at hm;split at hm
  ·grind[Ko]
  ·cases hm
 refine⟨by grind[Cf.only,lenOf,G4],λm j c hm=>?_,by grind[G4],?_,λb hb=>h.lt b hb.2,h.ou,λb hb=>h.dis b hb.2⟩
 ·obtain⟨rfl,h1,h2⟩:=key m j c hm;obtain⟨k1,k2,cs,T,x,k3,k4,k5,k6⟩:=(h.cel _ _ _ h1).cells (TL h2);exact⟨⟨rfl,k1⟩,⟨rfl,k2⟩,.inl ⟨cs,T,x,k3,k4,k5,HO c x h2 k6⟩⟩
 grind[Owns,G4]
theorem HInv.back(h:HInv U hp){n:Nm}{cells:List AV}{us:List (Nat×AV)}{w':World}{σ':Cf}(hc:∀j c,cells[j]? =some c↔hl hp (.c n j)=some c)(hne:cells.isEmpty=false)(hf:G9 cells=true)(hu:G9 (us.map (·.2))=true)(hw:σ'.w=w')(ev:Evo (U.only n) σ')(hcel:∀j c,hl (I1 n us++D6 n 0 cells) (.c n j)=some c->CelF σ' n j c):Evo U (U.at w')/\HInv (U.at w') (I1 n us++hp):=by
 subst hw;have e:Evo U (U.at σ'.w):=⟨λ_ h=>⟨h,rfl⟩,λ_ _ l h=>⟨l,h,w6 _,λ_=>rfl⟩,λb o hb hM=>⟨(ev.fro b o hb λk=>hM k.2).1,hM⟩,rfl,ev.sz,ev.io⟩
 refine⟨e,?_⟩;obtain⟨c0,h0⟩:∃c0,cells[0]? =some c0:=by cases cells with|nil=>simp at hne|cons c _=>exact⟨c,rfl⟩
 have own:Owns U hp (false,n) (U.rb n):=.inl ⟨rfl,rfl,0,c0,(hc 0 c0).1 h0⟩;refine h.upd e (false,n) (λx hx hno=>⟨hx,?_⟩) (λl hl'=>?_) (λ_ _ _=>rfl) (λm=>?_) (λm j c hm hj=>?_) (λ_ _ _ _ _ h=>by cases h) (λx hx=>.inl ?_) (λb hb=>?_) ev.sz (λb h1 h2=>absurd h1 h2)
 ·have hlt:=h.lt x hx;have:=w7 hlt;rw[this];exact(ev.fro x _ this λk=>hno (k.1▸own)).1
 ·rw[I8];cases l with
  |c m j=>rw[VZ us (by rintro rfl;exact hl' rfl)];rfl
  |a m=>rw[N5];rfl
 ·simp only[lenOf,I8,N5];exact h.ln m
 ·cases hm
  have hj':hl (I1 n us++D6 n 0 cells) (.c n j)=some c/\F1 c=true:=by
   rw[I8]at hj⊢;cases hq:hl (I1 n us) (.c n j)with
   |some c'=>rw[hq]at hj;simp at hj;subst hj;exact⟨rfl,Ko hu (Pv us hq)⟩
   |none=>rw[hq]at hj;have:=(hc j c).2 hj;refine⟨?_,Ko hf (A14 this)⟩;rw[Mz,t8 ⟨rfl,A16 _⟩,Nat.sub_zero];exact this
  obtain⟨k1,k2,cs,T,x,k3,k4,k5,k6⟩:=(hcel j c hj'.1).cells (TL hj'.2);have hn:=h.cel n 0 c0 ((hc 0 c0).1 h0);have hb:=ev.box n ⟨rfl,hn.1⟩;rw[hb.2]at k3;exact⟨hn.1,hn.2.1,.inl ⟨cs,T,x,k3,k4,k5,HO c x hj'.2 k6⟩⟩
 ·rcases hx with⟨_,hx,_⟩|⟨hx,_⟩
  ·have:=hx;rw[<-this];exact own
  ·cases hx
 ·have:=h.lt b hb;exact A20 this ev.sz
def Cf.plus(U:Cf)(b:Nat)(w:World):Cf:={U with M:=λx=>U.M x\/x=b,w:=w}
def Cf.named(U:Cf)(n:Nm)(b:Nat)(w:World):Cf:={U with rb:=λm=>if m=n then b else U.rb m,M:=λx=>U.M x\/x=b,al:=λm=>U.al m\/m=n,w:=w}
theorem HInv.newMap(h:HInv U hp){n:Nm}(hn:¬U.al n){b:Nat}{w:World}{rows:List (List AV)}{es:Array MapEntry}(hw:∀(b:Nat) (o:Obj),U.w.heap[b]? =some o->w.heap[b]? =some o)(ho:SameO U.w w)(hb:U.w.heap.size<=b)(hm:w.heap[b]? =some (.map es es.size))(hp':∀r∈rows,AA r=true)(hr:RepEnts (U.plus b w) rows es.toList)(hborn:∀(i:Nat) (e:MapEntry),es[i]? =some e->e.born=i):Evo (U.plus b w) (U.named n b w)/\Evo U (U.named n b w)/\HInv (U.named n b w) ((.c n 0,Mx rows)::hp):=by
 have hsz:=Lk hw;have e0:Evo (U.plus b w) (U.named n b w):=⟨λm hm=>⟨.inl hm,t7 (by rintro rfl;exact hn hm)⟩,λ_ _ l h=>⟨l,h,w6 _,λ_=>rfl⟩,λ_ _ h k=>⟨h,k⟩,rfl,w6 _,SameO.refl _⟩
 have e:Evo U (U.named n b w):=⟨λm hm=>⟨.inl hm,t7 (by rintro rfl;exact hn hm)⟩,λ_ _ l h=>⟨l,h,w6 _,λ_=>rfl⟩,λx o hx hM=>⟨hw x o hx,by rintro(h|rfl);all_goals grind⟩,rfl,hsz,ho⟩
 refine⟨e0,e,?_⟩;have hold:∀x,U.M x->w.heap[x]? =U.w.heap[x]? :=λx hx=>by have:=h.lt x hx;grind
 refine h.upd e (false,n) (λx hx _=>⟨.inl hx,hold x hx⟩) (λl hl'=>?_) (λ_ _ _=>rfl) (λm=>?_) (λm j c hm' hc=>?_) (by grind) (λx hx=>.inr ?_) (λx hx=>?_) hsz (λx hx hn=>?_)
 ·simp only[hl];rw[t7 (by rintro rfl;exact hl' rfl)]
 ·exact h.ln m
 ·cases hm'
  simp only[hl,Loc.c.injEq,true_and]at hc;split at hc
  ·cases hc
   exact⟨.inr rfl,.inr (by simp[Cf.named]),.inr ⟨rows,es,⟨rfl,‹0=j›.symm⟩,by simpa[Cf.named]using hm,hp',hr.map λr vs=>RepL.mono e0 r vs,hborn⟩⟩
  ·exact(hn (h.cel n j c hc).1).elim
 ·rcases hx with⟨_,hx,_⟩|⟨hx,_⟩
  all_goals grind[Cf.named]
 ·rcases hx with hx|rfl
  ·exact A20 (h.lt x hx) hsz
  ·exact(u0.1 hm).1
 ·rcases hx with hx|rfl
  all_goals grind
theorem HInv.gone(h:HInv U hp){n:Nm}{sz:Nat}{rows:List (List AV)}{d:List AV}{b o cap:Nat}(hn:hl hp (.a n)=some (.sl sz true rows d))(hor:U.ra n=(some ⟨b,o,none⟩,cap)/\0<cap\/U.w.heap.size<=b){w':World}(hk:KeptB b U.w w'):Evo U {U with M:=λx=>U.M x/\x≠b,ln:=λm=>if m=n then none else U.ln m,w:=w'}/\HInv {U with M:=λx=>U.M x/\x≠b,ln:=λm=>if m=n then none else U.ln m,w:=w'} ((.a n,.un)::hp):=by
 have hMb:U.M b\/U.w.heap.size<=b:=by
  rcases hor with⟨hra,hcap⟩|hb
  ·obtain⟨a1,a2,a3,a4⟩:=h.arr n sz true rows d hn;grind
  ·exact .inr hb
 have e:Evo U {U with M:=λx=>U.M x/\x≠b,ln:=λm=>if m=n then none else U.ln m,w:=w'}:={
  box:=by grind
  arr:=by grind
  fro:=λx ob hx hM=>by
   have hlt:=(u0.1 hx).1;have hne:x≠b:=by grind
   exact⟨(hk.heap x hlt hne).trans hx,λk=>hM k.1⟩
  out:=rfl
  sz:=hk.sz
  io:=hk.io}
 have hhl:∀l,l≠.a n->hl ((.a n,.un)::hp) l=hl hp l:=by simp_all[hl,Ne.symm]
 have own2:∀(p:Bool×Nm)(x:Nat),Owns {U with M:=λx=>U.M x/\x≠b,ln:=λm=>if m=n then none else U.ln m,w:=w'} ((.a n,.un)::hp) p x->Owns U hp p x/\p≠(true,n):=by
  rintro⟨p1,p2⟩ x (⟨q1,q2,j,c,q3⟩|⟨q1,⟨sz',rows',d',q2⟩,q3⟩)
  ·refine⟨.inl ⟨q1,q2,j,c,q3⟩,λe=>?_⟩;cases e;cases q1
  ·have hne:p2≠n:=λe=>by simp_all[hl]
   rw[hhl _ (by grind)]at q2;exact⟨.inr ⟨q1,⟨sz',rows',d',q2⟩,q3⟩,by grind⟩
 refine⟨e,?_⟩;have apart:∀(p:Bool×Nm)(x:Nat),U.M x->Owns U hp p x->p≠(true,n)->x≠b:=λp x hM ho hp' e=>by
  subst e;rcases hor with⟨hra,hcap⟩|hb
  ·exact hp' (h.inj p (true,n) x ho (.inr ⟨rfl,⟨sz,rows,d,hn⟩,o,cap,hra,hcap⟩))
  ·have:=h.lt x hM;omega
 exact{
  ln:=λm=>by
   by_cases hm:m=n
   ·subst hm;simp[lenOf,hl]
   ·have:lenOf ((.a n,.un)::hp) m=lenOf hp m:=by unfold lenOf;rw[hhl _ (by grind)]
    simp only[t7 hm];rw[this];exact h.ln m
  cel:=λm j c hc=>by have k:=h.cel m j c hc;have hne:=apart (false,m) _ k.2.1 (.inl ⟨rfl,rfl,j,c,hc⟩) (by intro e;cases e);exact k.keep e ⟨k.2.1,hne⟩ (hk.heap _ (h.lt _ k.2.1) hne)
  arr:=λm sz' live rows' d' hc=>by
   have hne:m≠n:=λe=>by simp_all[hl]
   rw[hhl _ (by grind)]at hc;have k:=h.arr m sz' live rows' d' hc;refine k.keep e rfl λhl' b' o' cap' hra' hcap' hM'=>?_
   subst hl';have hb:=apart (true,m) b' hM' (.inr ⟨rfl,⟨sz',rows',d',hc⟩,o',cap',hra',hcap'⟩) (by grind);exact⟨⟨hM',hb⟩,hk.heap _ (h.lt _ hM') hb⟩
  inj:=λp q x hp' hq=>h.inj p q x (own2 p x hp').1 (own2 q x hq).1
  lt:=λx hx=>A20 (h.lt x hx.1) hk.sz
  ou:=λx hx=>A20 (h.ou x hx) hk.sz
  dis:=λx hx=>h.dis x hx.1}
theorem Qw{hp:Hp}{n:Nm}:∀{ns:List Nm},n∉ns->hl (frz hp ns++hp) (.a n)=hl hp (.a n)
 |[],_=>rfl
 |m::ns,h=>by
  have ih:=Qw (hp:=hp) (n:=n) (ns:=ns) (by grind);simp only[Am.frz];split
  ·simp only[A10,hl];rw[t7 (by grind)];exact ih
  ·exact ih
theorem TM(gl:Gl U)(h:HInv U hp){f sz len:Nat}{rows rows':List (List AV)}{ax d xs:List AV}{n:Nm}{vs:List Value}{v0:Value}(hn:hl hp (.a n)=some (.sl sz true rows d))(hlen:len=rows.length)(h0:Rep U (.own n len) v0)(hx:RepL U xs vs)(hax:EP hp xs=ax)(hrv:E2 hp xs)(hnb:F0 xs=true)(hni:n∉Dy xs)(hr':∀r∈rows',r.length=sz/\AA r=true)(hC:Kg P f sz rows ax rows'):Calls P f (v0::vs).toArray U.w λe w'=>∃v σ',e=.returned v/\Next U nm ((.a n,.un)::(frz hp (Dy xs)++hp)) w' σ'/\Rep σ' (.sl sz false rows' d) v:=by
 obtain⟨σ1,f1,f2,f3,f4,f5,f6,f7,f8⟩:=h.frz (Dy xs);have hr:=Hd h f1 f3 (Dy xs) f7 xs vs hrv hnb (λ_ h=>h) hx;rw[hax]at hr;have hn1:hl (frz hp (Dy xs)++hp) (.a n)=some (.sl sz true rows d):=by rw[Qw hni];exact hn
 have hln:σ1.ln n=some rows.length:=by rw[f2.ln];simp[lenOf,hn1]
 have hv0:=h0.mono f1;have hv:=(hv0.2.2 _ hln).2 hlen;obtain⟨a1,a2,a3,a4⟩:=f2.arr n sz true rows d hn1;obtain⟨vals,g1,g2,g3,g4,g5,g6⟩:=(f2.arr n sz true rows d hn1).vals;have key:∃(base:Option Addr)(b o cap:Nat),σ1.ra n=(base,cap)/\rows.length<=cap/\(base=some ⟨b,o,none⟩/\0<cap/\Lies σ1.w b o vals/\σ1.M b/\(∃cs T,σ1.w.heap[b]? =some (.cells cs T (0,0))/\o+cap*sz<=cs.size)\/cap=0/\σ1.w.heap.size<=b):=by
  rcases a4 with⟨a,a4,a5⟩|⟨b,o,cap,a4,a5,a6,a7,a8,a9⟩
  ·exact⟨a,σ1.w.heap.size,0,0,a4,by rw[a5];exact w6 _,by omega⟩
  ·refine⟨some ⟨b,o,none⟩,b,o,cap,a4,a6,.inl ⟨rfl,a5,?_,(a8 rfl).1,(a8 rfl).2⟩⟩;rcases g3 with rfl|⟨b2,o2,g3,g3'⟩
   ·intro j v hj;simp at hj
   grind
 obtain⟨base,b,o,cap,k1,k2,k3⟩:=key;have hor:σ1.ra n=(some ⟨b,o,none⟩,cap)/\0<cap\/σ1.w.heap.size<=b:=by grind
 have hc:=hC σ1 vs vals base b o cap (gl.mono f1) (λx hx=>hx.elim (f2.lt x) (f2.ou x)) hr g1 g2 g5 k2 k3;rw[k1,hlen]at hv;subst hv;rw[f3]at hc;refine hc.mono ?_;rintro en w' ⟨b',o',cap',vals',rfl,q1,q2,q3,q4,q5,q6,q7⟩;obtain⟨e2,i2⟩:=f2.gone hn1 hor (by rw[f3];exact q2);refine⟨_,_,rfl,⟨f1.trans e2,i2,rfl,by grind⟩,?_⟩;refine⟨some ⟨b',o',none⟩,cap',rfl,q1,by grind,by grind,.inr ⟨b',o',rfl,⟨?_,?_,q4⟩,DQ (q6.mono e2) q7 q5 λr hr=>(hr' r hr).1⟩⟩
 ·rintro⟨hM,hne⟩;rcases q3 with q3|q3
  ·exact hne q3
  ·have:=f2.lt b' hM;rw[f3]at this;omega
 ·intro hO;rcases q3 with q3|q3
  ·rcases k3 with⟨_,_,_,k3,_⟩|⟨_,k3⟩
   ·exact f2.dis b k3 (q3▸hO)
   ·have:=f2.ou b' hO;omega
  ·have:=f2.ou b' hO;rw[f3]at this;omega
theorem PZ{n:Nm}:∀{L:List Nm},VJ n L->n∉L
 |[],_=>by simp
 |m::L,h=>by simp;exact⟨λe=>h.1 e.symm,PZ h.2⟩
theorem Qy{S:Tab}(hS:TabOK P S)(gl:Gl U)(h:HInv U hp)(hal:¬U.al nm/\∃c,∀m,U.al m->m.2<=c){f:Nat}{args:List AV}{vs:List Value}(hx:RepL U args vs)(hex:I5 S hp nm f args=some (vc,r,ws))(hvc:vc):C0 P f/\Calls P f vs.toArray U.w λe w'=>∃v σ',e=.returned v/\Next U nm (ws++hp) w' σ'/\Rep σ' r v:=by
 unfold I5 at hex;split at hex
 ·rename_i p r' hs;cases hfl:F1 r' with
  |true=>
   simp only[hfl,yE]at hex;obtain⟨rfl,rfl,rfl⟩:=hex;obtain⟨v1,v2,v3⟩:=hvc;obtain⟨k1,k2⟩:=hS.f f _ _ _ hs v3;refine⟨k1,?_⟩
   let Z:={U with M:=λ_=>False}
   have e:Evo U Z:=⟨by grind,by grind,by grind,rfl,w6 _,SameO.refl _⟩
   have hr:=Hc h e rfl (λ_ h=>h) args vs v1 hx;refine(k2 Z vs (gl.mono e) (λb hb=>hb.elim False.elim (h.ou b)) v2 hr).mono ?_;rintro en w' ⟨v,rfl,g1,go,g2,g3⟩;have g1':=g1;exact⟨v,U.at w',rfl,⟨Evo.at g1' go,h.at g1' go,rfl,λm hm=>.inl hm⟩,HO _ v hfl g3⟩
  |false=>
   simp only[hfl]at hex;cases hnb:F0 args with
   |false=>simp[hnb]at hex
   |true=>
    simp only[hnb,yE]at hex;obtain⟨rfl,rfl,rfl⟩:=hex;obtain⟨v1,v2,v3⟩:=hvc;obtain⟨k1,k2⟩:=hS.f f _ _ _ hs v3;refine⟨k1,?_⟩;obtain⟨σ1,f1,f2,f3,f4,f5,f6,f7,f8⟩:=h.frz (Dy args);have hr:=Hd h f1 f3 (Dy args) f7 args vs v1 hnb (λ_ h=>h) hx;have:=k2 σ1 vs (gl.mono f1) (λb hb=>hb.elim (f2.lt b) (f2.ou b)) v2 hr;rw[f3]at this;refine this.mono ?_;rintro en w' ⟨v,rfl,g1,go,g2,g3⟩;have g1':∀(b:Nat)(o:Obj),σ1.w.heap[b]? =some o->w'.heap[b]? =some o:=by rw[f3];exact g1
    have go':SameO σ1.w w':=by rw[f3];exact go
    exact⟨v,σ1.at w',rfl,⟨f1.trans (Evo.at g1' go'),f2.at g1' go',rfl,λm hm=>.inl (f4 m hm)⟩,g3⟩
 ·split at hex
  ·rename_i n hn;split at hex
   ·rename_i p r' us hs;obtain⟨rfl,rfl,rfl⟩:=hex;obtain⟨v1,v2,v3,v4,v5,v6,v7⟩:=hvc;obtain⟨k1,k2⟩:=hS.e f _ _ _ _ _ n hs v7 hn;refine⟨k1,?_⟩;have hc:∀j c,(CF hp n 0 40)[j]? =some c↔hl hp (.c n j)=some c:=λj c=>by
     refine⟨λh=>by simpa using L5 h,λh=>?_⟩;rcases A52 j (CF hp n 0 40).length with h1|h1
     ·rw[t6 h1];have:=L5 (t6 h1);rw[A08,h]at this;exact this.symm
     ·rw[v6 j h1]at h;cases h
    refine(k2 (U.only n) vs (λb j hj=>⟨(gl b j hj).1.only,(gl b j hj).2⟩) (h.only (by grind) v4) (λm hm=>hm.1) (Na v1 hn hx)).mono ?_;rintro en w' ⟨v,σ',rfl,hw,ev,hcel,hr⟩;obtain⟨e1,e2⟩:=h.back hc v5 v4 v3 hw ev hcel;exact⟨v,U.at w',rfl,⟨e1,e2,rfl,λm hm=>.inl hm⟩,HO _ v v2 hr⟩
   ·split at hex
    ·rename_i p r' hs;obtain⟨rfl,rfl,rfl⟩:=hex;obtain⟨k1,k2⟩:=hS.q f _ _ _ _ hs hvc;refine⟨k1,(k2 U hp vs gl h hal.2 hx rfl).mono ?_⟩;rintro en w' ⟨v,σ',rfl,g1,g2,g3,g4,g5⟩;exact⟨v,σ',rfl,⟨g2,g3,g1,by grind⟩,g5⟩
    ·simp at hex
  ·split at hex
   ·rename_i p wf gf hs;cases hnb:F0 args with
    |false=>simp[hnb]at hex
    |true=>simp only[hnb,yE]at hex;obtain⟨rfl,rfl,rfl⟩:=hex;obtain⟨v1,v2,v3⟩:=hvc;obtain⟨k1,k2⟩:=hS.k f _ _ _ _ hs v3;refine⟨k1,?_⟩;obtain⟨σ1,f1,f2,f3,f4,f5,f6,f7,f8⟩:=h.frz (Dy args);have hr:=Hd h f1 f3 (Dy args) f7 args vs v1 hnb (λ_ h=>h) hx;have:=k2 σ1 _ vs nm (gl.mono f1) f2 (by grind) v2 hr;rw[f3]at this;refine this.mono ?_;rintro en w' ⟨v,σ',rfl,g1,g2⟩;exact⟨v,σ',rfl,⟨f1.trans g1.evo,by rw[A06];exact g1.inv,g1.w,λm hm=>(g1.al m hm).imp_left (f4 m)⟩,g2⟩
   ·unfold OX at hex;split at hex
    ·rename_i n l xs _ _ _;split at hex
     ·rename_i sz live rows d hn;split at hex
      ·rename_i p rows' hs;cases hnb:F0 xs with
       |false=>simp[hnb]at hex
       |true=>simp only[hnb,yE]at hex;obtain⟨rfl,rfl,rfl⟩:=hex;obtain⟨v1,rfl,v3,v4,v5⟩:=hvc;obtain⟨k1,k2,k3⟩:=hS.o f _ _ _ _ _ hs v5;obtain⟨y,ys,rfl,hy,hx⟩:=hx;exact⟨k1,TM gl h hn v1 hy hx rfl v3 hnb (PZ v4) k3 k2⟩
      ·cases hex
     ·cases hex
    ·cases hex
theorem lH{k:AV}{a:Int}(h:kI k=some a):k=.v (.int .i64 a):=by unfold kI at h;grind
theorem cS{r:List AV}{rs:List (List AV)}(h:MY (r::rs)=true):(∃a x,r=[.v (.int .i64 a),x])/\MY rs=true:=by
 simp only[MY,List.all_cons,y8]at h;refine⟨?_,h.2⟩;have h1:=h.1;split at h1
 ·rename_i k x;obtain⟨a,ha⟩:=yX h1;exact⟨a,x,by rw[lH ha]⟩
 ·cases h1
theorem N6{U:Cf}(a:Int):∀{rows:List (List AV)}{es:List MapEntry}(i:Nat),RepEnts U rows es->MY rows=true->(Instr.findNow (.int .i64) (.int .i64 a) es i=some none/\I7 rows a=false/\(∀d,H5 rows a d=d)/\∀x v b,Rep U x v->RepEnts U (Gi rows a x) (es++[⟨.int .i64 a,v,b⟩]))\/∃j e,Instr.findNow (.int .i64) (.int .i64 a) es i=some (some (i+j,e.val))/\es[j]? =some e/\e.key=.int .i64 a/\I7 rows a=true/\(∀d,Rep U (H5 rows a d) e.val)/\∀x v,Rep U x v->RepEnts U (Gi rows a x) (es.set j {e with key:=.int .i64 a,val:=v})
 |[],es,i,h,_=>by subst h;refine .inl ⟨rfl,rfl,λ_=>rfl,λx v b hx=>⟨_,[],rfl,?_,rfl⟩⟩;exact⟨_,_,rfl,by simp[Rep],_,_,rfl,hx,rfl⟩
 |r::rs,es,i,h,hm=>by
  obtain⟨⟨b,x,rfl⟩,hm'⟩:=cS hm;obtain⟨e,es',rfl,h2,h3⟩:=h;have h2':=h2;obtain⟨y,ys,⟨rfl,rfl⟩,g1,z,zs,⟨rfl,rfl⟩,g2,_⟩:=h2;have g1:=by simpa[Rep]using g1
  by_cases hab:b=a
  ·subst hab;refine .inr ⟨0,e,by simp[Instr.findNow,Instr.sameNow,g1],rfl,g1,by simp[I7,kI],λd=>by simpa[H5,kI]using g2,λx' v hx=>?_⟩;simp only[Gi,kI,cond_true];refine⟨_,_,rfl,?_,h3⟩;simp only[RepL];grind
  ·have hk:¬kI (.v (.int .i64 b))=some a:=by simp[kI,hab]
   have hf:Instr.findNow (.int .i64) (.int .i64 a) (e::es') i=Instr.findNow (.int .i64) (.int .i64 a) es' (i+1):=by grind[Instr.findNow,Instr.sameNow]
   rcases N6 a (i+1) h3 hm' with⟨q1,q2,q3,q4⟩|⟨j,e',q1,q2,q3,q4,q5,q6⟩
   ·refine .inl ⟨hf.trans q1,by simp[I7,hk,q2],λd=>by simp[H5,hk,q3],λx' v b' hx=>?_⟩;simp only[Gi,s6 hk,A12];exact⟨_,_,rfl,h2',q4 x' v b' hx⟩
   ·refine .inr ⟨j+1,e',by rw[hf,q1];congr 3;omega,by simpa using q2,q3,by simp[I7,q4],by grind[H5],λx' v hx=>?_⟩;simp only[Gi,s6 hk,A12];exact⟨_,_,rfl,h2',q6 x' v hx⟩
theorem MapF.of{U:Cf}{n:Nm}{rows:List (List AV)}(h:HInv U hp)(hn:hl hp (.c n 0)=some (.gd false (.sl 0 true rows []))):U.al n/\U.M (U.rb n)/\∃es:Array MapEntry,U.w.heap[U.rb n]? =some (.map es es.size)/\(∀r∈rows,AA r=true)/\RepEnts U rows es.toList/\∀(i:Nat)(e:MapEntry),es[i]? =some e->e.born=i:=by
 obtain⟨h1,h2,h3⟩:=h.cel n 0 _ hn;rcases h3 with⟨cs,T,x,g1,g2,g3,g4⟩|⟨rows',es,g1,g2,g3,g4,g5⟩
 ·simp_all[Rep,undef,Bp]
 grind
theorem P0{hp:Hp}{n:Nm}{j:Nat}:∀(ns:List Nm),hl (frz hp ns++hp) (.c n j)=hl hp (.c n j)
 |[]=>rfl
 |m::ns=>by
  simp only[frz];split
  ·exact P0 ns
  ·exact P0 ns
theorem cU(h:HInv U hp)(hnm:¬U.al nm){t:TypeId}(ho:o.op=.makeMap t none):Step P o a U nm ([(.c nm 0,Mx [])]++hp) (.mp nm):=by
 obtain⟨_,e,q⟩:=h.newMap hnm (w:=U.w.alloc (.map #[] 0)) (rows:=[]) (by grind[Cd]) (SameO.refl _) (w6 _) GQ (by simp) rfl (by simp);refine .inl ⟨.map (some U.w.heap.size),_,_,.inl ?_,⟨e,q,rfl,λm hm=>hm⟩,⟨.inr rfl,by simp[Cf.named]⟩⟩
 simp_all[execOp,Instr.makeMap,Cf.named]
theorem cV{n:Nm}{rows:List (List AV)}(h:I2 hp (.mp n)=some rows):hl hp (.c n 0)=some (.gd false (.sl 0 true rows [])):=by grind[I2]
theorem Yw(h:HInv U hp){X:AV}{v:Value}{rows:List (List AV)}(hX:Rep U X v)(hn:I2 hp X=some rows):(∃b,∃es:Array MapEntry,v=.map (some b)/\U.w.heap[b]? =some (.map es es.size)/\RepEnts U rows es.toList)\/v=.map none/\rows=[]:=by
 unfold I2 at hn;split at hn
 ·grind[Rep,MapF.of]
 ·simp only[Rep]at hX;exact by grind
 ·cases hn
theorem cW(h:HInv U hp){t kt et:TypeId}{m x:Operand}{X Y zd:AV}{ok:Bool}(ho:o.op=.lookup t m x ok)(ht:P.underlying t=some (.map kt et))(hk:P.underlying kt=some (.int .i64))(hz:VW P et=some zd)(hX:Rep U X (a.eval m))(hY:Rep U Y (a.eval x))(hex:LZ hp zd ok X Y=some (vc,r,ws))(hvc:vc):Step P o a U nm (ws++hp) r:=by
 obtain⟨z,hz1,hz2⟩:=Tx hz;unfold LZ at hex;split at hex
 ·rename_i rows k hn;cases hex
  simp only[Rep]at hY;have zero:(Instr.lookup t (a.eval m) (.int .i64 k) ok).run P U.w=.ok (if ok then .tuple #[z,.bool false]else z) U.w->I7 rows k=false->(∀d,H5 rows k d=d)->Step P o a U nm ([]++hp) (bif ok then .tup [H5 rows k zd,.b (I7 rows k)]else H5 rows k zd):=λhr f2 f3=>by
   refine Step.quiet h (v:=if ok then .tuple #[z,.bool false]else z) (by simp_all[execOp]) ?_;cases ok with
   |false=>simpa[f3]using hz2 U
   |true=>simp only[f2,f3,if_true];exact⟨[z,.bool false],rfl,z,_,rfl,hz2 U,_,_,rfl,by simp[Rep],rfl⟩
  rcases Yw h hX hn with⟨b,es,e1,e2,e3⟩|⟨e1,rfl⟩
  ·have hck:(Instr.checkKey es.isEmpty 10000 kt (.int .i64 k)).run P U.w=.ok () U.w:=by grind[MapKept.run_checkKey,MapKept.IsKey]
   rcases N6 k 0 e3 hvc with⟨f1,f2,f3,_⟩|⟨j,e,f1,f2,f3,f4,f5,_⟩
   ·exact zero (by rw[e1];simp[Instr.lookup,run_underlying ht,MapKept.run_getObj_map e2,hck,MapKept.run_findKey hk f1,hz1]) f2 f3
   ·have hr:(Instr.lookup t (a.eval m) (.int .i64 k) ok).run P U.w=.ok (if ok then .tuple #[e.val,.bool true]else e.val) U.w:=by rw[e1];simp[Instr.lookup,run_underlying ht,MapKept.run_getObj_map e2,hck,MapKept.run_findKey hk f1]
    refine Step.quiet h (v:=if ok then .tuple #[e.val,.bool true]else e.val) (by simp_all[execOp]) ?_;cases ok with
    |false=>simpa using f5 zd
    |true=>simp only[f4,if_true];exact⟨[e.val,.bool true],rfl,_,_,rfl,f5 zd,_,_,rfl,by simp[Rep],rfl⟩
  ·have hck:(Instr.checkKey true 10000 kt (.int .i64 k)).run P U.w=.ok () U.w:=by grind[MapKept.run_checkKey,MapKept.IsKey]
   exact zero (by rw[e1];simp[Instr.lookup,run_underlying ht,hck,MapKept.run_findKey hk (show Instr.findNow (.int .i64) (.int .i64 k) [] 0=some none from rfl),hz1]) rfl λ_=>rfl
 ·cases hex
theorem Qz{a:Int}{x:AV}(hx:BN x=true):∀{rows:List (List AV)},(∀r∈rows,AA r=true)->∀r∈Gi rows a x,AA r=true
 |[],_,r,hr=>by grind[Gi,AA,BN]
 |q::rs,h,r,hr=>by
  have ih:=Qz hx (rows:=rs) (a:=a) λr hr=>by grind
  rcases q with _|⟨k,_|⟨y,_|⟨z,zs⟩⟩⟩
  ·grind[Gi]
  ·grind[Gi]
  ·simp only[Gi]at hr;cases hd:decide (kI k=some a)with
   |true=>
    rw[hd,cond_true]at hr;rcases y6.1 hr with rfl|hr
    all_goals simp_all[AA]
   |false=>grind
  grind[Gi]
theorem TN(h:HInv U hp){t kt et:TypeId}{m x y:Operand}{X Y τ:AV}(ho:o.op=.mapUpdate t m x y\/o.op=.insert t m x y)(ht:P.underlying t=some (.map kt et))(hk:P.underlying kt=some (.int .i64))(hX:Rep U X (a.eval m))(hY:Rep U Y (a.eval x))(hZ:Rep U τ (a.eval y))(hex:MZ hp X Y τ=some (vc,r,ws))(hvc:vc):Step P o a U nm (ws++hp) r:=by
 unfold MZ at hex;split at hex
 ·rename_i n;split at hex
  ·rename_i rows k hn;have hn:=cV hn;cases hex
   obtain⟨v1,v2,v3,v4⟩:=hvc;simp only[Rep]at hX hY;obtain⟨σ1,f1,f2,f3,f4,f5,f6,f7,f8⟩:=h.frz (Fl τ);have hr:=O4 h f1 f3 (Fl τ) f7 τ _ v2 v3 (λ_ h=>h) hZ;have hn1:hl (frz hp (Fl τ)++hp) (.c n 0)=some (.gd false (.sl 0 true rows [])):=by rw[P0];exact hn
   obtain⟨q1,q2,es,q3,q4,q5,q6⟩:=MapF.of f2 hn1;have hrb:=(f1.box n hX.1).2;have hX2:a.eval m=.map (some (σ1.rb n)):=by rw[hrb];exact hX.2
   have hck:(Instr.checkKey false 10000 kt (.int .i64 k)).run P σ1.w=.ok () σ1.w:=by grind[MapKept.run_checkKey,MapKept.IsKey]
   have key:∃es':Array MapEntry,(Instr.mapUpdate t (.map (some (σ1.rb n))) (.int .i64 k) (a.eval y)).run P σ1.w=.ok () {σ1.w with heap:=σ1.w.heap.setIfInBounds (σ1.rb n) (.map es' es'.size)}/\RepEnts σ1 (Gi rows k (res hp τ)) es'.toList/\∀(i:Nat)(e:MapEntry),es'[i]? =some e->e.born=i:=by
    rcases N6 k 0 q5 v1 with⟨g1,_,_,g4⟩|⟨j,e,g1,g2,g3,_,_,g6⟩
    ·refine⟨es.push ⟨.int .i64 k,a.eval y,es.size⟩,?_,by rw[Array.toList_push];exact g4 _ _ _ hr,λi e he=>?_⟩
     ·simp[Instr.mapUpdate,run_underlying ht,MapKept.run_getObj_map q3,hck,MapKept.run_findKey hk g1,MapKept.run_setObj_map _ q3]
     grind
    ·refine⟨es.modify j λe=>{e with key:=.int .i64 k,val:=a.eval y},?_,?_,λi e' he=>?_⟩
     ·have hkk:((es[j]?).map (·.key)).getD (.int .i64 k)=.int .i64 k:=by grind
      simp only[Instr.mapUpdate,Sem.run_bind,run_underlying ht,Result.andThen,MapKept.run_getObj_map q3,hck,MapKept.run_findKey hk g1,A08,hkk,MapKept.run_keyThatStays (d:=.int .i64) (k:=.int .i64 k) (by simp[MapKept.IsKey]),MapKept.run_setObj_map _ q3,Array.size_modify]
     ·have:(es.modify j λe=>{e with key:=.int .i64 k,val:=a.eval y}).toList=es.toList.set j {e with key:=.int .i64 k,val:=a.eval y}:=by apply List.ext_getElem?;grind
      rw[this];exact g6 _ _ hr
     grind
   obtain⟨es',k1,k2,k3⟩:=key;rw[f3]at k1
   let w2:={U.w with heap:=U.w.heap.setIfInBounds (σ1.rb n) (.map es' es'.size)}
   have hlt:=by have:=f2.lt _ q2;rw[f3]at this;exact this
   have hoth:∀b,b≠σ1.rb n->w2.heap[b]? =σ1.w.heap[b]? :=by grind
   have hsm:w2.heap[σ1.rb n]? =some (.map es' es'.size):=by simp[w2,hlt]
   have hsz:σ1.w.heap.size<=w2.heap.size:=by rw[f3];simp[w2]
   have e2:Evo σ1 (σ1.at w2):=⟨λ_ h=>⟨h,rfl⟩,λ_ _ l h=>⟨l,h,w6 _,λ_=>rfl⟩,λb x hb hM=>⟨by show w2.heap[b]? =_;rw[hoth b (by grind)];exact hb,hM⟩,rfl,hsz,by rw[f3];exact⟨rfl,rfl⟩⟩
   have own:Owns σ1 (frz hp (Fl τ)++hp) (false,n) (σ1.rb n):=.inl ⟨rfl,rfl,0,_,hn1⟩;have inv2:HInv (σ1.at w2) ((.c n 0,Mx (Gi rows k (res hp τ)))::(frz hp (Fl τ)++hp)):=by
    refine f2.upd e2 (false,n) (λx hx hno=>⟨hx,hoth x λe=>hno (e▸own)⟩) (λl hl'=>?_) (λ_ _ _=>rfl) (λm'=>?_) (λm' j c hm hc=>?_) (by grind) (λx hx=>.inl ?_) (λb hb=>A20 (f2.lt b hb) hsz) hsz (λb hb hn=>absurd hb hn)
    ·simp only[hl];rw[t7 (by rintro rfl;exact hl' rfl)]
    ·exact f2.ln m'
    ·cases hm
     simp only[hl,Loc.c.injEq,true_and]at hc;split at hc
     ·cases hc
      exact⟨q1,q2,.inr ⟨_,es',⟨rfl,‹0=j›.symm⟩,hsm,Qz v4 q4,k2.map λr vs=>RepL.mono e2 r vs,k3⟩⟩
     ·obtain⟨c1,c2,c3⟩:=f2.cel n j c hc;rcases c3 with⟨cs,T,xx,d1,_⟩|⟨rows2,es2,⟨_,d1⟩,_⟩
      all_goals grind
    ·rcases hx with⟨_,hx,_⟩|⟨hx,_⟩
     ·have:=hx;rw[<-this];exact own
     ·cases hx
   refine .inl ⟨undef,w2,σ1.at w2,.inr ⟨?_,rfl⟩,⟨f1.trans e2,inv2,rfl,λm' hm=>.inl (f4 m' hm)⟩,by simp[Rep]⟩;rcases ho with ho|ho<;>simp[execOp,ho,hX2,hY,k1,w2]
  ·cases hex
 ·cases hex
theorem Yx{S:Tab}(hS:TabOK P S)(gl:Gl U)(h:HInv U hp)(hal:¬U.al nm/\∃c,∀m,U.al m->m.2<=c){c:Call}{f:Nat}{args:List AV}(ho:o.op=.call c)(hc:c.callee=.value (.func f))(hx:RepL U args (c.args.toList.map a.eval))(hex:I5 S hp nm f args=some (vc,r,ws))(hvc:vc):Step P o a U nm (ws++hp) r:=by
 obtain⟨k1,k2⟩:=Qy hS gl h hal hx hex hvc;refine .inr ⟨f,_,?_,k2⟩;have hr:=FE k1 (c.args.map a.eval) U.w;rw[<-Array.toList_map,Array.toArray_toList]
 simp_all[execOp,resolve,Act.eval,Deferred.ofValue,invoke]
theorem lI{S:Tab}(hS:TabOK P S)(gl:Gl U)(h:HInv U hp)(hal:¬U.al nm/\∃c,∀m,U.al m->m.2<=c){c:Call}{x:Operand}{X:AV}{args:List AV}(ho:o.op=.call c)(hc:c.callee=.value x)(hX:Rep U X (a.eval x))(hx:RepL U args (c.args.toList.map a.eval))(hex:W7 S hp nm X args=some (vc,r,ws))(hvc:vc):Step P o a U nm (ws++hp) r:=by
 unfold W7 at hex;split at hex
 ·rename_i f first caps
  obtain⟨xs,ys,e1,e2,e3⟩:=hX;obtain⟨k1,k2⟩:=Qy hS gl h hal (Dz (Dz e2 hx) e3) hex hvc;refine .inr ⟨f,_,?_,k2⟩;have hr:=λargs=>FE k1 args U.w
  simp_all[execOp,resolve,Deferred.ofValue,invoke]
 ·simp at hex
end
section
variable{P:Program}{o:Oper}{a:Act}{U:Cf}{nm:Nm}{hp:Hp}{r:AV}{vc:Prop}{ws:Hp}
theorem Ia{S:Tab}{env:Ar}{g:Bool}{k:AK}(hk:k=.bad)(hex:AF S env hp nm g k=some (vc,r,ws)):False:=by subst hk;simp[AF]at hex
theorem Yy{S:Tab}(hS:TabOK P S)(gl:Gl U)(h:HInv U hp){env:Ar}(ht:TInv U env a)(hnm:¬U.al nm/\∃c,∀m,U.al m->m.2<=c){g:Bool}(hg:g=true){c:Call}(ho:o.op=.call c)(hex:AF S env hp nm g (H9 P c)=some (vc,r,ws))(hvc:vc):Step P o a U nm (ws++hp) r:=by
 have bad:AF S env hp nm g .bad=some (vc,r,ws)->Step P o a U nm (ws++hp) r:=λe=>(Ia rfl e).elim
 have A:=EZ hg ht;have AL:=F2 hg ht c.args.toList;unfold H9 at hex;cases hcal:c.callee with
 |value f=>grind[AF,Yx,lI]
 |invoke r' m=>rw[hcal]at hex;exact bad hex
 |builtin b=>
  rw[hcal]at hex;cases b
  case len=>grind[AF,bP,Yu]
  case cap=>grind[AF,bQ]
  case append=>grind[AF,bR,Yp]
  case clear=>grind[AF]
  case max=>grind[AF,VY]
  case min=>grind[AF,VY]
  all_goals exact bad hex
theorem V0{y:Operand}(h:Al y=.k (.sl 0 true [] [])):a.eval y=.slice none 0 0:=by
 cases y with
 |const v=>
  simp only[Al]at h;unfold Tk at h;split at h
  ·split at h<;>cases h
  ·unfold IU at h;split at h
   ·rfl
   ·cases h
 |tmp n=>simp[Al]at h
 |global g=>simp[Al]at h
 |func f=>simp[Al]at h
theorem cX{S:Tab}(h:HInv U hp){env:Ar}(ht:TInv U env a){g:Bool}(hg:g=true){op:BinOp}{t yt:TypeId}{x y:Operand}(ho:o.op=.binOp op t x y yt)(hex:AF S env hp nm g (E3 P op t (Al x) (Al y))=some (vc,r,ws))(hvc:vc):Step P o a U nm (ws++hp) r:=by
 have A:=EZ hg ht;have sh:∀op',op=op'->(op'=.shl\/op'=.shr)->AF S env hp nm g (match P.underlying t with|some (.int _)=>.pr (.shf op') [Al x,Al y]|_=>.bad)=some (vc,r,ws)->Step P o a U nm (ws++hp) r:=by
  rintro op' rfl ho' he;split at he
  ·grind[AF,cD]
  ·exact(Ia rfl he).elim
 have bt:∀op',op=op'->(op'=.and\/op'=.or\/op'=.xor\/op'=.andNot)->AF S env hp nm g (match P.underlying t with|some (.int _)=>.pr (.bits op') [Al x,Al y]|_=>.bad)=some (vc,r,ws)->Step P o a U nm (ws++hp) r:=by
  rintro op' rfl ho' he;split at he
  ·grind[AF,Yr]
  ·exact(Ia rfl he).elim
 by_cases q1:op=.shl
 ·exact sh _ q1 (.inl rfl) (by rw[q1]at hex;exact hex)
 by_cases q2:op=.shr
 ·exact sh _ q2 (.inr rfl) (by rw[q2]at hex;exact hex)
 by_cases q3:op=.and
 ·exact bt _ q3 (.inl rfl) (by rw[q3]at hex;exact hex)
 by_cases q4:op=.or
 ·exact bt _ q4 (.inr (.inl rfl)) (by rw[q4]at hex;exact hex)
 by_cases q5:op=.xor
 ·exact bt _ q5 (by grind) (by rw[q5]at hex;exact hex)
 by_cases q6:op=.andNot
 ·exact bt _ q6 (by grind) (by rw[q6]at hex;exact hex)
 by_cases qs:P.underlying t=some .string
 ·have hc:AF S env hp nm g (I9 op (Al x) (Al y))=some (vc,r,ws):=by unfold E3 at hex;rw[qs]at hex;cases op<;>first|exact absurd rfl q1|exact absurd rfl q2|exact absurd rfl q3|exact absurd rfl q4|exact absurd rfl q5|exact absurd rfl q6|exact hex
  unfold I9 at hc;cases op
  case add=>grind[AF,Yt]
  case eql=>exact TI h (by grind) ho (A x) (A y) hc hvc
  case neq=>exact TI h (by grind) ho (A x) (A y) hc hvc
  all_goals exact(Ia rfl hc).elim
 by_cases qi:∃ms,P.underlying t=some (.interface ms)
 ·obtain⟨ms,qi⟩:=qi;have hc:AF S env hp nm g (Ja op (Al x) (Al y))=some (vc,r,ws):=by unfold E3 at hex;rw[qi]at hex;cases op<;>first|exact absurd rfl q1|exact absurd rfl q2|exact absurd rfl q3|exact absurd rfl q4|exact absurd rfl q5|exact absurd rfl q6|exact hex
  unfold Ja at hc;split at hc
  ·rename_i hy;exact Sa h (by grind) ho qi hy (A x) hc
  ·rename_i hy;exact Sa h (by grind) ho qi hy (A x) hc
  ·exact(Ia rfl hc).elim
 by_cases qp:∃e,P.underlying t=some (.pointer e)
 ·obtain⟨e,qp⟩:=qp;have hc:AF S env hp nm g (Jb op (Al x) (Al y))=some (vc,r,ws):=by unfold E3 at hex;rw[qp]at hex;cases op<;>first|exact absurd rfl q1|exact absurd rfl q2|exact absurd rfl q3|exact absurd rfl q4|exact absurd rfl q5|exact absurd rfl q6|exact hex
  unfold Jb at hc;split at hc
  ·rename_i hy;exact Sb h (by grind) ho qp hy (A x) hc
  ·rename_i hy;exact Sb h (by grind) ho qp hy (A x) hc
  ·exact(Ia rfl hc).elim
 by_cases qf:∃a b c,P.underlying t=some (.func a b c)
 ·obtain⟨_,_,_,qf⟩:=qf;have hc:AF S env hp nm g (Jc op (Al x) (Al y))=some (vc,r,ws):=by unfold E3 at hex;rw[qf]at hex;cases op<;>first|exact absurd rfl q1|exact absurd rfl q2|exact absurd rfl q3|exact absurd rfl q4|exact absurd rfl q5|exact absurd rfl q6|exact hex
  unfold Jc at hc;split at hc
  ·rename_i hy;exact Sc h (by grind) ho qf hy (A x) hc
  ·rename_i hy;exact Sc h (by grind) ho qf hy (A x) hc
  ·exact(Ia rfl hc).elim
 have key:E3 P op t (Al x) (Al y)=.bad\/(∃n e,P.underlying t=some (.slice e)/\(op=.eql/\n=false\/op=.neq/\n=true)/\Al y=.k (.sl 0 true [] [])/\E3 P op t (Al x) (Al y)=.nils n (Al x))\/(∃td ks,P.underlying t=some td/\B8 td=true/\F4 P 8 t=some ks/\E3 P op t (Al x) (Al y)=.bin op (.cells ks) (Al x) (Al y))\/E3 P op t (Al x) (Al y)=.bin op .int (Al x) (Al y)\/E3 P op t (Al x) (Al y)=.bin op .bool (Al x) (Al y)/\P.underlying t=some .bool:=by
  unfold E3;split
  ·exact absurd rfl q1
  ·exact absurd rfl q2
  ·exact absurd rfl q3
  ·exact absurd rfl q4
  ·exact absurd rfl q5
  ·exact absurd rfl q6
  ·split
   ·grind
   ·grind
   ·grind
   ·grind
   ·grind
   ·grind
   ·rename_i fs hu;split
    ·rename_i ks hk;exact .inr (.inr (.inl ⟨_,ks,hu,rfl,hk,rfl⟩))
    ·exact .inl rfl
   ·rename_i n e hu;split
    ·rename_i ks hk;exact .inr (.inr (.inl ⟨_,ks,hu,rfl,hk,rfl⟩))
    ·exact .inl rfl
   all_goals grind
 rcases key with k|⟨n,e,ku,kop,ky,k⟩|⟨td,ks,ku,kd,kk,k⟩|k|⟨k,ku⟩
 ·rw[k]at hex;exact(Ia rfl hex).elim
 all_goals grind[AF,Ym,V0,bX,Yn]
theorem N7{S:Tab}(hS:TabOK P S)(gl:Gl U)(h:HInv U hp){env:Ar}(ht:TInv U env a)(hnm:¬U.al nm/\∃c,∀m,U.al m->m.2<=c){g:Bool}(hg:g=true)(hex:AF S env hp nm g (cK P o.op)=some (vc,r,ws))(hvc:vc):Step P o a U nm (ws++hp) r:=by
 have bad:AF S env hp nm g .bad=some (vc,r,ws)->Step P o a U nm (ws++hp) r:=λe=>(Ia rfl e).elim
 have A:=EZ hg ht;cases ho:o.op with
 |move x=>simp only[ho,cK,AF,yE,A57]at hex;obtain⟨_,rfl,rfl⟩:=hex;exact VX h (.inl ho) (A x)
 |assign x=>simp only[ho,cK,AF,yE,A57]at hex;obtain⟨_,rfl,rfl⟩:=hex;exact VX h (.inr ho) (A x)
 |pick c x y=>simp only[ho,cK,AF]at hex;exact Yh h hg ho (O6 ht c) (O6 ht x) (O6 ht y) hex
 |alloc t=>
  simp only[ho,cK]at hex;split at hex
  ·rename_i zs hz;split at hex
   ·simp[AF]at hex
   simp only[AF,yE,A57]at hex;obtain⟨_,rfl,rfl⟩:=hex;exact Xe h hnm.1 ho hz
  ·exact bad hex
 |box t x=>
  simp only[ho,cK,AF,SZ]at hex;split at hex
  ·rename_i cs hcs;split at hex
   ·simp only[yE,A57]at hex;obtain⟨_,rfl,rfl⟩:=hex;exact bK h hnm.1 ho (A x) hcs
   ·simp at hex
  ·simp at hex
 |build t parts=>
  simp only[ho,cK,Hk]at hex;split at hex
  ·rename_i zs pf hz hpf;split at hex
   ·rename_i ps hps;simp only[AF]at hex;exact Xg h (f:=λx=>Ay g (Ax env x)) ho hz hpf hps (λx=>A x) hex
   ·exact bad hex
  ·exact bad hex
 |buildSlice t len parts=>
  simp only[ho,cK]at hex;split at hex
  ·rename_i e he;split at hex
   ·rename_i i zs hi hz;split at hex
    ·rename_i h0;simp only[AF]at hex;exact bY h hnm.1 (f:=λx=>Ay g (Ax env x)) ho he hi hz h0 (λx=>A x) hex hvc
    ·exact bad hex
   ·exact bad hex
  ·exact bad hex
 |load t x=>
  simp only[ho,cK]at hex;split at hex
  ·rename_i d i hd hi;simp only[AF]at hex;exact lC gl h ho hd hi (A x) hex hvc
  ·exact bad hex
 |store t x y=>
  simp only[ho,cK]at hex;split at hex
  ·rename_i i hi;simp only[AF]at hex;exact lD h ho hi (A x) (A y) hex hvc (λ_ h=>.inl h)
  ·exact bad hex
 |fieldAddr s x f=>
  simp only[ho,cK]at hex;split at hex
  ·rename_i fs hfs;split at hex
   ·rename_i fd hfd;split at hex
    ·rename_i i hi;split at hex
     ·exact bad hex
     ·rename_i h0;simp only[AF]at hex;exact lE h ho hfs hfd hi h0 (A x) hex
    ·exact bad hex
   ·exact bad hex
  ·exact bad hex
 |field t x f=>
  simp only[ho,cK]at hex;split at hex
  ·rename_i fs hfs;split at hex
   ·rename_i fd hfd;split at hex
    ·rename_i d i hd hi;simp only[AF]at hex;exact bM h ho hfs hfd hd hi (A x) hex
    ·exact bad hex
   ·exact bad hex
  ·exact bad hex
 |indexAddr t x ix=>
  simp only[ho,cK]at hex;split at hex
  ·rename_i e he;split at hex
   ·rename_i i hi;simp only[AF]at hex;exact lF h ho he hi (A x) (A ix) hex hvc
   ·exact bad hex
  ·rename_i n e he;split at hex
   ·rename_i i hi;simp only[AF]at hex;exact bN h ho he hi (A x) (A ix) hex hvc
   ·exact bad hex
  ·exact bad hex
 |index t x ix=>
  simp only[ho,cK]at hex;split at hex
  ·rename_i n e he;split at hex
   ·rename_i d i hd hi;simp only[AF]at hex;exact Yi h ho he hd hi (A x) (A ix) hex hvc
   ·exact bad hex
  ·rename_i he;simp only[AF,w5,A22]at hex;exact Yv h ho he (A x) (A ix) hex hvc
  ·exact bad hex
 |binOp op t x y yt=>simp only[ho,cK]at hex;exact cX h ht hg ho hex hvc
 |unOp op t x=>simp only[ho,cK,AF]at hex;exact lG h ho (A x) hex hvc
 |extract x i=>simp only[ho,cK,AF]at hex;exact bO h ho (A x) hex
 |call c=>simp only[ho,cK]at hex;exact Yy hS gl h ht hnm hg ho hex hvc
 |makeFunc fn f c=>simp only[ho,cK,AF,yE,A57]at hex;obtain⟨_,rfl,rfl⟩:=hex;exact bT h ho (F2 hg ht _) (F2 hg ht _)
 |slice t x lo hi mx=>
  simp only[ho,cK]at hex;split at hex
  ·rename_i e he;split at hex
   ·rename_i i hi';simp only[AF]at hex;cases hm:S.m with
    |false=>rw[hm,A12]at hex;refine TH (f:=λy=>Ay g (Ax env (Al y))) h ho he hi' (A x) (λy=>A y) ?_ hvc;rw[<-hex];cases lo<;>cases hi<;>cases mx<;>rfl
    |true=>rw[hm,cond_true]at hex;refine Yq (f:=λy=>Ay g (Ax env (Al y))) h hnm.1 ho he hi' (A x) (λy=>A y) ?_ hvc;rw[<-hex];cases lo<;>cases hi<;>cases mx<;>rfl
   ·exact bad hex
  ·rename_i he;split at hex
   ·simp only[AF,w5,A22]at hex;exact M8 (lo:=none) (hi:=none) (f:=λy=>Ay g (Ax env (Al y))) h ho he (A x) (λy=>A y) hex hvc
   ·rename_i l;simp only[AF,w5,A22]at hex;exact M8 (lo:=some l) (hi:=none) (f:=λy=>Ay g (Ax env (Al y))) h ho he (A x) (λy=>A y) hex hvc
   ·rename_i l;simp only[AF,w5,A22]at hex;exact M8 (lo:=none) (hi:=some l) (f:=λy=>Ay g (Ax env (Al y))) h ho he (A x) (λy=>A y) hex hvc
   ·rename_i l l';simp only[AF,w5,A22]at hex;exact M8 (lo:=some l) (hi:=some l') (f:=λy=>Ay g (Ax env (Al y))) h ho he (A x) (λy=>A y) hex hvc
   ·exact bad hex
  ·exact bad hex
 |makeInterface t x=>
  simp only[ho,cK]at hex;split at hex
  ·rename_i fs hs;simp only[AF,w5,A22]at hex;exact cI h ho hs (A x) hex
  ·exact bad hex
 |typeAssert x xt t b=>
  simp only[ho,cK]at hex;split at hex
  ·rename_i fs hs hz;simp only[AF,w5,A22]at hex;exact cJ h ho hs hz (A x) hex hvc
  ·exact bad hex
 |panic x=>simp only[ho,cK,AF]at hex;simp at hex
 |defer c=>
  simp only[ho,cK]at hex;split at hex
  ·simp[AF]at hex
  ·exact bad hex
 |nilCheck x=>simp only[ho,cK,AF]at hex;exact bU h ho (A x) hex
 |convert src dst x=>
  simp only[ho,cK]at hex;split at hex
  ·rename_i hs hd;simp only[AF]at hex;exact bV h ho hs hd (A x) hex hvc
  ·rename_i k1 k2 hne hs hd;simp only[AF,w5,A22]at hex;exact cH h ho hs hd (A x) hex
  ·rename_i e hs hd;split at hex
   ·rename_i i hu hi;split at hex
    ·simp only[AF]at hex;exact cR h ho hs hd hu (A x) hex hvc
    ·exact bad hex
   ·exact bad hex
  ·exact bad hex
 |makeSlice t x y=>
  simp only[ho,cK]at hex;split at hex
  ·rename_i e he;split at hex
   ·rename_i i zs hi hz;split at hex
    ·rename_i h0;simp only[AF]at hex;exact bZ h hnm.1 ho he hi hz h0 (A x) (A y) hex hvc
    ·exact bad hex
   ·exact bad hex
  ·exact bad hex
 |entry x=>simp[ho,cK,AF]at hex
 |makeMap t r0=>
  cases r0 with
  |none=>simp only[ho,cK,AF,yE,A57]at hex;obtain⟨_,rfl,rfl⟩:=hex;exact cU h hnm.1 ho
  |some _=>simp only[ho,cK]at hex;exact bad hex
 |lookup t m x ok=>
  simp only[ho,cK,KI]at hex;split at hex
  ·rename_i kt et he;split at hex
   ·rename_i zd hk hz;simp only[AF]at hex;exact cW h ho he hk hz (A m) (A x) hex hvc
   ·exact bad hex
  ·exact bad hex
 |mapUpdate t m x y=>
  simp only[ho,cK,Jd]at hex;split at hex
  ·rename_i kt et he;split at hex
   ·rename_i hk;simp only[AF]at hex;exact TN h (.inl ho) he hk (A m) (A x) (A y) hex hvc
   ·exact bad hex
  ·exact bad hex
 |insert t m x y=>
  simp only[ho,cK,Jd]at hex;split at hex
  ·rename_i kt et he;split at hex
   ·rename_i hk;simp only[AF]at hex;exact TN h (.inr ho) he hk (A m) (A x) (A y) hex hvc
   ·exact bad hex
  ·exact bad hex
 |range t x=>
  simp only[ho,cK]at hex;split at hex
  ·simp[AF]at hex
  ·exact bad hex
 |next x s=>
  cases s
  ·simp[ho,cK,AF]at hex
  ·simp only[ho,cK]at hex;exact bad hex
 |_=>simp only[ho,cK]at hex;exact bad hex
def cG(ops:Array Oper)(g:Option (Nat×Bool)):Option (Option (Nat×Bool)):=match g with|none=>some none|some (j,want)=>match(ops[j]?).bind (·.dst)with|some d=>some (some (d,want))|none=>none
def Yz(nt:Nat):Option Nat->Bool|some d=>decide (d<nt)|none=>true
def JI(P:Program)(nt:Nat)(ops:Array Oper)(o:Oper):Option AOp:=match cG ops o.guard with|none=>none|some g=>if Yz nt o.dst=true then some ⟨o.dst,g,cK P o.op⟩else none
theorem TInv.mono{U σ':Cf}{env:Ar}{a:Act}(h:TInv U env a)(e:Evo U σ'):TInv σ' env a:=λt=>(h t).mono e
theorem TInv.put{env:Ar}{d:Option Nat}{v:Value}(h:TInv U env a)(hd:∀k,d=some k->k<a.tmps.size)(hr:Rep U r v):TInv U (BQ d r env) (a.put d v):=by
 intro t;cases d with
 |none=>exact h t
 |some k=>
  simp only[BQ,lk,Act.put];by_cases e:k=t
  ·simp_all
  ·have:=h t
   simp_all
theorem DA{env:Ar}{ops:Array Oper}{o:Oper}{ao:Option (Nat×Bool)}{g:Bool}(ht:TInv U env a)(hc:cG ops o.guard=some ao)(hg:D8 env ao=some g):Region.wanted o (yielded ops a.tmps)=g:=by
 unfold Region.wanted;cases hgd:o.guard with
 |none=>rw[hgd]at hc;grind[cG,D8]
 |some p=>
  obtain⟨j,want⟩:=p;rw[hgd]at hc;simp only[cG]at hc;split at hc
  ·rename_i d hd;simp at hc;subst hc;simp only[D8]at hg;have hr:=ht d;have hy:yielded ops a.tmps j=match a.tmps[d]? with|some (.bool b)=>some b|_=>none:=by unfold yielded;grind
   simp only[hy];unfold gb at hg;split at hg
   ·rename_i b hb;rw[hb]at hr;simp[Rep]at hr;simp at hg;cases hv:a.tmps[d]? with
    |none=>simp[hv,undef]at hr
    |some v=>simp[hv]at hr;subst hr;subst hg;cases b<;>cases want<;>rfl
   ·rename_i c b hb;rw[hb]at hr;simp only[Rep]at hr;simp at hg;subst hg;cases c with
    |true=>
     have hr':=hr.1 rfl;cases hv:a.tmps[d]? with
     |none=>simp[hv,undef]at hr'
     |some v=>simp[hv]at hr';subst hr';cases b<;>cases want<;>rfl
    |false=>
     cases hv:a.tmps[d]? with
     |none=>simp
     |some v=>simp_all[undef]
   ·simp at hg
  ·simp at hc
end
def Cx:Opd->List Nat|.t n=>[n]|.k _=>[]
def Ib(xs:List Opd):List Nat:=xs.flatMap Cx
def Kq:AK->List Nat|.mv x=>Cx x|.pr _ xs=>Ib xs|.b2s x=>Cx x|.pick c a b=>Cx c++Cx a++Cx b|.box _ x=>Cx x|.alloc _=>[]|.build _ ps=>ps.flatMap λp=>Cx p.2.2|.bsl _ _ _ ps=>ps.flatMap λp=>Cx p.2|.ld _ _ x=>Cx x|.st _ a x=>Cx a++Cx x|.fa _ x=>Cx x|.fld _ _ _ x=>Cx x|.ia _ x i=>Cx x++Cx i|.iaA _ _ x i=>Cx x++Cx i|.idxA _ _ _ x i=>Cx x++Cx i|.bin _ _ x y=>Cx x++Cx y|.un _ x=>Cx x|.ext x _=>Cx x|.call _ as=>Ib as|.cv x as=>Cx x++Ib as|.len x=>Cx x|.app _ _ _ s x=>Cx s++Cx x|.mm _ xs=>Ib xs|.mkf _ a b=>Ib a++Ib b|.slc _ x l h m=>Cx x++Ib l.toList++Ib h.toList++Ib m.toList|.nilc x=>Cx x|.cnv _ x=>Cx x|.nils _ x=>Cx x|.cap x=>Cx x|.appn _ _ _ s x=>Cx s++Cx x|.pan x=>Cx x|.dfr x=>Cx x|.rcv=>[]|.clr _ _ x=>Cx x|.allocB _=>[]|.mks _ _ _ n c=>Cx n++Cx c|.ent x=>Cx x|.mkm=>[]|.mlk _ _ m k=>Cx m++Cx k|.mup m k x=>Cx m++Cx k++Cx x|.rng x=>Cx x|.nxt x=>Cx x|.bad=>[]
def Lu(o:AOp):List Nat:=(match o.g with|some (t,_)=>[t]|none=>[])++Kq o.k
def hw:AK->Bool|.clr _ _ _|.allocB _|.pan _|.dfr _|.rcv|.mks _ _ _ _ _|.ent _|.mkm|.mup _ _ _|.rng _|.nxt _|.box _ _|.alloc _|.bsl _ _ _ _|.st _ _ _|.call _ _|.cv _ _|.app _ _ _ _ _|.appn _ _ _ _ _|.slc _ _ _ _ _=>true|_=>false
def ht:AK->Bool|.ld _ _ _|.ia _ _ _|.len _|.b2s _|.mlk _ _ _ _=>true|k=>hw k
def Di(o:Oper):List Nat:=(o.after.toList.filter λe=>Region.binds .any e).map (·.on)
def Hl(B:List Nat)(es:List Nat):Nat:=es.foldl (λs e=>s|||2^e|||B.getD e 0) 0
def QA(B:List Nat):Nat->List Oper->Bool|_,[]=>true|j,o::r=>(Di o).all (λe=>decide (e<j))&&(B.getD j 0==Hl B (Di o))&&QA B (j+1) r
def Ic(a b:AOp):Bool:=(match a.d with|none=>true|some t=> !(Lu b).contains t&&b.d !=some t)&&(match b.d with|none=>true|some t=> !(Lu a).contains t)
def QB(B:Nat)(o:AOp):Nat->List AOp->Bool|_,[]=>true|k,p::r=>(B.testBit k||Ic p o)&&QB B o (k+1) r
def O7(B:Nat)(j:Nat)(o:AOp):Nat->List AOp->List (Nat×Nat)|_,[]=>[]|k,p::r=>bif !B.testBit k&&((hw p.k&&ht o.k)||(ht p.k&&hw o.k))then(k,j)::O7 B j o (k+1) r else O7 B j o (k+1) r
def YA(B:List Nat)(all:List AOp):Nat->List AOp->Bool|_,[]=>true|j,o::r=>QB (B.getD j 0) o 0 (all.take j)&&YA B all (j+1) r
def YB(B:List Nat)(all:List AOp):Nat->List AOp->List (Nat×Nat)|_,[]=>[]|j,o::r=>O7 (B.getD j 0) j o 0 (all.take j)++YB B all (j+1) r
def QC{E:Type}:List Nat->(List Nat->E)->E
 |[],k=>k []
 |x::xs,k=>CheckFast.force x λv=>QC xs λvs=>k (v::vs)
theorem Sd{E:Type}:∀(l:List Nat)(k:List Nat->E),QC l k=k l
 |[],_=>rfl
 |x::xs,k=>by simp only[QC,CheckFast.force_eq,Sd xs]
def QD(ops:Array Oper)(l:List AOp):Option (List (Nat×Nat)):=QC (CheckFast.beforeF ops).toList λB=>bif QA B 0 ops.toList&&YA B l 0 l then some (YB B l 0 l)else none
