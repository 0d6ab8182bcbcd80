import Derived.Test.YtjdchfljifacoaaGreatDoorA9
import Derived.ProofKit
import Derived.OpenShut
set_option linter.all false
namespace Go.Proofs.YtjdchfljifacoaaGreatDoor.Am
open Go Go.RowKit Go.ChangeShapes
inductive Cs where
 |i
 |b
 |y
 |t
 |s (row:List Cs)
 deriving Inhabited
def MH(n:Int):Prop:= -9223372036854775808<=n/\n<=9223372036854775807
mutual
def CellOK:Cs->AV->Prop|.i,a=>∃n,MH n/\a=.v (.int .i64 n)|.b,a=>∃x,a=.v (.bool x)|.y,a=>∃n:Int,(0<=n/\n<=255)/\a=.v (.int .u8 n)|.t,a=>∃s:List UInt8,s.length<=maxLen/\a=.v (.string (sB s))|.s row,a=>∃rows:List (List AV),a=.sl row.length false rows []/\∀r∈rows,CellsOK row r
def CellsOK:List Cs->List AV->Prop|[],as=>as=[]|c::cs,as=>∃x xs,as=x::xs/\CellOK c x/\CellsOK cs xs
end
mutual
theorem CellOK.pure:∀(c:Cs)(a:AV),CellOK c a->BN a=true
 |.i,a,h=>by obtain⟨n,_,rfl⟩:=h;rfl
 |.b,a,h=>by obtain⟨n,rfl⟩:=h;rfl
 |.y,a,h=>by obtain⟨n,_,rfl⟩:=h;rfl
 |.t,a,h=>by obtain⟨n,_,rfl⟩:=h;rfl
 |.s row,a,h=>by obtain⟨rows,rfl,_⟩:=h;rfl
theorem CellsOK.pure:∀(cs:List Cs)(as:List AV),CellsOK cs as->AA as=true
 |[],as,h=>by subst h;rfl
 |c::cs,as,h=>by obtain⟨x,xs,rfl,h1,h2⟩:=h;simp only[AA,CellOK.pure c x h1,CellsOK.pure cs xs h2,Bool.and_self]
end
theorem CellsOK.app:∀{cs cs':List Cs}{as as':List AV},CellsOK cs as->CellsOK cs' as'->CellsOK (cs++cs') (as++as')
 |[],cs',as,as',h,h'=>by grind[CellsOK]
 |c::cs,cs',as,as',h,h'=>by obtain⟨x,xs,rfl,h1,h2⟩:=h;exact⟨x,_,rfl,h1,h2.app h'⟩
theorem CellsOK.len:∀{cs:List Cs}{as:List AV},CellsOK cs as->as.length=cs.length
 |[],as,h=>by subst h;rfl
 |c::cs,as,h=>by obtain⟨x,xs,rfl,h1,h2⟩:=h;simp[h2.len]
def MI(P:Program)(g:TypeId->Option (List Cs)):List Field->Nat->Option (List Cs)|[],_=>some []|f::fs,off=>match g f.type with|some row=>if f.offset=off/\P.cellsOf f.type=row.length then(MI P g fs (off+row.length)).map (row++·)else none|none=>none
def If(P:Program):Nat->TypeId->Option (List Cs)
 |0,_=>none
 |n+1,t=>match P.underlying t with
  |some .bool=>some [.b]
  |some (.int .i64)=>some [.i]
  |some (.int .u8)=>some [.y]
  |some .string=>some [.t]
  |some (.slice e)=>match If P n e with|some row=>if 0<row.length/\P.cellsOf e=row.length then some [.s row]else none|none=>none
  |some (.struct fs)=>match MI P (If P n) fs.toList 0 with|some css=>if css.length=P.cellsOf t then some css else none|none=>none
  |some (.array k e)=>match If P n e with|some row=>if P.cellsOf e=row.length/\k*row.length=P.cellsOf t then some (List.replicate k row).flatten else none|none=>none
  |_=>none
section
variable{φ:Type}{enc:TypeId×Value->φ}{P:Program}{ρ:World}{held:Bool}{spare:Nat->Bool}{U:Cf}
theorem sN{n:Int}(h:(Lit.int .i64 n).wf=true):MH n:=by grind[Lit.wf,IntKind.min,IntKind.max,IntKind.signed,IntKind.bits,MH]
theorem SQ{a:Addr}{n:Nat}{x:Value}(h:ρ.cell? (a.add n)=some x):ρ.cell? ⟨a.block,a.off+n,none⟩=some x:=by
 unfold Addr.add at h;split at h
 ·simp only[World.cell?]at h⊢;grind
 ·exact h
theorem Xp(hw:U.w=ρ){a:Addr}{m:Nat}{cs:List Value}{as:List AV}(h:ρ.cells? 0 a m=some cs)(hr:RepL U as cs)(h1:∀x∈cs,Bp x=true):RepCells U a.block a.off as:=by
 refine Fi λj c hj=>?_
 obtain⟨x,g1,g2⟩:=C1 hr j c hj;refine⟨x,?_,by grind,g2⟩;rw[hw];have hlen:=mapM_some_length h;have hjl:j<cs.length:=by grind
 have hjm:=by simpa[hlen]using hjl
 have:=mapM_some_get h j j (by simp[hjm]);rw[g1]at this;exact SQ this
theorem YM{g:TypeId->Option (List Cs)}{T:TypeId->List Value->Prop}(hg:∀t css cs,g t=some css->T t cs->∃as,RepL U as cs/\CellsOK css as/\(∀y∈cs,Bp y=true)/\cs.length=css.length):∀(fs:List Field)(off:Nat)(css:List Cs)(cs:List Value),MI P g fs off=some css->(∀f∈fs,T f.type ((cs.drop f.offset).take (P.cellsOf f.type)))->cs.length=off+css.length->∃as,RepL U as (cs.drop off)/\CellsOK css as/\∀y∈cs.drop off,Bp y=true
 |[],off,css,cs,h,_,hl=>by simp_all[MI,List.drop_eq_nil_of_le,RepL,CellsOK]
 |f::fs,off,css,cs,h,hT,hl=>by
  simp only[MI]at h;split at h
  ·rename_i row hrow;split at h
   ·rename_i hc;obtain⟨rest,hr,rfl⟩:=Option.map_eq_some_iff.1 h;have h1:=hT f (by simp);rw[hc.1,hc.2]at h1;obtain⟨as1,a1,a2,a3,a4⟩:=hg f.type row _ hrow h1;obtain⟨as2,b1,b2,b3⟩:=YM hg fs (off+row.length) rest cs hr (by grind) (by simp at hl;omega);have hsplit:cs.drop off=(cs.drop off).take row.length++cs.drop (off+row.length):=by rw[<-List.drop_drop,A37]
    refine⟨as1++as2,?_,a2.app b2,?_⟩;all_goals grind[Dz]
   ·simp at h
  ·simp at h
theorem Wi{row:List Cs}{cs:List Value}:∀(m:Nat),(∀i,i<m->∃as,RepL U as ((cs.drop (i*row.length)).take row.length)/\CellsOK row as/\∀y∈(cs.drop (i*row.length)).take row.length,Bp y=true)->∃as,RepL U as (cs.take (m*row.length))/\CellsOK (List.replicate m row).flatten as/\∀y∈cs.take (m*row.length),Bp y=true
 |0,_=>⟨[],by simp[RepL],by simp[CellsOK],by simp⟩
 |m+1,h=>by
  obtain⟨as1,a1,a2,a3⟩:=Wi m (λi hi=>h i (by omega));obtain⟨as2,b1,b2,b3⟩:=h m (by omega);have hsplit:cs.take ((m+1)*row.length)=cs.take (m*row.length)++(cs.drop (m*row.length)).take row.length:=by rw[A42,List.take_add]
  refine⟨as1++as2,?_,?_,?_⟩
  ·rw[hsplit];exact Dz a1 b1
  ·rw[List.replicate_succ',List.flatten_append];simpa using a2.app b2
  grind
theorem Nt(hw:U.w=ρ)(hM:∀b,¬U.M b)(hO:∀b,¬U.O b):∀(n:Nat)(t:TypeId)(css:List Cs)(fuel:Nat)(cs:List Value)(x:DataW φ×List MemPlace),If P n t=some css->DataW.trod enc P ρ 0 spare held fuel t cs=some x->∃as,RepL U as cs/\CellsOK css as/\(∀y∈cs,Bp y=true)/\cs.length=css.length
 |0,_,_,_,_,_,h,_=>by simp[If]at h
 |n+1,t,css,fuel,cs,x,h,hx=>by
  simp only[If]at h;split at h
  ·rename_i hu;simp at h;subst h;obtain⟨b,rfl,_⟩:=DataW.trod_bool hu hx;exact⟨[.v (.bool b)],by simp[RepL,Rep],by simp[CellsOK,CellOK],by simp[Bp],rfl⟩
  ·rename_i hu;simp at h;subst h;obtain⟨m,rfl,_,hwf⟩:=DataW.trod_int hu hx;exact⟨[.v (.int .i64 m)],by simp[RepL,Rep],by simp[CellsOK,CellOK,sN hwf],by simp[Bp],rfl⟩
  ·rename_i hu;simp at h;subst h;obtain⟨m,rfl,_,hwf⟩:=DataW.trod_int hu hx;have hb:0<=m/\m<=255:=by grind[Lit.wf,IntKind.min,IntKind.max,IntKind.signed,IntKind.bits]
   exact⟨[.v (.int .u8 m)],by simp[RepL,Rep],by simp[CellsOK,CellOK,hb],by simp[Bp],rfl⟩
  ·rename_i hu;simp at h;subst h;obtain⟨m,rfl,_,hwf⟩:=DataW.trod_string hu hx;exact⟨[.v (.string m)],by simp[RepL,Rep],⟨_,_,rfl,⟨bL m,hwf,by rw[MS]⟩,rfl⟩,by simp[Bp],rfl⟩
  ·rename_i e hu;split at h
   ·rename_i row hrow;split at h
    ·rename_i hpos;simp at h;subst h;rcases DataW.trod_slice hu hx with⟨rfl,_⟩|⟨a,len,cap,elems,rest,m,_,rfl,_,_,hlc,_,hel,hget,_,_⟩
     ·refine⟨[.sl row.length false [] []],?_,?_,by simp[Bp],rfl⟩;all_goals grind[RepL,Rep,CellsOK,CellOK]
     ·
      have key:∀i,i<len->∃as,as.length=row.length/\CellsOK row as/\RepCells U a.block (a.off+i*row.length) as/\a.block<ρ.heap.size:=by
       intro i hi;have hg:=hget i hi;have hi':i<elems.length:=by omega
       rw[t6 hi']at hg;obtain⟨cs',h1,h2⟩:=yB.1 hg;obtain⟨as,k1,k2,k3,k4⟩:=Nt hw hM hO n e row m cs' _ hrow h2;rw[hpos.2]at h1;have hr:=Xp hw h1 k1 k3;have hb:(a.add (i*row.length)).block=a.block:=by unfold Addr.add;split<;>rfl
       have ho:(a.add (i*row.length)).off=a.off+i*row.length:=by unfold Addr.add;grind
       rw[hb,ho]at hr;refine⟨as,k2.len,k2,hr,?_⟩;have:0<as.length:=by rw[k2.len];exact hpos.1
       cases as<;>grind[RepCells,World.cell?]
      have rows:∀k,k<=len->∃rows:List (List AV),rows.length=k/\(∀r∈rows,CellsOK row r)/\∀(i:Nat)(r:List AV),rows[i]? =some r->r.length=row.length/\RepCells U a.block (a.off+i*row.length) r:=by
       intro k;induction k with
       |zero=>simp_all
       |succ k ih=>intro hk;obtain⟨rows,r1,r2,r3⟩:=ih (by omega);obtain⟨as,q1,q2,q3,_⟩:=key k (by omega);refine⟨rows++[as],by simp[r1],λr hr=>?_,λi r hi=>?_⟩;all_goals grind
      obtain⟨rows,r1,r2,r3⟩:=rows len (w6 _);refine⟨[.sl row.length false rows []],?_,?_,by simp[Bp],rfl⟩
      ·simp only[RepL,Rep];refine⟨_,_,rfl,⟨some a,cap,by rw[r1],by omega,by simp,λr hr=>(r2 r hr).pure,?_⟩,rfl⟩;rcases Nat.eq_zero_or_pos len with h0|h0
       ·grind
       ·right;obtain⟨as,_,_,_,hlt⟩:=key 0 h0;have hsp:a.spot=none:=by
         have hg:=hget 0 h0;have hi':0<elems.length:=by omega
         rw[t6 hi']at hg;obtain⟨cs',h1,_⟩:=yB.1 hg;rw[hpos.2]at h1;simp only[World.cells?,A16,if_true]at h1;have hlen:=mapM_some_length h1;have:=mapM_some_get h1 0 0 (by simp[hpos.1]);have hc0:0<cs'.length:=by simp at hlen;omega
         rw[t6 hc0]at this;have e:((a.add (0*row.length)).add 0)=a:=by simp[Addr.add]
         rw[e]at this;simp only[World.cell?]at this;split at this;all_goals simp_all
        refine⟨a.block,a.off,?_,⟨hM _,hO _,by rw[hw];exact hlt⟩,H6 r3⟩;cases a
        simp only at hsp;rw[hsp]
      grind[CellsOK,CellOK]
    ·simp at h
   ·simp at h
  ·rename_i fs hu;split at h
   ·rename_i css' hcss;split at h
    ·obtain⟨xs,m,_,_,hl,hxl,hf⟩:=DataW.trod_struct hu hx;obtain⟨as,k1,k2,k3⟩:=YM (U:=U) (P:=P) (g:=If P n) (T:=λt cs=>∃y,DataW.trod enc P ρ 0 spare held m t cs=some y)
      (λt css cs h1 ⟨y,h2⟩=>Nt hw hM hO n t css m cs y h1 h2) fs.toList 0 css' cs hcss (λf hfm=>by
       obtain⟨i,hi,rfl⟩:=List.getElem_of_mem hfm;have hi':i<fs.size:=by simpa using hi
       have:=hf i fs[i] (by simp[hi']);grind) (by omega)
     grind
    ·simp at h
   ·simp at h
  ·rename_i k e hu;split at h
   ·rename_i row hrow;split at h
    ·rename_i hc;simp at h;subst h;obtain⟨xs,m,_,_,hl,hxl,hf⟩:=DataW.trod_array hu hx;obtain⟨as,k1,k2,k3⟩:=Wi (U:=U) (row:=row) (cs:=cs) k (λi hi=>by have:=hf i hi;rw[t6 (by omega),hc.1]at this;obtain⟨as,q1,q2,q3,_⟩:=Nt hw hM hO n e row m _ _ hrow this;exact⟨as,q1,q2,q3⟩);have e1:cs.take (k*row.length)=cs:=by grind
     rw[e1]at k1 k3;exact⟨as,k1,k2,k3,by simp;omega⟩
    ·simp at h
   ·simp at h
  ·simp at h
end
def Xq(P:Program)(t:TypeId):Bool:=match P.underlying t with|some (.struct _)|some (.array _ _)=>true|_=>false
def TY(P:Program)(t:TypeId):Option (Bool×List Cs):=(If P 9 t).map λcss=>(Xq P t,css)
def ArgOK(sh:Bool×List Cs)(a:AV):Prop:=match sh.1 with|true=>∃as,a=.agg as/\CellsOK sh.2 as|false=>CellsOK sh.2 [a]
def ArgsOK:List (Bool×List Cs)->List AV->Prop|[],as=>as=[]|sh::shs,as=>∃a as',as=a::as'/\ArgOK sh a/\ArgsOK shs as'
def Kv(P:Program):List TypeId->Option (List (Bool×List Cs))|[]=>some []|t::ts=>match TY P t,Kv P ts with|some x,some xs=>some (x::xs)|_,_=>none
theorem ArgOK.pure{sh:Bool×List Cs}{a:AV}(h:ArgOK sh a):BN a=true:=by
 unfold ArgOK at h;split at h
 ·obtain⟨as,rfl,h⟩:=h;simpa[BN]using h.pure
 grind[h.pure,AA]
theorem ArgsOK.pure:∀{shs:List (Bool×List Cs)}{as:List AV},ArgsOK shs as->AA as=true
 |[],as,h=>by subst h;rfl
 |sh::shs,as,h=>by obtain⟨a,as',rfl,h1,h2⟩:=h;simp[AA,h1.pure,h2.pure]
section
variable{φ:Type}{enc:TypeId×Value->φ}{P:Program}{ρ:World}{U:Cf}
theorem Xr(hw:U.w=ρ)(hM:∀b,¬U.M b)(hO:∀b,¬U.O b){base:Nat}{t:TypeId}{v:Value}{d:DataW φ}{p:List MemPlace}{sh:Bool×List Cs}(hsh:TY P t=some sh)(h:DataW.Trod enc P ρ 0 (λ_=>true) true t v d p)(hok:Value.okWide P ρ .any base t v):∃a,Rep U a v/\ArgOK sh a:=by
 obtain⟨css,hcss,rfl⟩:=Option.map_eq_some_iff.1 hsh;obtain⟨fuel,hf⟩:=h;obtain⟨as,k1,k2,k3,k4⟩:=Nt hw hM hO 9 t css fuel _ _ hcss hf;unfold Value.okWide at hok;cases hag:Xq P t with
 |true=>
  unfold Xq at hag;have hv:∃cs,v=.agg cs:=by grind
  obtain⟨cs,rfl⟩:=hv;refine⟨.agg as,?_,?_⟩
  ·simp only[Rep];exact⟨cs.toList,rfl,by assumption,by assumption⟩
  ·simp only[ArgOK];exact⟨as,rfl,k2⟩
 |false=>
  have hone:v.cells=#[v]/\css.length=1:=by
   simp only[If]at hcss;split at hcss
   ·rename_i hu;rw[hu]at hok;simp at hcss;subst hcss;cases v<;>simp[Cell.okWide,Cell.ok,hu,Value.cells]at hok⊢
   ·rename_i hu;rw[hu]at hok;simp at hcss;subst hcss;cases v<;>simp[Cell.okWide,Cell.ok,hu,Value.cells]at hok⊢
   ·rename_i hu;rw[hu]at hok;simp at hcss;subst hcss;cases v<;>simp[Cell.okWide,Cell.ok,hu,Value.cells]at hok⊢
   ·rename_i hu;simp at hcss;subst hcss;cases v<;>simp[Cell.okWide,Cell.ok,hu,Value.cells]at hok⊢
   ·rename_i e hu;split at hcss
    ·split at hcss
     ·simp at hcss;subst hcss;cases v<;>simp[Cell.okWide,Cell.ok,hu,Value.cells]at hok⊢
     ·simp at hcss
    ·simp at hcss
   all_goals simp_all[Xq]
  have hl:=k2.len;cases as<;>grind[RepL,ArgOK]
theorem Pz(hw:U.w=ρ)(hM:∀b,¬U.M b)(hO:∀b,¬U.O b){base:Nat}:∀{ts:List TypeId}{vs:List Value}{ds:List (DataW φ)}{p:List MemPlace}{shs:List (Bool×List Cs)},Kv P ts=some shs->DataW.TrodAll enc P ρ 0 (λ_=>true) true ts vs ds p->(∀(j:Nat) t v,ts[j]? =some t->vs[j]? =some v->Value.okWide P ρ .any base t v)->∃as,RepL U as vs/\ArgsOK shs as
 |[],[],[],p,shs,hs,h,_=>by simp_all[Kv,RepL,ArgsOK]
 |t::ts,v::vs,d::ds,p,shs,hs,h,hok=>by
  obtain⟨p1,q1,h1,h2,_⟩:=h;simp only[Kv]at hs;split at hs
  ·rename_i x xs hx hxs;simp at hs;subst hs;obtain⟨a,a1,a2⟩:=Xr hw hM hO hx h1 (hok 0 t v rfl rfl);obtain⟨as,b1,b2⟩:=Pz hw hM hO hxs h2 λj t v ht hv=>hok (j+1) t v (by simpa using ht) (by simpa using hv)
   exact⟨a::as,by simp only[RepL];grind,by simp only[ArgsOK];grind⟩
  ·simp at hs
 |[],_::_,_,_,_,_,h,_=>h.elim
 |[],[],_::_,_,_,_,h,_=>h.elim
 |_::_,[],_,_,_,_,h,_=>h.elim
 |_::_,_::_,[],_,_,_,h,_=>h.elim
theorem NP(hl:laidOutB P=true){ρ W':World}{sp:Nat->Bool}:∀{ts:List TypeId}{vs:List Value}{ds:List (DataW φ)}{p:List MemPlace},ts.all (λt=>P.readableRec t&&decide (t<P.types.size))=true->DataW.TrodAll enc P ρ 0 (λ_=>true) true ts vs ds p->(∀x∈p,ρ.sameAt W' x)->(∀x∈p,sp x.block=true)->DataW.TrodAll enc P W' 0 sp true ts vs ds p
 |[],[],[],p,_,h,_,_=>h
 |t::ts,v::vs,d::ds,p,hr,h,hs,hb=>by obtain⟨p1,q1,h1,h2,rfl⟩:=h;simp only[List.all_cons,y8]at hr;exact⟨p1,q1,by grind[WideElems.Trod_stays],NP hl hr.2 h2 (by grind) (by grind),rfl⟩
 |[],_::_,_,_,_,h,_,_=>h.elim
 |[],[],_::_,_,_,h,_,_=>h.elim
 |_::_,[],_,_,_,h,_,_=>h.elim
 |_::_,_::_,[],_,_,h,_,_=>h.elim
theorem dK{fn:Func}{s:ChangeSpec}{apart fresh handsOn again:Bool}{ρ W':World}{args:Array Value}{ds gs:List (DataW φ)}{before:List MemPlace}{tb:TypeId}(hW:DataW.Whole enc P fn.params.toList s.vars apart ρ args.toList ds gs before)(hvars:s.vars=[])(hs:s.fn φ ds={results:=[.lit (.bool true)],args:=ds})(hres:fn.resultTypes=#[tb])(hb:P.underlying tb=some .bool)(hl:laidOutB P=true)(hr:fn.params.toList.all (λt=>P.readableRec t&&decide (t<P.types.size))=true)(hk:∀(b:Nat) (o:Obj),ρ.heap[b]? =some o->W'.heap[b]? =some o)(ho:SameO ρ W'):s.post enc P fn apart fresh handsOn again ρ args (.bool true) W':=by
 let W2:World:={W' with tape:=ρ.tape}
 have hsz:ρ.heap.size<=W'.heap.size:=Lk hk;have hbel:Below ρ.heap.size ρ W2:=⟨ho.1,rfl,ho.2,hsz,by grind⟩
 have hW':=hW;obtain⟨p,q,hA,hV,rfl,hz,hn⟩:=hW';rw[hvars]at hV;obtain⟨rfl,rfl⟩:=trodVars_none hV;simp only[A05]at*;have hlt:=hA.lt;have hsame:∀x∈p,ρ.sameAt W' x:=λx hx=>hbel.same (hlt x hx)
 have hargs:∀sp:Nat->Bool,(∀x∈p,sp x.block=true)->DataW.TrodAll enc P W' 0 sp true fn.params.toList args.toList ds p:=by grind[NP]
 have hvars':∀sp:Nat->Bool,DataW.TrodVars enc P W' sp s.vars [] []:=λsp=>by rw[hvars];rfl
 have hresl:(Value.bool true).resultList fn.resultTypes.size=[.bool true]:=by rw[hres];rfl
 have hres':∀(b:Nat)(sp:Nat->Bool)(hd:Bool),DataW.TrodAll enc P W' b sp hd fn.resultTypes.toList ((Value.bool true).resultList fn.resultTypes.size) [.lit (.bool true)] []:=by grind[trodAll_mk1,shut_bool]
 have hfrz:∀b off,MemPlace.cell b off∈p->W'.frozen? ⟨b,off,none⟩=false:=λb off hx=>by have h1:=hz b off (by simpa using hx);have h2:W2.frozen? ⟨b,off,none⟩=ρ.frozen? ⟨b,off,none⟩:=hbel.frozen (hlt _ hx);exact h2.trans h1
 refine⟨ds,[],p,[],p,[],hW,?_,?_,?_,?_,λ_=>?_⟩
 ·grind
 ·grind
 ·grind
 ·have h3:=hbel.frame (λx=>x∈p/\(x∈([]:List MemPlace)\/x∈p\/x∈([]:List MemPlace)));assumption
 ·refine⟨ok_one hres rfl (okWide_bool_mk hb _),[.lit (.bool true)]++ds,[],p,⟨[]++p,[],?_,hvars' _,by simp,?_,?_⟩,?_⟩
  ·exact trodAll_append (by grind) (by grind)
  ·assumption
  all_goals grind
end
section
variable{φ:Type}{enc:TypeId×Value->φ}{P:Program}
theorem PA{ρ:World}{base:Nat}{sp:Nat->Bool}{hd:Bool}:∀{ts:List TypeId}{vs:List Value}{ds:List (DataW φ)}{p:List MemPlace},DataW.TrodAll enc P ρ base sp hd ts vs ds p->ds.length=ts.length
 |[],[],[],_,_=>rfl
 |t::ts,v::vs,d::ds,_,h=>by obtain⟨_,_,_,h2,_⟩:=h;simp[PA h2]
 |[],_::_,_,_,h=>h.elim
 |[],[],_::_,_,h=>h.elim
 |_::_,[],_,_,h=>h.elim
 |_::_,_::_,[],_,h=>h.elim
def GlW(ρ:World):Prop:=∀b j,j<(GT b).length->ρ.cell? ⟨b,j,none⟩=some (.int .i64 ((GT b).getD j 0))
theorem TZ{f:Nat}{fn:Func}{s:ChangeSpec}{shs:List (Bool×List Cs)}{tb:TypeId}{apart fresh handsOn again:Bool}(hpc:∀as,ArgsOK shs as->PCall P f as (.b true))(hsh:Kv P fn.params.toList=some shs)(hvars:s.vars=[])(hs:∀ds:List (DataW φ),ds.length=fn.params.toList.length->s.fn φ ds={results:=[.lit (.bool true)],args:=ds})(hres:fn.resultTypes=#[tb])(hb:P.underlying tb=some .bool)(hl:laidOutB P=true)(hr:fn.params.toList.all (λt=>P.readableRec t&&decide (t<P.types.size))=true)(ρ:World)(base:Nat)(args:Array Value)(ds gs:List (DataW φ))(before:List MemPlace)(hval:∀(j:Nat) t v,fn.params[j]? =some t->args[j]? =some v->Value.okWide P ρ .any base t v)(hW:DataW.Whole enc P fn.params.toList s.vars apart ρ args.toList ds gs before)(hgw:GlW ρ):Calls P f args ρ λe W'=>∃v,e=.returned v/\s.post enc P fn apart fresh handsOn again ρ args v W':=by
 let U:Cf:={rb:=λ_=>0,ra:=λ_=>(none,0),M:=λ_=>False,O:=λ_=>False,ln:=λ_=>none,al:=λ_=>False,w:=ρ}
 have hA:=hW;obtain⟨p,q,hA,_⟩:=hA;obtain⟨as,h1,h2⟩:=Pz (U:=U) (hw:=rfl) (λ_ h=>h) (λ_ h=>h) hsh hA (λj t v ht hv=>hval j t v (by simpa using ht) (by simpa using hv));have:=hpc as h2 U args.toList (λb j hj=>⟨⟨λh=>h,λh=>h,World.block_lt_of_cell? _ _ (hgw b j hj)⟩,hgw b j hj⟩) (by grind) h2.pure h1;refine this.mono ?_;rintro e W' ⟨v,rfl,g1,g2,g3,g4⟩;simp only[Rep]at g4;exact⟨_,rfl,by grind[dK,PA]⟩
end
