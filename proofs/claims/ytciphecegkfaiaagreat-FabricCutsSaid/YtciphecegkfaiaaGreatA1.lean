import Derived.Test.YtciphecegkfaiaaGreatG0
import Derived.WalkKit
import Derived.CallsIn
import Derived.OrdersIn
import Derived.RangeFuncIn
import Derived.KernelRfl
import Derived.Laws.StructEq
namespace Go.Proofs.YtciphecegkfaiaaGreat.Am
theorem yB {α β:Type _} {o:Option α} {f:α→Option β} {b:β}:o.bind f=some b↔∃a,o=some a∧f a=some b:=Option.bind_eq_some_iff
theorem yJ {α:Type _} {a b:α} (h:some a=some b):a=b:=Option.some.inj h
theorem yE {α:Type _} (a b:α):(some a=some b)=(a=b):=Option.some.injEq a b
theorem yF:(false=true)=False:=Bool.false_eq_true
theorem yT:True:=True.intro
theorem yX {α:Type _} {o:Option α} (h:o.isSome=true):∃a,o=some a:=Option.isSome_iff_exists.1 h
set_option linter.unusedSimpArgs false
set_option linter.unusedVariables false
open Go
abbrev Nm:=Nat×Nat
def Gq (n:Nm):Bool:=decide (5000000≤n.1)
inductive AV where
 |v (x:Value)
 |sl (sz:Nat) (full:Bool) (rows:List (List AV)) (d:List AV)
 |ro (cells:List AV) (off:Nat)
 |agg (cs:List AV)
 |tup (cs:List AV)
 |clo (fn:Fn) (first caps:List AV)
 |box (n:Nm) (off:Nat)
 |own (n:Nm) (len:Nat)
 |elem (n:Nm) (len sz i off:Nat)
 |gd (b:Bool) (x:AV)
 |mp (n:Nm)
 |un
 deriving Inhabited
@[reducible] def AV.i (n:Int):AV:= .v (.int .i64 n)
@[reducible] def AV.b (x:Bool):AV:= .v (.bool x)
def Bq:Value→Bool
 | .agg _=>false
 | .tuple _=>false
 |_=>true
structure Cf where
 rb:Nm→Nat
 ra:Nm→Option Addr×Nat
 M:Nat→Prop
 O:Nat→Prop
 ln:Nm→Option Nat
 al:Nm→Prop
 w:World
mutual
def Cg:AV→Bool
 | .v _=>true
 | .sl _ _ _ _=>true
 | .ro _ _=>true
 | .agg cs=>AB cs
 | .tup cs=>AB cs
 | .clo _ xs ys=>AB xs&&AB ys
 | .gd _ x=>Cg x
 | .un=>true
 |_=>false
def AB:List AV→Bool
 |[]=>true
 |c::cs=>Cg c&&AB cs
end
def Fz (σ:Cf) (b:Nat):Prop:=¬σ.M b∧¬σ.O b∧b<σ.w.heap.size
mutual
def Rep (σ:Cf):AV→Value→Prop
 | .v x,v=>v=x
 | .sl sz full rows _,v=>∃base cap,v= .slice base rows.length cap∧rows.length≤cap∧(full=true→cap=rows.length)∧(∀r∈rows,AB r=true)∧
   (rows=[]∨∃b o,base=some ⟨b,o,none⟩∧Fz σ b∧RepRows σ sz b o rows)
 | .ro cells off,v=>∃b o,v= .pointer (some ⟨b,o+off,none⟩)∧Fz σ b∧AB cells=true∧RepCells σ b o cells
 | .agg cs,v=>∃xs:List Value,v= .agg xs.toArray∧(∀x∈xs,Bq x=true)∧RepL σ cs xs
 | .tup cs,v=>∃xs:List Value,v= .tuple xs.toArray∧RepL σ cs xs
 | .clo fn first caps,v=>∃xs ys:List Value,v= .func fn xs.toArray ys.toArray∧RepL σ first xs∧RepL σ caps ys
 | .box n off,v=>σ.al n∧v= .pointer (some ⟨σ.rb n,off,none⟩)
 | .own n len,v=>σ.al n∧Bq v=true∧∀l,σ.ln n=some l→len≤l∧(len=l→v= .slice (σ.ra n).1 len (σ.ra n).2)
 | .elem n len sz i off,v=>σ.al n∧(∃b k,v= .pointer (some ⟨b,k,none⟩))∧∀l,σ.ln n=some l→len≤l∧(len=l→∃b o,(σ.ra n).1=some ⟨b,o,none⟩∧v= .pointer (some ⟨b,o+i*sz+off,none⟩))
 | .gd b x,v=>(b=true→Rep σ x v)∧(b=false→v=undef)
 | .mp n,v=>σ.al n∧v= .map (some (σ.rb n))
 | .un,_=>True
def RepCells (σ:Cf) (b:Nat):Nat→List AV→Prop
 |_,[]=>True
 |o,c::cs=>(∃x:Value,σ.w.cell? ⟨b,o,none⟩=some x∧Bq x=true∧Rep σ c x)∧RepCells σ b (o+1) cs
def RepRows (σ:Cf) (sz b:Nat):Nat→List (List AV)→Prop
 |_,[]=>True
 |o,r::rs=>r.length=sz∧RepCells σ b o r∧RepRows σ sz b (o+sz) rs
def RepL (σ:Cf):List AV→List Value→Prop
 |[],xs=>xs=[]
 |c::cs,xs=>∃y ys,xs=y::ys∧Rep σ c y∧RepL σ cs ys
end
def SameO (w w':World):Prop:=w'.os=w.os∧w'.output=w.output
theorem SameO.refl (w:World):SameO w w:=⟨rfl,rfl⟩
theorem SameO.trans {a b c:World} (h:SameO a b) (k:SameO b c):SameO a c:=⟨k.1.trans h.1,k.2.trans h.2⟩
structure Evo (σ σ':Cf):Prop where
 box:∀n,σ.al n→σ'.al n∧σ'.rb n=σ.rb n
 arr:∀n,σ.al n→∀l',σ'.ln n=some l'→∃l,σ.ln n=some l∧l≤l'∧(l=l'→σ'.ra n=σ.ra n)
 fro:∀b o,σ.w.heap[b]? =some o→¬σ.M b→σ'.w.heap[b]? =some o∧¬σ'.M b
 out:σ'.O=σ.O
 sz:σ.w.heap.size≤σ'.w.heap.size
 io:SameO σ.w σ'.w
theorem Evo.refl (σ:Cf):Evo σ σ:=⟨fun _ h=>⟨h,rfl⟩,fun _ _ l h=>⟨l,h,Nat.le_refl _,fun _=>rfl⟩,fun _ _ h h'=>⟨h,h'⟩,rfl,Nat.le_refl _,SameO.refl _⟩
theorem Evo.trans {a b c:Cf} (h:Evo a b) (k:Evo b c):Evo a c where
 box n hn:=⟨(k.box n (h.box n hn).1).1,((k.box n (h.box n hn).1).2).trans (h.box n hn).2⟩
 arr n hn l' hl':=by
  obtain⟨l,h1,h2,h3⟩:=k.arr n (h.box n hn).1 l' hl'
  obtain⟨m,g1,g2,g3⟩:=h.arr n hn l h1
  refine⟨m,g1,Nat.le_trans g2 h2,fun e=> ?_⟩
  have e1:m=l:=by omega
  have e2:l=l':=by omega
  rw[h3 e2,g3 e1]
 fro b o hb hM:=by
  obtain⟨h1,h2⟩:=h.fro b o hb hM
  exact k.fro b o h1 h2
 out:=k.out.trans h.out
 sz:=Nat.le_trans h.sz k.sz
 io:=h.io.trans k.io
theorem Evo.fz {σ σ':Cf} (h:Evo σ σ') {b:Nat} (hb:Fz σ b):Fz σ' b:=by
 obtain⟨h1,h2⟩:=h.fro b _ (Array.getElem?_eq_getElem hb.2.2) hb.1
 exact⟨h2,by rw[h.out];exact hb.2.1,(Array.getElem?_eq_some_iff.1 h1).1⟩
theorem Evo.cell {σ σ':Cf} (h:Evo σ σ') {b o:Nat} {x:Value} (hM:¬σ.M b) (hc:σ.w.cell? ⟨b,o,none⟩=some x):
  σ'.w.cell? ⟨b,o,none⟩=some x:=by
 cases hb:σ.w.heap[b]? with
 |none=>simp[World.cell?,hb] at hc
 |some ob=>
  obtain⟨h1,_⟩:=h.fro b ob hb hM
  simp only[World.cell?,hb] at hc
  simp only[World.cell?,h1]
  exact hc
mutual
theorem Rep.mono {σ σ':Cf} (h:Evo σ σ'):∀(a:AV) (v:Value),Rep σ a v→Rep σ' a v
 | .v x,v,hr=>by simpa [Rep] using hr
 | .sl sz full rows _,v,hr=>by
  simp only[Rep] at hr⊢
  obtain⟨base,cap,h1,h2,h3,hp,h4⟩:=hr
  refine⟨base,cap,h1,h2,h3,hp, ?_⟩
  rcases h4 with h4|⟨b,o,h5,h6,h7⟩
  ·exact .inl h4
  ·exact .inr ⟨b,o,h5,h.fz h6,RepRows.mono h sz b h6.1 rows o h7⟩
 | .ro cells off,v,hr=>by
  simp only[Rep] at hr⊢
  obtain⟨b,o,h1,h2,hp,h3⟩:=hr
  exact⟨b,o,h1,h.fz h2,hp,RepCells.mono h b h2.1 cells o h3⟩
 | .agg cs,v,hr=>by
  simp only[Rep] at hr⊢
  obtain⟨xs,h1,h2,h3⟩:=hr
  exact⟨xs,h1,h2,RepL.mono h cs xs h3⟩
 | .tup cs,v,hr=>by
  simp only[Rep] at hr⊢
  obtain⟨xs,h1,h3⟩:=hr
  exact⟨xs,h1,RepL.mono h cs xs h3⟩
 | .clo fn first caps,v,hr=>by
  simp only[Rep] at hr⊢
  obtain⟨xs,ys,h1,h2,h3⟩:=hr
  exact⟨xs,ys,h1,RepL.mono h first xs h2,RepL.mono h caps ys h3⟩
 | .box n off,v,hr=>by
  simp only[Rep] at hr⊢
  obtain⟨h1,h2⟩:=h.box n hr.1
  exact⟨h1,by rw[h2];exact hr.2⟩
 | .own n len,v,hr=>by
  simp only[Rep] at hr⊢
  refine⟨(h.box n hr.1).1,hr.2.1,fun l' hl'=> ?_⟩
  obtain⟨l,g1,g2,g3⟩:=h.arr n hr.1 l' hl'
  obtain⟨k1,k2⟩:=hr.2.2 l g1
  refine⟨by omega,fun e=> ?_⟩
  have e1:l=l':=by omega
  rw[g3 e1];exact k2 (by omega)
 | .elem n len sz i off,v,hr=>by
  simp only[Rep] at hr⊢
  refine⟨(h.box n hr.1).1,hr.2.1,fun l' hl'=> ?_⟩
  obtain⟨l,g1,g2,g3⟩:=h.arr n hr.1 l' hl'
  obtain⟨k1,k2⟩:=hr.2.2 l g1
  refine⟨by omega,fun e=> ?_⟩
  have e1:l=l':=by omega
  rw[g3 e1];exact k2 (by omega)
 | .gd b x,v,hr=>by
  simp only[Rep] at hr⊢
  exact⟨fun hb=>Rep.mono h x v (hr.1 hb),hr.2⟩
 | .mp n,v,hr=>by
  simp only[Rep] at hr⊢
  obtain⟨h1,h2⟩:=h.box n hr.1
  exact⟨h1,by rw[h2];exact hr.2⟩
 | .un,_,_=>by simp[Rep]
theorem RepCells.mono {σ σ':Cf} (h:Evo σ σ') (b:Nat) (hM:¬σ.M b):∀(cs:List AV) (o:Nat),RepCells σ b o cs→RepCells σ' b o cs
 |[],_,_=>by simp[RepCells]
 |c::cs,o,hr=>by
  simp only[RepCells] at hr⊢
  obtain⟨⟨x,h1,h2,h3⟩,h4⟩:=hr
  exact⟨⟨x,h.cell hM h1,h2,Rep.mono h c x h3⟩,RepCells.mono h b hM cs (o+1) h4⟩
theorem RepRows.mono {σ σ':Cf} (h:Evo σ σ') (sz b:Nat) (hM:¬σ.M b):∀(rs:List (List AV)) (o:Nat),RepRows σ sz b o rs→RepRows σ' sz b o rs
 |[],_,_=>by simp[RepRows]
 |r::rs,o,hr=>by
  simp only[RepRows] at hr⊢
  exact⟨hr.1,RepCells.mono h b hM r o hr.2.1,RepRows.mono h sz b hM rs (o+sz) hr.2.2⟩
theorem RepL.mono {σ σ':Cf} (h:Evo σ σ'):∀(cs:List AV) (xs:List Value),RepL σ cs xs→RepL σ' cs xs
 |[],xs,hr=>by simpa [RepL] using hr
 |c::cs,xs,hr=>by
  simp only[RepL] at hr⊢
  obtain⟨y,ys,h1,h2,h3⟩:=hr
  exact⟨y,ys,h1,Rep.mono h c y h2,RepL.mono h cs ys h3⟩
end
mutual
theorem Rep.ofPure {σ σ':Cf} (hf:∀b,Fz σ b→Fz σ' b) (hw:∀b,Fz σ b→σ'.w.heap[b]? =σ.w.heap[b]?):∀(a:AV) (v:Value),Cg a=true→Rep σ a v→Rep σ' a v
 | .v x,v,_,hr=>by simpa [Rep] using hr
 | .sl sz full rows _,v,_,hr=>by
  simp only[Rep] at hr⊢
  obtain⟨base,cap,h1,h2,h3,hp,h4⟩:=hr
  refine⟨base,cap,h1,h2,h3,hp, ?_⟩
  rcases h4 with h4|⟨b,o,h5,h6,h7⟩
  ·exact .inl h4
  ·exact .inr ⟨b,o,h5,hf b h6,RepRows.ofPure hf hw sz b h6 rows o hp h7⟩
 | .ro cells off,v,_,hr=>by
  simp only[Rep] at hr⊢
  obtain⟨b,o,h1,h2,hp,h3⟩:=hr
  exact⟨b,o,h1,hf b h2,hp,RepCells.ofPure hf hw b h2 cells o hp h3⟩
 | .agg cs,v,hp,hr=>by
  simp only[Rep] at hr⊢
  obtain⟨xs,h1,h2,h3⟩:=hr
  exact⟨xs,h1,h2,RepL.ofPure hf hw cs xs (by simpa [Cg] using hp) h3⟩
 | .tup cs,v,hp,hr=>by
  simp only[Rep] at hr⊢
  obtain⟨xs,h1,h3⟩:=hr
  exact⟨xs,h1,RepL.ofPure hf hw cs xs (by simpa [Cg] using hp) h3⟩
 | .clo fn first caps,v,hp,hr=>by
  simp only[Rep] at hr⊢
  simp only[Cg,Bool.and_eq_true] at hp
  obtain⟨xs,ys,h1,h2,h3⟩:=hr
  exact⟨xs,ys,h1,RepL.ofPure hf hw first xs hp.1 h2,RepL.ofPure hf hw caps ys hp.2 h3⟩
 | .box n off,v,hp,_=>by simp[Cg] at hp
 | .own n len,v,hp,_=>by simp[Cg] at hp
 | .elem n len sz i off,v,hp,_=>by simp[Cg] at hp
 | .mp n,v,hp,_=>by simp[Cg] at hp
 | .gd b x,v,hp,hr=>by
  simp only[Rep] at hr⊢
  exact⟨fun hb=>Rep.ofPure hf hw x v (by simpa [Cg] using hp) (hr.1 hb),hr.2⟩
 | .un,_,_,_=>by simp[Rep]
theorem RepCells.ofPure {σ σ':Cf} (hf:∀b,Fz σ b→Fz σ' b) (hw:∀b,Fz σ b→σ'.w.heap[b]? =σ.w.heap[b]?) (b:Nat) (hb:Fz σ b):∀(cs:List AV) (o:Nat),AB cs=true→RepCells σ b o cs→RepCells σ' b o cs
 |[],_,_,_=>by simp[RepCells]
 |c::cs,o,hp,hr=>by
  simp only[RepCells] at hr⊢
  simp only[AB,Bool.and_eq_true] at hp
  obtain⟨⟨x,h1,h2,h3⟩,h4⟩:=hr
  exact⟨⟨x,by simp only[World.cell?,hw b hb] at h1⊢;exact h1,h2,Rep.ofPure hf hw c x hp.1 h3⟩,RepCells.ofPure hf hw b hb cs (o+1) hp.2 h4⟩
theorem RepRows.ofPure {σ σ':Cf} (hf:∀b,Fz σ b→Fz σ' b) (hw:∀b,Fz σ b→σ'.w.heap[b]? =σ.w.heap[b]?) (sz b:Nat) (hb:Fz σ b):∀(rs:List (List AV)) (o:Nat),(∀r∈rs,AB r=true)→RepRows σ sz b o rs→RepRows σ' sz b o rs
 |[],_,_,_=>by simp[RepRows]
 |r::rs,o,hp,hr=>by
  simp only[RepRows] at hr⊢
  exact⟨hr.1,RepCells.ofPure hf hw b hb r o (hp r (by simp)) hr.2.1,RepRows.ofPure hf hw sz b hb rs (o+sz) (fun r hr=>hp r (by simp[hr])) hr.2.2⟩
theorem RepL.ofPure {σ σ':Cf} (hf:∀b,Fz σ b→Fz σ' b) (hw:∀b,Fz σ b→σ'.w.heap[b]? =σ.w.heap[b]?):∀(cs:List AV) (xs:List Value),AB cs=true→RepL σ cs xs→RepL σ' cs xs
 |[],xs,_,hr=>by simpa [RepL] using hr
 |c::cs,xs,hp,hr=>by
  simp only[RepL] at hr⊢
  simp only[AB,Bool.and_eq_true] at hp
  obtain⟨y,ys,h1,h2,h3⟩:=hr
  exact⟨y,ys,h1,Rep.ofPure hf hw c y hp.1 h2,RepL.ofPure hf hw cs ys hp.2 h3⟩
end
end Go.Proofs.YtciphecegkfaiaaGreat.Am
namespace Go.Proofs.YtciphecegkfaiaaGreat.Am
set_option linter.unusedSimpArgs false
set_option linter.unusedVariables false
open Go
inductive Loc where
 |c (n:Nm) (j:Nat)
 |a (n:Nm)
 deriving DecidableEq,Inhabited
abbrev Hp:=List (Loc×AV)
abbrev Env:=List (Nat×AV)
def lk:Env→Nat→AV
 |[],_=> .un
 |(k,x)::r,t=>if k=t then x else lk r t
def hl:Hp→Loc→Option AV
 |[],_=>none
 |(k,x)::r,l=>if k=l then some x else hl r l
inductive Opd where
 |t (n:Nat)
 |k (x:AV)
 deriving Inhabited
inductive TK where
 |int|bool|str|cells (ks:List Bool)|other
 deriving Inhabited,DecidableEq
inductive PK where
 |slen|sidx|ssl (lo hi:Bool)|scat|seq (neg:Bool)
 |bits (op:BinOp)|shf (op:BinOp)|cvw (k:IntKind)|mkI (t:TypeId)|tas (t:TypeId)|inil (neg:Bool)|pnil (neg:Bool)
 deriving Inhabited
inductive AK where
 |pr (p:PK) (xs:List Opd)
 |b2s (x:Opd)
 |mv (x:Opd)
 |pick (c a b:Opd)
 |box (n:Nat) (x:Opd)
 |alloc (zs:List AV)
 |build (zs:List AV) (parts:List (Nat×Nat×Opd))
 |bsl (sz len:Nat) (zs:List AV) (parts:List (Nat×Opd))
 |ld (sz:Nat) (ag:Bool) (x:Opd)
 |st (sz:Nat) (a x:Opd)
 |fa (off:Nat) (x:Opd)
 |fld (off sz:Nat) (ag:Bool) (x:Opd)
 |ia (sz:Nat) (x i:Opd)
 |iaA (n sz:Nat) (x i:Opd)
 |idxA (n sz:Nat) (ag:Bool) (x i:Opd)
 |bin (op:BinOp) (tk:TK) (x y:Opd)
 |un (op:UnOp) (x:Opd)
 |ext (x:Opd) (i:Nat)
 |call (f:Nat) (args:List Opd)
 |cv (x:Opd) (args:List Opd)
 |len (x:Opd)
 |app (sz bytes:Nat) (zs:List AV) (s x:Opd)
 |mm (isMax:Bool) (xs:List Opd)
 |mkf (fn:Fn) (first caps:List Opd)
 |slc (sz:Nat) (x:Opd) (lo hi mx:Option Opd)
 |nilc (x:Opd)
 |cnv (k:IntKind) (x:Opd)
 |nils (neg:Bool) (x:Opd)
 |cap (x:Opd)
 |appn (sz bytes:Nat) (zs:List AV) (s x:Opd)
 |pan (x:Opd)
 |dfr (x:Opd)
 |rcv
 |allocB (t:TypeId)
 |mks (sz bytes:Nat) (zs:List AV) (n c:Opd)
 |ent (x:Opd)
 |mkm
 |mlk (zd:AV) (ok:Bool) (m k:Opd)
 |mup (m k x:Opd)
 |rng (x:Opd)
 |nxt (x:Opd)
 |bad
 deriving Inhabited
structure AOp where
 d:Option Nat
 g:Option (Nat×Bool)
 k:AK
 deriving Inhabited
def inR (k:IntKind) (n:Int):Prop:=
 match k with
 | .i64=> -9223372036854775808≤n∧n≤9223372036854775807
 |k=>k.wrap n=n
def bL (s:ByteArray):List UInt8:=s.data.toList
def sB (l:List UInt8):ByteArray:=⟨l.toArray⟩
@[simp] theorem kP (l:List UInt8):bL (sB l)=l:=by simp[bL,sB]
@[simp] theorem Kq (s:ByteArray):sB (bL s)=s:=by cases s;simp[bL,sB]
def BW (op:BinOp) (k:IntKind) (x y:Int):Int:=
 match op with
 | .and=>k.wrap (BitVec.ofInt k.bits x&&&BitVec.ofInt k.bits y).toNat
 | .or=>k.wrap (BitVec.ofInt k.bits x|||BitVec.ofInt k.bits y).toNat
 | .xor=>k.wrap (BitVec.ofInt k.bits x^^^BitVec.ofInt k.bits y).toNat
 |_=>k.wrap (BitVec.ofInt k.bits x&&& ~~~BitVec.ofInt k.bits y).toNat
def Cp (op:BinOp) (k:IntKind) (x y:Int):Int:=
 match op with
 | .shl=>k.wrap (x*2^min y.toNat k.bits)
 |_=>x.fdiv (2^min y.toNat k.bits)
def KO:List AV→UInt8
 |[.v (.int .u8 n)]=>UInt8.ofNat n.toNat
 |_=>0
def isB:List AV→Bool
 |[.v (.int .u8 _)]=>true
 |_=>false
def imp (g b:Bool):Bool:= !g||b
@[simp] theorem W9 (b:Bool):imp b b=true:=by cases b<;>rfl
@[simp] theorem Xa (b:Bool):imp true b=b:=by cases b<;>rfl
@[simp] theorem Va (b:Bool):imp b true=true:=by cases b<;>rfl
@[simp] theorem Vb (b:Bool):imp false b=true:=rfl
@[simp] theorem Q9 (a b:Bool):imp (a&&b) a=true:=by cases a<;>cases b<;>rfl
@[simp] theorem QD (a b:Bool):imp (a&&b) b=true:=by cases a<;>cases b<;>rfl
def ung (g:Bool):AV→AV
 | .gd b x=>bif imp g b then x else .un
 |x=>x
def opv (env:Env):Opd→AV
 | .t n=>lk env n
 | .k x=>x
def gb (want:Bool):AV→Option Bool
 | .v (.bool b)=>some (b==want)
 | .gd c (.v (.bool b))=>some (c&&(b==want))
 |_=>none
def EF (env:Env):Option (Nat×Bool)→Option Bool
 |none=>some true
 |some (t,want)=>gb want (lk env t)
def cut:Nat→Nat→List AV→Option (List AV)
 |0,0,_=>some []
 |0,_+1,[]=>none
 |0,n+1,c::cs=>(cut 0 n cs).map (c::·)
 |_+1,_,[]=>none
 |o+1,n,_::cs=>cut o n cs
def AV.cells:AV→Option (List AV)
 | .agg cs=>some cs
 | .v x=>if Bq x=true then some [.v x] else none
 | .sl sz f r d=>some [.sl sz f r d]
 | .ro c o=>some [.ro c o]
 | .clo a b c=>some [.clo a b c]
 | .box n o=>some [.box n o]
 | .own n l=>some [.own n l]
 | .mp n=>some [.mp n]
 |_=>none
def mkv (ag:Bool) (cs:List AV):Option AV:=
 match ag,cs with
 |true,cs=>some (.agg cs)
 |false,[c]=>some c
 |_,_=>none
@[reducible] def mpE (rows:List (List AV)):AV:= .gd false (.sl 0 true rows [])
def isM:AV→Bool
 | .gd _ _=>true
 |_=>false
def Ft (hp:Hp) (n:Nm):Nat→Nat→Option (List AV)
 |_,0=>some []
 |o,k+1=>
  match hl hp (.c n o) with
  |some c=>bif isM c then none else(Ft hp n (o+1) k).map (c::·)
  |none=>none
def BJ (rows:List (List AV)) (d:List AV) (i:Nat):List AV:=rows.getD i d
def Jz (hp:Hp) (n:Nm):Nat→List AV→Option Hp
 |_,[]=>some []
 |o,c::cs=>
  match hl hp (.c n o) with
  |some c'=>bif isM c' then none else(Jz hp n (o+1) cs).map ((.c n o,c)::·)
  |none=>none
def CX (n:Nm):Nat→List AV→Hp
 |_,[]=>[]
 |o,c::cs=>(.c n o,c)::CX n (o+1) cs
def FP:List AV→Nat→List AV→Option (List AV)
 |cs,0,[]=>some cs
 |c::cs,o+1,ds=>(FP cs o ds).map (c::·)
 |_::cs,0,d::ds=>(FP cs 0 ds).map (d::·)
 |[],_+1,_=>none
 |[],0,_::_=>none
def Li (hp:Hp):AV→AV
 | .own n _=>bif Gq n then .un else match hl hp (.a n) with
  |some (.sl sz _ rows d)=> .sl sz false rows d
  |_=> .un
 |x=>x
def Nz (hp:Hp):AV→Prop
 | .own n l=>match hl hp (.a n) with
  |some (.sl _ _ rows _)=>l=rows.length
  |_=>False
 |_=>True
def Kr (hp:Hp):List AV→Prop
 |[]=>True
 |c::cs=>Nz hp c∧Kr hp cs
def Cr (hp:Hp) (n:Nm):Nat→Nat→List AV
 |_,0=>[]
 |o,k+1=>
  match hl hp (.c n o) with
  |some c=>bif isM c then[] else c::Cr hp n (o+1) k
  |none=>[]
mutual
def res (hp:Hp):AV→AV
 | .own n _=>bif Gq n then .un else match hl hp (.a n) with
  |some (.sl sz _ rows d)=> .sl sz false rows d
  |_=> .un
 | .box n o=> .ro ((Cr hp n 0 40).map (Li hp)) o
 | .mp _=> .un
 | .agg cs=> .agg (Ef hp cs)
 | .tup cs=> .tup (Ef hp cs)
 | .clo f xs ys=> .clo f (Ef hp xs) (Ef hp ys)
 |x=>x
def Ef (hp:Hp):List AV→List AV
 |[]=>[]
 |c::cs=>res hp c::Ef hp cs
end
mutual
def rvc (hp:Hp):AV→Prop
 | .own n l=>match hl hp (.a n) with
  |some (.sl _ _ rows _)=>l=rows.length
  |_=>False
 | .box n _=>Kr hp (Cr hp n 0 40)∧AB ((Cr hp n 0 40).map (Li hp))=true∧(Cr hp n 0 40).isEmpty=false
 | .agg cs=>D3 hp cs
 | .tup cs=>D3 hp cs
 | .clo _ xs ys=>D3 hp xs∧D3 hp ys
 |_=>True
def D3 (hp:Hp):List AV→Prop
 |[]=>True
 |c::cs=>rvc hp c∧D3 hp cs
end
mutual
def ons:AV→List Nm
 | .own n _=>[n]
 | .agg cs=>B8 cs
 | .tup cs=>B8 cs
 | .clo _ xs ys=>B8 xs++B8 ys
 |_=>[]
def B8:List AV→List Nm
 |[]=>[]
 |c::cs=>ons c++B8 cs
end
mutual
def nob:AV→Bool
 | .box _ _=>false
 | .mp _=>false
 | .agg cs=>E8 cs
 | .tup cs=>E8 cs
 | .clo _ xs ys=>E8 xs&&E8 ys
 |_=>true
def E8:List AV→Bool
 |[]=>true
 |c::cs=>nob c&&E8 cs
end
mutual
def FD:AV→Bool
 | .v _=>true
 | .agg cs=>GX cs
 | .tup cs=>GX cs
 |_=>false
def GX:List AV→Bool
 |[]=>true
 |c::cs=>FD c&&GX cs
end
def frz (hp:Hp):List Nm→Hp
 |[]=>[]
 |n::ns=>match hl hp (.a n) with
  |some (.sl sz _ rows d)=>(.a n,.sl sz false rows d)::frz hp ns
  |_=>frz hp ns
structure Tab where
 f:Nat→List AV→Option (Prop×AV)
 w:Bool
 m:Bool
 e:Nat→List AV→List AV→Option (Prop×AV×List (Nat×AV))
 p:Nat→List AV→List AV→Option (Prop×Value)
 q:Nat→List AV→List AV→Option (Prop×AV)
instance:CoeFun Tab (fun _=>Nat→List AV→Option (Prop×AV)):=⟨Tab.f⟩
def Lj (hp:Hp) (sz:Nat):AV→Option (Prop×List (List AV))
 | .sl z _ rows _=>some (z=sz∨rows=[],rows)
 | .own n l=>bif Gq n then none else match hl hp (.a n) with
  |some (.sl z _ rows _)=>some (l=rows.length∧z=sz,rows)
  |_=>none
 | .v (.slice _ 0 _)=>some (True,[])
 |_=>none
def TV (op:BinOp) (x y:Int):Option Bool:=
 match op with
 | .eql=>some (decide (x=y))
 | .neq=>some (decide (x≠y))
 | .lss=>some (decide (x<y))
 | .leq=>some (decide (x≤y))
 | .gtr=>some (decide (y<x))
 | .geq=>some (decide (y≤x))
 |_=>none
def arB (op:BinOp) (k:IntKind) (x y:Int):Option (Prop×Int):=
 match op with
 | .add=>some (inR k (x+y),x+y)
 | .sub=>some (inR k (x-y),x-y)
 | .mul=>some (inR k (x*y),x*y)
 | .quo=>some (y≠0∧inR k (x.tdiv y),x.tdiv y)
 | .rem=>some (y≠0,x.tmod y)
 |_=>none
def J3 (last:Bool) (e:Prop) (c:Bool):Option (Prop×Bool)→Option (Prop×Bool)
 |some (p,b)=>some (e∧p,bif last then c else c&&b)
 |none=>none
def CP:List Bool→List AV→List AV→Option (Prop×Bool)
 |[],[],[]=>some (True,true)
 |true::ks,.v (.int k x)::xs,.v (.int k' y)::ys=>J3 ks.isEmpty (k=k') (decide (x=y)) (CP ks xs ys)
 |false::ks,.v (.bool x)::xs,.v (.bool y)::ys=>J3 ks.isEmpty True (x==y) (CP ks xs ys)
 |_,_,_=>none
def MQ (op:BinOp) (tk:TK) (x y:AV):Option (Prop×AV):=
 match tk,x,y with
 | .int,.v (.int k x),.v (.int k' y)=>
  match TV op x y with
  |some b=>some (k=k',.v (.bool b))
  |none=>match arB op k x y with
   |some (vc,z)=>some (k=k'∧vc,.v (.int k z))
   |none=>none
 | .bool,.v (.bool x),.v (.bool y)=>
  match op with
  | .eql=>some (True,.v (.bool (x==y)))
  | .neq=>some (True,.v (.bool (x !=y)))
  |_=>none
 |_,_,_=>none
def TW (op:BinOp) (k:IntKind) (x y:Int):Option Int:=
 match op with
 | .add=>some (k.wrap (x+y))
 | .sub=>some (k.wrap (x-y))
 | .mul=>some (k.wrap (x*y))
 |_=>none
def Ra (op:BinOp) (tk:TK) (x y:AV):Option (Prop×AV):=
 match tk,x,y with
 | .int,.v (.int k x),.v (.int k' y)=>
  match TW op k x y with
  |some z=>some (k=k',.v (.int k z))
  |none=>MQ op .int (.v (.int k x)) (.v (.int k' y))
 |tk,x,y=>MQ op tk x y
def Oa (w:Bool) (op:BinOp) (tk:TK) (x y:AV):Option (Prop×AV):=bif w then Ra op tk x y else MQ op tk x y
def TY (op:UnOp) (x:AV):Option (Prop×AV):=
 match op,x with
 | .not,.v (.bool b)=>some (True,.v (.bool (!b)))
 | .neg,.v (.int k n)=>some (inR k (-n),.v (.int k (-n)))
 |_,_=>none
def mm2 (isMax:Bool) (x y:AV):Option AV:=
 match x,y with
 | .v (.int k x),.v (.int _ y)=>some (.v (.int k (bif isMax then max x y else min x y)))
 |_,_=>none
def mmL (isMax:Bool):AV→List AV→Option AV
 |x,[]=>some x
 |x,y::r=>match mm2 isMax x y with
  |some z=>mmL isMax z r
  |none=>none
def JG:List AV→List (Nat×Nat×AV)→Option (List AV)
 |cs,[]=>some cs
 |cs,(off,size,x)::r=>
  match x.cells with
  |some xs=>if xs.length=size then(match FP cs off xs with
   |some cs'=>JG cs' r
   |none=>none) else none
  |none=>none
def MR (sz:Nat):List (List AV)→List (Nat×AV)→Option (List (List AV))
 |rows,[]=>some rows
 |rows,(i,x)::r=>
  match x.cells with
  |some xs=>if xs.length=sz∧i<rows.length then MR sz (rows.set i xs) r else none
  |none=>none
def asI:AV→Option Int
 | .v (.int _ n)=>some n
 |_=>none
def EA:List AV→Option Nm
 |[]=>none
 | .box n _::_=>some n
 |_::r=>EA r
def GD:List AV→Bool
 |[]=>false
 | .box _ _::r=>AB r
 |c::r=>Cg c&&GD r
def Ie (hp:Hp) (n:Nm) (k:Nat):Prop:=∀j,k≤j→hl hp (.c n j)=none
theorem Xb {n:Nm} {k:Nat}:Ie [] n k=True:=eq_true fun _ _=>rfl
theorem dE {hp:Hp} {m n:Nm} {x:AV} {k:Nat}:Ie ((.a m,x)::hp) n k=Ie hp n k:=by
 unfold Ie
 simp only[hl]
 simp
theorem dF {hp:Hp} {m n:Nm} {x:AV} {i k:Nat}:Ie ((.c m i,x)::hp) n k=((m=n→i<k)∧Ie hp n k):=by
 apply propext
 unfold Ie
 simp only[hl,Loc.c.injEq]
 constructor
 ·intro h
  refine⟨fun e=> ?_,fun j hj=> ?_⟩
  ·rcases Nat.lt_or_ge i k with h1|h1
   ·exact h1
   ·have:=h i h1;simp[e] at this
  ·have:=h j hj
   split at this
   ·cases this
   ·exact this
 ·rintro⟨h1,h2⟩ j hj
  rw[if_neg (by rintro⟨e,rfl⟩;have:=h1 e;omega)]
  exact h2 j hj
def If (n:Nm) (us:List (Nat×AV)):Hp:=us.map fun p=>(.c n p.1,p.2)
def Iw (hp:Hp):AV→Option (List (List AV))
 | .mp n=>match hl hp (.c n 0) with
  |some (.gd false (.sl 0 true rows []))=>some rows
  |_=>none
 | .v (.map none)=>some []
 |_=>none
def qv1 (hp:Hp):AV→AV
 | .mp m=>match Iw hp (.mp m) with
  |some rows=>mpE rows
  |none=> .un
 |x=>x
def qv (hp:Hp):AV→AV
 | .box n _=> .agg ((Cr hp n 0 40).map (qv1 hp))
 |x=>x
def Ix (S:Tab) (hp:Hp) (f:Nat) (args:List AV):Option (Prop×AV×Hp):=
 match S f (Ef hp args) with
 |some (vc,r)=>
  bif FD r then some (D3 hp args∧AB (Ef hp args)=true∧vc,r,[])
  else bif E8 args then some (D3 hp args∧AB (Ef hp args)=true∧vc,r,frz hp (B8 args)) else none
 |none=>match EA args with
  |some n=>match S.e f args (Cr hp n 0 40) with
   |some (vc,r,us)=>some (GD args=true∧FD r=true∧GX (us.map (·.2))=true∧GX (Cr hp n 0 40)=true∧(Cr hp n 0 40).isEmpty=false∧Ie hp n (Cr hp n 0 40).length∧vc,r,If n us)
   |none=>match S.q f args (args.map (qv hp)) with
    |some (vc,r)=>some (vc,r,[])
    |none=>none
  |none=>none
def MS (hp:Hp) (nm:Nm) (sz bytes:Nat) (zs:List AV) (s x:AV):Option (Prop×AV×Hp):=
 match Lj hp sz x with
 |none=>none
 |some (vx,rx)=>
  match s with
  | .own n l=>match hl hp (.a n) with
   |some (.sl z live rows d)=>some (vx∧z=sz∧l=rows.length∧live=true∧(rows++rx).length*bytes≤140737488355328,
     .own n (rows++rx).length,[(.a n,.sl sz true (rows++rx) d)])
   |_=>none
  | .sl z full rows d=>some (vx∧(z=sz∨rows=[])∧full=true∧(rows++rx).length*bytes≤140737488355328,
     .own nm (rows++rx).length,[(.a nm,.sl sz (!rx.isEmpty||rows.isEmpty) (rows++rx) (bif d.isEmpty then zs else d))])
  |_=>none
def loB:Option AV→Option Int
 |none=>some 0
 |some x=>asI x
def Ma (full:Bool) (rows:List (List AV)) (lo:Option AV) (hi mx:Option AV):Option (Prop×Bool×List (List AV)):=
 match loB lo,hi,mx with
 |some l,none,none=>some (0≤l∧l≤rows.length,full,rows.drop l.toNat)
 |some l,some h,none=>match asI h with
  |some h=>some (0≤l∧l≤h∧h≤rows.length,full&&decide (h=rows.length),(rows.drop l.toNat).take (h.toNat-l.toNat))
  |none=>none
 |some l,some h,some m=>match asI h,asI m with
  |some h,some m=>some (0≤l∧l≤h∧h≤m∧m≤rows.length,decide (h=m),(rows.drop l.toNat).take (h.toNat-l.toNat))
  |_,_=>none
 |_,_,_=>none
def Ks (hp:Hp) (sz:Nat) (x:AV) (lo:Option AV) (hi mx:Option AV):Option (Prop×AV×Hp):=
 match x with
 | .sl sz' full rows d=>match Ma full rows lo hi mx with
  |some (vc,f,rs)=>some ((sz'=sz∨rows=[])∧vc,.sl sz' f rs d,[])
  |none=>none
 | .own n l=>bif Gq n then none else match hl hp (.a n) with
  |some (.sl sz' _ rows d)=>match Ma false rows lo hi mx with
   |some (vc,f,rs)=>some (sz'=sz∧l=rows.length∧vc,.sl sz' f rs d,frz hp [n])
   |none=>none
  |_=>none
 |_=>none
def H0 (hp:Hp) (nm:Nm) (sz:Nat) (x:AV) (lo:Option AV) (hi mx:Option AV):Option (Prop×AV×Hp):=
 match x,lo,hi,mx with
 | .own n l,none,some (.v (.int _ k)),none=>bif Gq n then none else match hl hp (.a n) with
  |some (.sl sz' live rows d)=>some (sz'=sz∧l=rows.length∧live=true∧0≤k∧k≤rows.length,.own nm k.toNat,[(.a nm,.sl sz' true (rows.take k.toNat) d),(.a n,.un)])
  |_=>none
 |x,lo,hi,mx=>Ks hp sz x lo hi mx
def Ob (nm:Nm) (sz bytes:Nat) (zs:List AV):AV→AV→Option (Prop×AV×Hp)
 | .sl _ true [] _,.v (.int k n)=>some (k= .i64∧0<n∧n*bytes≤140737488355328,.own nm n.toNat,[(.a nm,.sl sz true (List.replicate n.toNat zs) zs)])
 |_,_=>none
def QL (nm:Nm) (sz bytes:Nat) (zs:List AV):AV→AV→Option (Prop×AV×Hp)
 | .v (.int k n),.v (.int k' c)=>some (n=c∧0<n∧n*bytes≤140737488355328∧n≤9223372036854775807,.own nm n.toNat,[(.a nm,.sl sz true (List.replicate n.toNat zs) zs)])
 |_,_=>none
def Oc:AV→Option (Prop×AV×Hp)
 | .sl _ true rows _=>some (True,.v (.int .i64 rows.length),[])
 |_=>none
def vr (o:Option (Prop×AV)):Option (Prop×AV×Hp):=
 match o with
 |some (vc,r)=>some (vc,r,[])
 |none=>none
def Mb (g:Bool) (c a b:AV):Option (Prop×AV×Hp):=
 match ung g c with
 | .v (.bool cb)=>
  match ung (g&&cb) a,ung (g&& !cb) b with
  | .v (.bool x),.v (.bool y)=>some (True,.v (.bool (bif cb then x else y)),[])
  |a,b=>some (True,(bif cb then a else b),[])
 |_=>none
def TZ (nm:Nm) (n:Nat) (x:AV):Option (Prop×AV×Hp):=
 match x.cells with
 |some cs=>if cs.length=n then some (True,.box nm 0,CX nm 0 cs) else none
 |none=>none
def JV (zs:List AV) (parts:List (Nat×Nat×AV)):Option (Prop×AV×Hp):=
 match JG zs parts with
 |some cs=>some (True,.agg cs,[])
 |none=>none
def Jf (hp:Hp) (nm:Nm) (sz len:Nat) (zs:List AV) (parts:List (Nat×AV)):Option (Prop×AV×Hp):=
 match MR sz (List.replicate len zs) (parts.map fun(i,x)=>(i,res hp x)) with
 |some rows=>some (D3 hp (parts.map (·.2))∧E8 (parts.map (·.2))=true∧(rows.all AB)=true,.own nm len,(.a nm,.sl sz true rows zs)::frz hp (B8 (parts.map (·.2))))
 |none=>none
def H1 (b:Nat):Nat→Nat→List AV
 |_,0=>[]
 |o,k+1=> .i ((GT b).getD o 0)::H1 b (o+1) k
def HZ (hp:Hp) (sz:Nat) (ag:Bool):AV→Option (Prop×AV×Hp)
 | .v (.pointer (some ⟨b,o,none⟩))=>vr ((mkv ag (H1 b o sz)).map fun r=>(o+sz≤(GT b).length,r))
 | .box n o=>match Ft hp n o sz with
  |some cs=>vr ((mkv ag cs).map fun r=>(True,r))
  |none=>none
 | .ro cs o=>match cut o sz cs with
  |some ds=>vr ((mkv ag ds).map fun r=>(True,r))
  |none=>none
 | .elem n l es i o=>match hl hp (.a n) with
  |some (.sl sz' _ rows d)=>match cut o sz (BJ rows d i) with
   |some ds=>vr ((mkv ag ds).map fun r=>(es=sz'∧l=rows.length∧i<rows.length,r))
   |none=>none
  |_=>none
 |_=>none
def Rb (hp:Hp) (sz:Nat) (a x:AV):Option (Prop×AV×Hp):=
 match x.cells with
 |none=>none
 |some cs=>if cs.length=sz then
   match a with
   | .box n o=>match Jz hp n o cs with
    |some ws=>some (True,.un,ws)
    |none=>none
   | .elem n l es i o=>match hl hp (.a n) with
    |some (.sl sz' live rows d)=>bif Gq n then(match FP (BJ rows d i) o cs with
     |some row=>some (live=true∧es=sz'∧l=rows.length∧i<rows.length,.un,[(.a n,.sl sz' true (rows.set i row) d)])
     |none=>none) else match FP (BJ rows d i) o (Ef hp cs) with
     |some row=>some (D3 hp cs∧E8 cs=true∧AB row=true∧B8 cs=[]∧live=true∧es=sz'∧l=rows.length∧i<rows.length,.un,[(.a n,.sl sz' true (rows.set i row) d)])
     |none=>none
    |_=>none
   |_=>none
  else none
def Bv:PK→List AV→Option (Prop×AV)
 | .slen,[.v (.string s)]=>some (True,.i (bL s).length)
 | .sidx,[.v (.string s),.v (.int _ i)]=>some (0≤i∧i<(bL s).length,.v (.int .u8 ((bL s).getD i.toNat 0).toNat))
 | .ssl false false,[.v (.string s)]=>some (True,.v (.string s))
 | .ssl true false,[.v (.string s),.v (.int _ l)]=>some (0≤l∧l≤(bL s).length,.v (.string (sB ((bL s).drop l.toNat))))
 | .ssl false true,[.v (.string s),.v (.int _ h)]=>some (0≤h∧h≤(bL s).length,.v (.string (sB ((bL s).take h.toNat))))
 | .ssl true true,[.v (.string s),.v (.int _ l),.v (.int _ h)]=>some (0≤l∧l≤h∧h≤(bL s).length,.v (.string (sB (((bL s).drop l.toNat).take (h.toNat-l.toNat)))))
 | .scat,[.v (.string s),.v (.string t)]=>some ((bL s++bL t).length≤140737488355328,.v (.string (sB (bL s++bL t))))
 | .seq neg,[.v (.string s),.v (.string t)]=>some (True,.v (.bool (bif neg then !decide (bL s=bL t) else decide (bL s=bL t))))
 | .bits op,[.v (.int k x),.v (.int k' y)]=>some (k=k',.v (.int k (BW op k x y)))
 | .shf op,[.v (.int k x),.v (.int _ y)]=>some (0≤y,.v (.int k (Cp op k x y)))
 | .cvw k,[.v (.int _ n)]=>some (True,.v (.int k (k.wrap n)))
 | .mkI t,[.agg []]=>some (True,.v (.iface t (.agg #[])))
 | .tas t,[.v (.iface t' (.agg cs))]=>some (t'=t∧cs= #[],.tup [.agg [],.b true])
 | .inil neg,[.v .nilIface]=>some (True,.v (.bool (!neg)))
 | .inil neg,[.v (.iface _ _)]=>some (True,.v (.bool neg))
 | .pnil neg,[.v (.pointer p)]=>some (True,.v (.bool (p.isNone !=neg)))
 | .pnil neg,[.box _ _]=>some (True,.v (.bool neg))
 |_,_=>none
def Kt (hp:Hp):AV→Option (Prop×AV×Hp)
 | .sl sz _ rows _=>some ((sz=1∨rows=[])∧rows.all isB=true,.v (.string (sB (rows.map KO))),[])
 | .own n l=>match hl hp (.a n) with
  |some (.sl sz _ rows _)=>some (sz=1∧l=rows.length∧rows.all isB=true,.v (.string (sB (rows.map KO))),[])
  |_=>none
 |_=>none
def JA (off:Nat):AV→Option (Prop×AV×Hp)
 | .box n o=>some (True,.box n (o+off),[])
 | .ro cs o=>some (True,.ro cs (o+off),[])
 | .elem n l sz i o=>some (True,.elem n l sz i (o+off),[])
 | .v (.pointer (some ⟨b,o,none⟩))=>some (True,.v (.pointer (some ⟨b,o+off,none⟩)),[])
 |_=>none
def MT (off sz:Nat) (ag:Bool):AV→Option (Prop×AV×Hp)
 | .agg cs=>match cut off sz cs with
  |some ds=>vr ((mkv ag ds).map fun r=>(True,r))
  |none=>none
 |_=>none
def Pr (hp:Hp) (sz:Nat):AV→AV→Option (Prop×AV×Hp)
 | .sl sz' _ rows d,.v (.int _ i)=>some (sz'=sz∧0≤i∧i<rows.length,.ro (BJ rows d i.toNat) 0,[])
 | .own n l,.v (.int _ i)=>match hl hp (.a n) with
  |some (.sl sz' _ rows _)=>some (sz'=sz∧l=rows.length∧0≤i∧i<rows.length,.elem n l sz i.toNat 0,[])
  |_=>none
 |_,_=>none
def Od (n sz:Nat):AV→AV→Option (Prop×AV×Hp)
 | .box m o,.v (.int _ i)=>some (0≤i∧i<n,.box m (o+i.toNat*sz),[])
 | .ro cs o,.v (.int _ i)=>some (0≤i∧i<n,.ro cs (o+i.toNat*sz),[])
 | .elem m l es k o,.v (.int _ i)=>some (0≤i∧i<n,.elem m l es k (o+i.toNat*sz),[])
 | .v (.pointer (some ⟨b,o,none⟩)),.v (.int _ i)=>some (0≤i∧i<n,.v (.pointer (some ⟨b,o+i.toNat*sz,none⟩)),[])
 |_,_=>none
def Mc (n sz:Nat) (ag:Bool):AV→AV→Option (Prop×AV×Hp)
 | .agg cs,.v (.int _ i)=>match cut (i.toNat*sz) sz cs with
  |some ds=>vr ((mkv ag ds).map fun r=>(0≤i∧i<n,r))
  |none=>none
 |_,_=>none
def Oe (ks:List Bool) (op:BinOp):AV→AV→Option (Prop×AV×Hp)
 | .agg xs,.agg ys=>
   match op,CP ks xs ys with
   | .eql,some (p,b)=>some (p,.v (.bool b),[])
   | .neq,some (p,b)=>some (p,.v (.bool (!b)),[])
   |_,_=>none
 |_,_=>none
def MU (i:Nat):AV→Option (Prop×AV×Hp)
 | .tup cs=>match cs[i]? with
  |some r=>some (True,r,[])
  |none=>none
 |_=>none
def Ku (hp:Hp):AV→Option (Prop×AV×Hp)
 | .sl _ _ rows _=>some (True,.v (.int .i64 rows.length),[])
 | .own n l=>match hl hp (.a n) with
  |some (.sl _ _ rows _)=>some (l=rows.length,.v (.int .i64 rows.length),[])
  |_=>none
 |_=>none
def Ps (isMax:Bool):List AV→Option (Prop×AV×Hp)
 |x::r=>match mmL isMax x r with
  |some z=>some (True,z,[])
  |none=>none
 |[]=>none
def Of:AV→Option (Prop×AV×Hp)
 | .box n o=>some (True,.box n o,[])
 | .ro cs o=>some (True,.ro cs o,[])
 | .clo (.func f) a b=>some (True,.clo (.func f) a b,[])
 | .v (.pointer (some p))=>some (True,.v (.pointer (some p)),[])
 |_=>none
def Og (k:IntKind):AV→Option (Prop×AV×Hp)
 | .v (.int _ n)=>some (inR k n,.v (.int k n),[])
 |_=>none
def Md (neg:Bool):AV→Option (Prop×AV×Hp)
 | .v (.slice b _ _)=>some (True,.v (.bool (b.isNone !=neg)),[])
 | .sl _ _ rows _=>some (rows≠[],.v (.bool neg),[])
 |_=>none
def kI:AV→Option Int
 | .v (.int .i64 a)=>some a
 |_=>none
def J4 (rows:List (List AV)):Bool:=rows.all fun r=>match r with|[k,_]=>(kI k).isSome|_=>false
def F4:List (List AV)→Int→AV→AV
 |[],_,d=>d
 |[k,x]::r,a,d=>bif decide (kI k=some a) then x else F4 r a d
 |_::r,a,d=>F4 r a d
def HJ:List (List AV)→Int→Bool
 |[],_=>false
 |[k,_]::r,a=>decide (kI k=some a)||HJ r a
 |_::r,a=>HJ r a
def E1:List (List AV)→Int→AV→List (List AV)
 |[],a,x=>[[.i a,x]]
 |[k,y]::r,a,x=>bif decide (kI k=some a) then[k,x]::r else[k,y]::E1 r a x
 |q::r,a,x=>q::E1 r a x
def Kv (hp:Hp) (zd:AV) (ok:Bool) (x y:AV):Option (Prop×AV×Hp):=
 match Iw hp x,y with
 |some rows,.v (.int .i64 a)=>some (J4 rows=true,bif ok then .tup [F4 rows a zd,.b (HJ rows a)] else F4 rows a zd,[])
 |_,_=>none
def Lk (hp:Hp):AV→AV→AV→Option (Prop×AV×Hp)
 | .mp n,y,x=>match Iw hp (.mp n),y with
  |some rows,.v (.int .i64 a)=>some (J4 rows=true∧rvc hp x∧nob x=true∧Cg (res hp x)=true,.un,(.c n 0,mpE (E1 rows a (res hp x)))::frz hp (ons x))
  |_,_=>none
 |_,_,_=>none
def Rc (S:Tab) (hp:Hp) (x:AV) (args:List AV):Option (Prop×AV×Hp):=
 match x with
 | .clo (.func f) first caps=>Ix S hp f (first++args++caps)
 |_=>none
def exK (S:Tab) (env:Env) (hp:Hp) (nm:Nm) (g:Bool):AK→Option (Prop×AV×Hp)
 | .mv x=>some (True,ung g (opv env x),[])
 | .pr p xs=>vr (Bv p (xs.map fun x=>ung g (opv env x)))
 | .b2s x=>Kt hp (ung g (opv env x))
 | .pick c a b=>Mb g (opv env c) (opv env a) (opv env b)
 | .box n x=>TZ nm n (ung g (opv env x))
 | .alloc zs=>some (True,.box nm 0,CX nm 0 zs)
 | .build zs parts=>JV zs (parts.map fun(o,s,x)=>(o,s,ung g (opv env x)))
 | .bsl sz len zs parts=>Jf hp nm sz len zs (parts.map fun(i,x)=>(i,ung g (opv env x)))
 | .ld sz ag x=>HZ hp sz ag (ung g (opv env x))
 | .st sz a x=>Rb hp sz (ung g (opv env a)) (ung g (opv env x))
 | .fa off x=>JA off (ung g (opv env x))
 | .fld off sz ag x=>MT off sz ag (ung g (opv env x))
 | .ia sz x i=>Pr hp sz (ung g (opv env x)) (ung g (opv env i))
 | .iaA n sz x i=>Od n sz (ung g (opv env x)) (ung g (opv env i))
 | .idxA n sz ag x i=>Mc n sz ag (ung g (opv env x)) (ung g (opv env i))
 | .bin op (.cells ks) x y=>Oe ks op (ung g (opv env x)) (ung g (opv env y))
 | .bin op tk x y=>vr (Oa S.w op tk (ung g (opv env x)) (ung g (opv env y)))
 | .un op x=>vr (TY op (ung g (opv env x)))
 | .ext x i=>MU i (ung g (opv env x))
 | .call f args=>Ix S hp f (args.map fun x=>ung g (opv env x))
 | .cv x args=>Rc S hp (ung g (opv env x)) (args.map fun x=>ung g (opv env x))
 | .len x=>Ku hp (ung g (opv env x))
 | .app sz bytes zs s x=>MS hp nm sz bytes zs (ung g (opv env s)) (ung g (opv env x))
 | .mm isMax xs=>Ps isMax (xs.map fun x=>ung g (opv env x))
 | .mkf fn first caps=>some (True,.clo fn (first.map fun x=>ung g (opv env x)) (caps.map fun x=>ung g (opv env x)),[])
 | .slc sz x lo hi mx=>bif S.m then H0 hp nm sz (ung g (opv env x)) (lo.map fun x=>ung g (opv env x)) (hi.map fun x=>ung g (opv env x)) (mx.map fun x=>ung g (opv env x)) else Ks hp sz (ung g (opv env x)) (lo.map fun x=>ung g (opv env x)) (hi.map fun x=>ung g (opv env x)) (mx.map fun x=>ung g (opv env x))
 | .cap x=>Oc (ung g (opv env x))
 | .appn sz bytes zs s x=>Ob nm sz bytes zs (ung g (opv env s)) (ung g (opv env x))
 | .nilc x=>Of (ung g (opv env x))
 | .cnv k x=>Og k (ung g (opv env x))
 | .nils neg x=>Md neg (ung g (opv env x))
 | .pan _=>none
 | .dfr _=>none
 | .rcv=>none
 | .allocB _=>none
 | .mks sz bytes zs n c=>QL nm sz bytes zs (ung g (opv env n)) (ung g (opv env c))
 | .ent _=>none
 | .mkm=>some (True,.mp nm,[(.c nm 0,mpE [])])
 | .mlk zd ok m k=>Kv hp zd ok (ung g (opv env m)) (ung g (opv env k))
 | .mup m k x=>Lk hp (ung g (opv env m)) (ung g (opv env k)) (ung g (opv env x))
 | .rng _=>none
 | .nxt _=>none
 | .bad=>none
def BX (d:Option Nat) (x:AV) (env:Env):Env:=
 match d with
 |none=>env
 |some d=>(d,x)::env
def Ig (S:Tab) (nm:Nm) (env:Env) (hp:Hp) (o:AOp):Option (Prop×AV×Hp):=
 match o.g with
 |none=>exK S env hp nm true o.k
 |some tw=>
  match EF env (some tw) with
  |none=>none
  |some g=>
   match exK S env hp nm g o.k with
   |none=>some (g=false,.v undef,[])
   |some (vc,r,[])=>some (g=true→vc,.gd g r,[])
   |some (vc,r,w::ws)=>some (g=true∧vc,r,w::ws)
def Bl (S:Tab) (ver:Nat):Nat→List AOp→Env→Hp→Option (Prop×Env×Hp)
 |_,[],env,hp=>some (True,env,hp)
 |k,o::r,env,hp=>
  match Ig S (k,ver) env hp o with
  |none=>none
  |some (vc,x,ws)=>
   match Bl S ver (k+1) r (BX o.d x env) (ws++hp) with
   |none=>none
   |some (vcs,e,h)=>some (vc∧vcs,e,h)
theorem Bz {σ:Cf}:∀{cs:List AV} {xs:List Value},RepL σ cs xs→xs.length=cs.length
 |[],xs,h=>by simp[RepL] at h;simp[h]
 |c::cs,xs,h=>by
  simp only[RepL] at h
  obtain⟨y,ys,rfl,_,h3⟩:=h
  simp[Bz h3]
theorem Ds {σ:Cf}:∀{cs:List AV} {xs:List Value},RepL σ cs xs→∀(i:Nat) (c:AV),cs[i]? =some c→∃x,xs[i]? =some x∧Rep σ c x
 |[],xs,h,i,c,hc=>by simp at hc
 |c::cs,xs,h,i,c',hc=>by
  simp only[RepL] at h
  obtain⟨y,ys,rfl,h2,h3⟩:=h
  cases i with
  |zero=>simp at hc;subst hc;exact⟨y,by simp,h2⟩
  |succ i=>simpa using Ds h3 i c' (by simpa using hc)
theorem JW {σ:Cf}:∀{cs:List AV} {xs:List Value},xs.length=cs.length→(∀(i:Nat) (c:AV),cs[i]? =some c→∃x,xs[i]? =some x∧Rep σ c x)→RepL σ cs xs
 |[],xs,h,_=>by simp at h;simp[RepL,h]
 |c::cs,[],h,_=>by simp at h
 |c::cs,x::xs,h,hg=>by
  simp only[RepL]
  refine⟨x,xs,rfl, ?_,JW (by simpa using h) fun i c' hc=> ?_⟩
  ·obtain⟨y,h1,h2⟩:=hg 0 c (by simp)
   simp at h1;subst h1;exact h2
  ·simpa using hg (i+1) c' (by simpa using hc)
theorem DL {σ:Cf}:∀{cs ds:List AV} {xs ys:List Value},RepL σ cs xs→RepL σ ds ys→RepL σ (cs++ds) (xs++ys)
 |[],ds,xs,ys,h,k=>by simp[RepL] at h;simpa [h] using k
 |c::cs,ds,xs,ys,h,k=>by
  simp only[RepL] at h
  obtain⟨y,zs,rfl,h2,h3⟩:=h
  simp only[List.cons_append,RepL]
  exact⟨y,zs++ys,rfl,h2,DL h3 k⟩
theorem FQ {σ:Cf} {b:Nat}:∀{cs:List AV} {o:Nat},RepCells σ b o cs→∀(j:Nat) (c:AV),cs[j]? =some c→
  ∃x,σ.w.cell? ⟨b,o+j,none⟩=some x∧Bq x=true∧Rep σ c x
 |[],_,_,j,c,hc=>by simp at hc
 |c::cs,o,h,j,c',hc=>by
  simp only[RepCells] at h
  obtain⟨h1,h2⟩:=h
  cases j with
  |zero=>simp at hc;subst hc;simpa using h1
  |succ j=>
   have:=FQ h2 j c' (by simpa using hc)
   rwa [show o+1+j=o+(j+1) from by omega] at this
theorem EE {σ:Cf} {b:Nat}:∀{cs:List AV} {o:Nat},(∀(j:Nat) (c:AV),cs[j]? =some c→
  ∃x,σ.w.cell? ⟨b,o+j,none⟩=some x∧Bq x=true∧Rep σ c x)→RepCells σ b o cs
 |[],_,_=>by simp[RepCells]
 |c::cs,o,h=>by
  simp only[RepCells]
  refine⟨by simpa using h 0 c (by simp),EE fun j c' hc=> ?_⟩
  have:=h (j+1) c' (by simpa using hc)
  rwa [show o+(j+1)=o+1+j from by omega] at this
theorem E2 {σ:Cf} {sz b:Nat}:∀{rs:List (List AV)} {o:Nat},RepRows σ sz b o rs→∀(i:Nat) (r:List AV),rs[i]? =some r→
  r.length=sz∧RepCells σ b (o+i*sz) r
 |[],_,_,i,r,hr=>by simp at hr
 |r::rs,o,h,i,r',hr=>by
  simp only[RepRows] at h
  cases i with
  |zero=>simp at hr;subst hr;simpa using⟨h.1,h.2.1⟩
  |succ i=>
   have:=E2 h.2.2 i r' (by simpa using hr)
   rwa [show o+sz+i*sz=o+(i+1)*sz from by rw[Nat.succ_mul];omega] at this
theorem GY {σ:Cf} {sz b:Nat}:∀{rs:List (List AV)} {o:Nat},(∀(i:Nat) (r:List AV),rs[i]? =some r→
  r.length=sz∧RepCells σ b (o+i*sz) r)→RepRows σ sz b o rs
 |[],_,_=>by simp[RepRows]
 |r::rs,o,h=>by
  simp only[RepRows]
  have h0:=h 0 r (by simp)
  refine⟨h0.1,by simpa using h0.2,GY fun i r' hr=> ?_⟩
  have:=h (i+1) r' (by simpa using hr)
  rwa [show o+(i+1)*sz=o+sz+i*sz from by rw[Nat.succ_mul];omega] at this
theorem RepCells.keep {σ σ':Cf} (h:Evo σ σ') {b o:Nat} {cs:List AV} (hc:RepCells σ b o cs)
  (hm:∀j x,j<cs.length→σ.w.cell? ⟨b,o+j,none⟩=some x→σ'.w.cell? ⟨b,o+j,none⟩=some x):RepCells σ' b o cs:=
 EE fun j c hj=>by
  obtain⟨x,h1,h2,h3⟩:=FQ hc j c hj
  exact⟨x,hm j x (List.getElem?_eq_some_iff.1 hj).1 h1,h2,h3.mono h⟩
theorem RepRows.keep {σ σ':Cf} (h:Evo σ σ') {sz b o:Nat} {rs:List (List AV)} (hc:RepRows σ sz b o rs)
  (hm:∀j x,j<rs.length*sz→σ.w.cell? ⟨b,o+j,none⟩=some x→σ'.w.cell? ⟨b,o+j,none⟩=some x):RepRows σ' sz b o rs:=
 GY fun i r hi=>by
  obtain⟨h1,h2⟩:=E2 hc i r hi
  refine⟨h1,h2.keep h fun j x hj hx=> ?_⟩
  have hi':=(List.getElem?_eq_some_iff.1 hi).1
  have hlt:i*sz+j<rs.length*sz:=by
   have:(i+1)*sz≤rs.length*sz:=Nat.mul_le_mul_right _ (by omega)
   rw[Nat.succ_mul] at this
   omega
  have:=hm (i*sz+j) x hlt (by rwa [←Nat.add_assoc])
  rwa [←Nat.add_assoc] at this
def lenOf (hp:Hp) (n:Nm):Option Nat:=
 match hl hp (.a n) with
 |some (.sl _ _ rows _)=>some rows.length
 |_=>none
def RepEnts (σ:Cf):List (List AV)→List MapEntry→Prop
 |[],es=>es=[]
 |r::rs,es=>∃e es',es=e::es'∧RepL σ r [e.key,e.val]∧RepEnts σ rs es'
theorem RepEnts.map {σ σ':Cf} (h:∀r vs,RepL σ r vs→RepL σ' r vs):∀{rs:List (List AV)} {es:List MapEntry},RepEnts σ rs es→RepEnts σ' rs es
 |[],_,k=>k
 |_::_,_,⟨e,es',h1,h2,h3⟩=>⟨e,es',h1,h _ _ h2,RepEnts.map h h3⟩
def MapF (σ:Cf) (b j:Nat) (c:AV):Prop:=∃(rows:List (List AV)) (es:Array MapEntry),(c=mpE rows∧j=0)∧σ.w.heap[b]? =some (.map es es.size)∧(∀r∈rows,AB r=true)∧RepEnts σ rows es.toList∧∀(i:Nat) (e:MapEntry),es[i]? =some e→e.born=i
theorem MapF.isM {σ:Cf} {b j:Nat} {c:AV} (h:MapF σ b j c):isM c=true:=by obtain⟨_,_,⟨rfl,_⟩,_⟩:=h;rfl
def CelF (σ:Cf) (n:Nm) (j:Nat) (c:AV):Prop:=
 σ.al n∧σ.M (σ.rb n)∧((∃cs T x,σ.w.heap[σ.rb n]? =some (.cells cs T (0,0))∧cs[j]? =some x∧Bq x=true∧Rep σ c x)∨MapF σ (σ.rb n) j c)
theorem CelF.cells {σ:Cf} {n:Nm} {j:Nat} {c:AV} (h:CelF σ n j c) (hm:isM c=false):σ.al n∧σ.M (σ.rb n)∧∃cs T x,σ.w.heap[σ.rb n]? =some (.cells cs T (0,0))∧cs[j]? =some x∧Bq x=true∧Rep σ c x:=by
 obtain⟨h1,h2,h3|h3⟩:=h
 ·exact⟨h1,h2,h3⟩
 ·rw[h3.isM] at hm;cases hm
theorem CelF.cells2 {σ:Cf} {n:Nm} {j:Nat} {c:AV} (h:CelF σ n j c) {ar:Array Value} {T:TypeId} {z:Nat×Nat} (hm:σ.w.heap[σ.rb n]? =some (.cells ar T z)):σ.al n∧σ.M (σ.rb n)∧∃cs T x,σ.w.heap[σ.rb n]? =some (.cells cs T (0,0))∧cs[j]? =some x∧Bq x=true∧Rep σ c x:=by
 obtain⟨h1,h2,h3|h3⟩:=h
 ·exact⟨h1,h2,h3⟩
 ·obtain⟨_,_,_,h4,_⟩:=h3;rw[hm] at h4;cases h4
def ArrF (σ:Cf) (n:Nm) (sz:Nat) (live:Bool) (rows:List (List AV)):Prop:=
 σ.al n∧0<sz∧(Gq n=false→∀r∈rows,AB r=true)∧((∃a,σ.ra n=(a,0)∧rows=[])∨∃b o cap,σ.ra n=(some ⟨b,o,none⟩,cap)∧0<cap∧rows.length≤cap∧RepRows σ sz b o rows∧
  (live=true→σ.M b∧∃cs T,σ.w.heap[b]? =some (.cells cs T (0,0))∧o+cap*sz≤cs.size)∧(live=false→Fz σ b))
def Owns (σ:Cf) (hp:Hp) (p:Bool×Nm) (b:Nat):Prop:=
 (p.1=false∧σ.rb p.2=b∧∃j c,hl hp (.c p.2 j)=some c)∨
 (p.1=true∧(∃sz rows d,hl hp (.a p.2)=some (.sl sz true rows d))∧∃o cap,σ.ra p.2=(some ⟨b,o,none⟩,cap)∧0<cap)
structure HInv (σ:Cf) (hp:Hp):Prop where
 ln:∀n,σ.ln n=lenOf hp n
 cel:∀n j c,hl hp (.c n j)=some c→CelF σ n j c
 arr:∀n sz live rows d,hl hp (.a n)=some (.sl sz live rows d)→ArrF σ n sz live rows
 inj:∀p q b,Owns σ hp p b→Owns σ hp q b→p=q
 lt:∀b,σ.M b→b<σ.w.heap.size
 ou:∀b,σ.O b→b<σ.w.heap.size
 dis:∀b,σ.M b→¬σ.O b
theorem CelF.keep {σ σ':Cf} (h:Evo σ σ') {n:Nm} {j:Nat} {c:AV} (k:CelF σ n j c) (hM:σ'.M (σ.rb n)) (hw:σ'.w.heap[σ.rb n]? =σ.w.heap[σ.rb n]?):CelF σ' n j c:=by
 obtain⟨h1,h2,h3⟩:=k
 obtain⟨g1,g2⟩:=h.box n h1
 refine⟨g1,by rw[g2];exact hM, ?_⟩
 rcases h3 with⟨cs,T,x,h3,h4,h5,h6⟩|⟨rows,es,h3,h4,h5,h6,h7⟩
 ·exact .inl ⟨cs,T,x,by rw[g2,hw];exact h3,h4,h5,h6.mono h⟩
 ·exact .inr ⟨rows,es,h3,by rw[g2,hw];exact h4,h5,h6.map fun r vs=>RepL.mono h r vs,h7⟩
theorem cell_of_heap {w w':World} {b:Nat} (h:w'.heap[b]? =w.heap[b]?) (o:Nat):w'.cell? ⟨b,o,none⟩=w.cell? ⟨b,o,none⟩:=by
 simp[World.cell?,h]
theorem ArrF.keep {σ σ':Cf} (h:Evo σ σ') {n:Nm} {sz:Nat} {live:Bool} {rows:List (List AV)} (k:ArrF σ n sz live rows) (hra:σ'.ra n=σ.ra n)
  (hM:live=true→∀b o cap,σ.ra n=(some ⟨b,o,none⟩,cap)→0<cap→σ.M b→σ'.M b∧σ'.w.heap[b]? =σ.w.heap[b]?):ArrF σ' n sz live rows:=by
 obtain⟨h1,h2,hp,h3⟩:=k
 refine⟨(h.box n h1).1,h2,hp, ?_⟩
 rcases h3 with⟨a,h3,h4⟩|⟨b,o,cap,h3,h4,h5,h6,h7,h8⟩
 ·exact .inl ⟨a,by rw[hra];exact h3,h4⟩
 ·refine .inr ⟨b,o,cap,by rw[hra];exact h3,h4,h5, ?_, ?_,fun e=>h.fz (h8 e)⟩
  ·cases live with
   |true=>
    obtain⟨g1,_⟩:=h7 rfl
    exact h6.keep h fun j x _ hx=>by rw[cell_of_heap (hM rfl b o cap h3 h4 g1).2];exact hx
   |false=>exact h6.mono h _ _ (h8 rfl).1
  ·intro e
   obtain⟨g1,cs,T,g2,g3⟩:=h7 e
   obtain⟨k1,k2⟩:=hM e b o cap h3 h4 g1
   exact⟨k1,cs,T,by rw[k2];exact g2,g3⟩
theorem H2 (xs ys:Hp) (l:Loc):hl (xs++ys) l=(hl xs l).or (hl ys l):=by
 induction xs with
 |nil=>simp[hl]
 |cons x xs ih=>
  obtain⟨k,v⟩:=x
  simp only[List.cons_append,hl]
  split
  ·simp
  ·exact ih
theorem JX (n m:Nm):∀(cs:List AV) (o j:Nat),hl (CX n o cs) (.c m j)=if m=n∧o≤j then cs[j-o]? else none
 |[],o,j=>by simp[CX,hl]
 |c::cs,o,j=>by
  simp only[CX,hl,Loc.c.injEq]
  rw[JX n m cs (o+1) j]
  by_cases hn:n=m
  ·subst hn
   by_cases hj:o=j
   ·subst hj;simp
   ·by_cases hle:o≤j
    ·have:j-o=(j-(o+1))+1:=by omega
     rw[this]
     simp[hj,hle,show o+1≤j from by omega]
    ·simp[hj,hle,show¬o+1≤j from by omega]
  ·simp[hn,Ne.symm hn]
theorem F5 (n m:Nm):∀(cs:List AV) (o:Nat),hl (CX n o cs) (.a m)=none
 |[],o=>by simp[CX,hl]
 |c::cs,o=>by simp[CX,hl,F5 n m cs (o+1)]
theorem BL {w:World} {o:Obj} {b:Nat} (h:b<w.heap.size):(w.alloc o).heap[b]? =w.heap[b]? :=by
 show(w.heap.push o)[b]? =_
 rw[Array.getElem?_push,if_neg (Nat.ne_of_lt h)]
theorem FK {w:World} {o:Obj}:(w.alloc o).heap[w.heap.size]? =some o:=by
 show(w.heap.push o)[w.heap.size]? =_
 simp
def Cf.at (σ:Cf) (w:World):Cf:={σ with w:=w}
theorem S0 {w w':World} (hw:∀(b:Nat) (o:Obj),w.heap[b]? =some o→w'.heap[b]? =some o):w.heap.size≤w'.heap.size:=by
 rcases Nat.lt_or_ge w'.heap.size w.heap.size with h|h
 ·have:=hw w'.heap.size _ (Array.getElem?_eq_getElem h)
  have:=(Array.getElem?_eq_some_iff.1 this).1
  omega
 ·exact h
theorem Evo.at {σ:Cf} {w:World} (hw:∀(b:Nat) (o:Obj),σ.w.heap[b]? =some o→w.heap[b]? =some o) (ho:SameO σ.w w):Evo σ (σ.at w):=
 ⟨fun _ h=>⟨h,rfl⟩,fun _ _ l h=>⟨l,h,Nat.le_refl _,fun _=>rfl⟩,fun _ _ h h'=>⟨hw _ _ h,h'⟩,rfl,S0 hw,ho⟩
theorem HInv.at {σ:Cf} {hp:Hp} {w:World} (h:HInv σ hp) (hw:∀(b:Nat) (o:Obj),σ.w.heap[b]? =some o→w.heap[b]? =some o) (ho:SameO σ.w w):HInv (σ.at w) hp:=by
 have e:=Evo.at hw ho
 have hs:∀b,σ.M b→w.heap[b]? =σ.w.heap[b]? :=fun b hb=>by
  have:=Array.getElem?_eq_getElem (h.lt b hb)
  rw[hw b _ this,this]
 refine⟨h.ln,fun n j c hc=> ?_,fun n sz live rows d hc=> ?_,h.inj,fun b hb=> ?_,fun b hb=> ?_,h.dis⟩
 ·have k:=h.cel n j c hc
  exact k.keep e k.2.1 (hs _ k.2.1)
 ·exact(h.arr n sz live rows d hc).keep e rfl fun _ b _ _ _ _ hM=>⟨hM,hs b hM⟩
 ·have:=Array.getElem?_eq_getElem (h.lt b hb)
  exact(Array.getElem?_eq_some_iff.1 (hw b _ this)).1
 ·have:=Array.getElem?_eq_getElem (h.ou b hb)
  exact(Array.getElem?_eq_some_iff.1 (hw b _ this)).1
def Cf.newBox (σ:Cf) (n:Nm) (w:World):Cf:=
 {σ with rb:=fun m=>if m=n then σ.w.heap.size else σ.rb m,M:=fun b=>σ.M b∨b=σ.w.heap.size,al:=fun m=>σ.al m∨m=n,w:=w}
theorem Evo.newBox {σ:Cf} {n:Nm} {o:Obj} (hn:¬σ.al n):Evo σ (σ.newBox n (σ.w.alloc o)) where
 box m hm:=⟨.inl hm,by
  have:m≠n:=fun e=>hn (e▸hm)
  simp[Cf.newBox,this]⟩
 arr m _ l h:=⟨l,h,Nat.le_refl _,fun _=>rfl⟩
 fro b x hb hM:=by
  have hlt:=(Array.getElem?_eq_some_iff.1 hb).1
  refine⟨by simp only[Cf.newBox];rw[BL hlt];exact hb, ?_⟩
  simp only[Cf.newBox]
  rintro(h|h)
  ·exact hM h
  ·omega
 out:=rfl
 sz:=by simp[Cf.newBox]
 io:=⟨rfl,rfl⟩
theorem HInv.newBox {σ:Cf} {hp:Hp} (h:HInv σ hp) {n:Nm} (hn:¬σ.al n) {cs:List AV} {xs:List Value} {T:TypeId} (hx:RepL σ cs xs) (h1:∀x∈xs,Bq x=true):
  HInv (σ.newBox n (σ.w.alloc (.cells xs.toArray T))) (CX n 0 cs++hp):=by
 have e:=Evo.newBox (σ:=σ) (n:=n) (o:= .cells xs.toArray T) hn
 have hold:∀m j c,hl hp (.c m j)=some c→m≠n:=fun m j c hc e=>hn (e▸(h.cel m j c hc).1)
 have holda:∀m sz live rows d,hl hp (.a m)=some (.sl sz live rows d)→m≠n:=fun m sz live rows d hc e=>hn (e▸(h.arr m sz live rows d hc).1)
 have hs:∀b,σ.M b→(σ.w.alloc (.cells xs.toArray T)).heap[b]? =σ.w.heap[b]? :=fun b hb=>BL (h.lt b hb)
 have hlook:∀m j c,hl (CX n 0 cs++hp) (.c m j)=some c→(m=n∧cs[j]? =some c)∨(m≠n∧hl hp (.c m j)=some c):=by
  intro m j c hc
  rw[H2,JX] at hc
  by_cases hm:m=n
  ·subst hm
   simp only[Nat.zero_le,and_self,if_true,Nat.sub_zero] at hc
   cases hcs:cs[j]? with
   |some c'=>rw[hcs] at hc;simp at hc;subst hc;exact .inl ⟨rfl,rfl⟩
   |none=>rw[hcs] at hc;simp at hc;exact absurd rfl (hold _ _ _ hc)
  ·simp[hm] at hc;exact .inr ⟨hm,hc⟩
 have hlooka:∀m,hl (CX n 0 cs++hp) (.a m)=hl hp (.a m):=fun m=>by rw[H2,F5];simp
 refine⟨fun m=> ?_,fun m j c hc=> ?_,fun m sz live rows d hc=> ?_,fun p q b hp' hq=> ?_,fun b hb=> ?_,fun b hb=> ?_,fun b hb hO=> ?_⟩
 ·simp only[Cf.newBox,lenOf,hlooka]
  exact h.ln m
 ·rcases hlook m j c hc with⟨rfl,hcs⟩|⟨hm,hc⟩
  ·obtain⟨x,hx1,hx2⟩:=Ds hx j c hcs
   refine⟨.inr rfl,.inr (by simp[Cf.newBox]),.inl ⟨xs.toArray,T,x, ?_,by simpa using hx1,h1 x (List.mem_of_getElem? hx1),hx2.mono e⟩⟩
   simp only[Cf.newBox,if_true]
   exact FK
  ·have k:=h.cel m j c hc
   refine k.keep e (.inl k.2.1) (hs _ k.2.1)
 ·rw[hlooka] at hc
  exact(h.arr m sz live rows d hc).keep e rfl fun _ b _ _ _ _ hM=>⟨.inl hM,hs b hM⟩
 ·have conv:∀p b,Owns (σ.newBox n (σ.w.alloc (.cells xs.toArray T))) (CX n 0 cs++hp) p b→(p=(false,n)∧b=σ.w.heap.size)∨(Owns σ hp p b∧σ.M b):=by
   rintro⟨k,m⟩ b ho
   rcases ho with⟨h1,h2,j,c,hc⟩|⟨h1,⟨sz,rows,d,hc⟩,o,cap,h3,h4⟩
   ·simp only at h1 h2 hc
    subst h1
    rcases hlook m j c hc with⟨rfl,hcs⟩|⟨hm,hc⟩
    ·left;simp[Cf.newBox] at h2;exact⟨rfl,h2.symm⟩
    ·right
     have:σ.rb m=b:=by simpa [Cf.newBox,hm] using h2
     subst this
     exact⟨.inl ⟨rfl,rfl,j,c,hc⟩,(h.cel m j c hc).2.1⟩
   ·simp only at h1 hc h3
    subst h1
    rw[hlooka] at hc
    right
    refine⟨.inr ⟨rfl,⟨sz,rows,d,hc⟩,o,cap,h3,h4⟩, ?_⟩
    obtain⟨_,_,_,k⟩:=h.arr m sz true rows d hc
    rcases k with⟨a,k1,_⟩|⟨b',o',cap',k1,k2,k3,k4,k5,k6⟩
    ·have h3':σ.ra m=(some ⟨b,o,none⟩,cap):=h3
     rw[h3'] at k1
     have:=congrArg Prod.snd k1
     simp at this;omega
    ·have h3':σ.ra m=(some ⟨b,o,none⟩,cap):=h3
     rw[h3'] at k1
     have:=congrArg Prod.fst k1
     simp at this
     rw[this.1]
     exact(k5 rfl).1
  rcases conv p b hp' with⟨h1,h2⟩|⟨h1,h2⟩<;>rcases conv q b hq with⟨h3,h4⟩|⟨h3,h4⟩
  ·rw[h1,h3]
  ·have:=h.lt b h4;omega
  ·have:=h.lt b h2;omega
  ·exact h.inj p q b h1 h3
 ·rcases hb with hb|hb
  ·have:=h.lt b hb;simp[Cf.newBox];omega
  ·simp[Cf.newBox];omega
 ·have:=h.ou b hb;simp[Cf.newBox];omega
 ·rcases hb with hb|hb
  ·exact h.dis b hb hO
  ·have:=h.ou b hO;omega
def Xc:Loc→Bool×Nm
 | .c n _=>(false,n)
 | .a n=>(true,n)
theorem Owns.M {σ:Cf} {hp:Hp} (h:HInv σ hp) {p:Bool×Nm} {b:Nat} (ho:Owns σ hp p b):σ.M b∧σ.al p.2:=by
 rcases ho with⟨h1,h2,j,c,hc⟩|⟨h1,⟨sz,rows,d,hc⟩,o,cap,h3,h4⟩
 ·have:=h.cel _ j c hc
  exact⟨h2▸this.2.1,this.1⟩
 ·obtain⟨g1,_,_,k⟩:=h.arr _ sz true rows d hc
  refine⟨?_,g1⟩
  rcases k with⟨a,k1,_⟩|⟨b',o',cap',k1,k2,k3,k4,k5,k6⟩
  ·rw[h3] at k1
   have:=congrArg Prod.snd k1
   simp at this;omega
  ·rw[h3] at k1
   have:=congrArg Prod.fst k1
   simp at this
   rw[this.1]
   exact(k5 rfl).1
theorem HInv.upd {σ σ':Cf} {hp hp':Hp} (h:HInv σ hp) (e:Evo σ σ') (p:Bool×Nm)
  (hM:∀x,σ.M x→¬Owns σ hp p x→σ'.M x∧σ'.w.heap[x]? =σ.w.heap[x]?)
  (hkey:∀l,Xc l≠p→hl hp' l=hl hp l)
  (hra:∀n,(true,n)≠p→σ.al n→σ'.ra n=σ.ra n)
  (hln:∀n,σ'.ln n=lenOf hp' n)
  (hcel:∀n j c,p=(false,n)→hl hp' (.c n j)=some c→CelF σ' n j c)
  (harr:∀n sz live rows d,p=(true,n)→hl hp' (.a n)=some (.sl sz live rows d)→ArrF σ' n sz live rows)
  (hinj:∀x,Owns σ' hp' p x→Owns σ hp p x∨σ.w.heap.size≤x)
  (hlt:∀b,σ'.M b→b<σ'.w.heap.size) (hsz:σ.w.heap.size≤σ'.w.heap.size) (hdis:∀b,σ'.M b→¬σ.M b→σ.w.heap.size≤b):HInv σ' hp':=by
 have hother:∀q x,q≠p→Owns σ hp q x→¬Owns σ hp p x:=fun q x hq h1 h2=>hq (h.inj q p x h1 h2)
 have hback:∀q x,q≠p→Owns σ' hp' q x→Owns σ hp q x:=by
  rintro⟨k,m⟩ x hq ho
  rcases ho with⟨h1,h2,j,c,hc⟩|⟨h1,⟨sz,rows,d,hc⟩,o,cap,h3,h4⟩
  ·simp only at h1 h2 hc
   subst h1
   rw[hkey (.c m j) hq] at hc
   have k:=h.cel m j c hc
   exact .inl ⟨rfl,by rw[←h2];exact(e.box m k.1).2.symm,j,c,hc⟩
  ·simp only at h1 hc h3
   subst h1
   rw[hkey (.a m) hq] at hc
   have k:=h.arr m sz true rows d hc
   rw[hra m hq k.1] at h3
   exact .inr ⟨rfl,⟨sz,rows,d,hc⟩,o,cap,h3,h4⟩
 refine⟨hln,fun n j c hc=> ?_,fun n sz live rows d hc=> ?_,fun q r x hq hr=> ?_,hlt,fun b hb=>by rw[e.out] at hb;exact Nat.lt_of_lt_of_le (h.ou b hb) hsz,fun b hb hO=> ?_⟩
 rotate_left 3
 ·rw[e.out] at hO
  by_cases hm:σ.M b
  ·exact h.dis b hm hO
  ·have:=hdis b hb hm;have:=h.ou b hO;omega
 ·by_cases hp:(false,n)=p
  ·exact hcel n j c hp.symm hc
  ·rw[hkey (.c n j) hp] at hc
   have k:=h.cel n j c hc
   have ho:Owns σ _ (false,n) (σ.rb n):= .inl ⟨rfl,rfl,j,c,hc⟩
   obtain⟨g1,g2⟩:=hM _ k.2.1 (hother _ _ hp ho)
   exact k.keep e g1 g2
 ·by_cases hp:(true,n)=p
  ·exact harr n sz live rows d hp.symm hc
  ·rw[hkey (.a n) hp] at hc
   have k:=h.arr n sz live rows d hc
   refine k.keep e (hra n hp k.1) fun hl b o cap h1 h2 h3=> ?_
   subst hl
   exact hM b h3 (hother _ _ hp (.inr ⟨rfl,⟨sz,rows,d,hc⟩,o,cap,h1,h2⟩))
 ·by_cases hqp:q=p<;>by_cases hrp:r=p
  ·rw[hqp,hrp]
  ·subst hqp
   have h2:=hback r x hrp hr
   rcases hinj x hq with h1|h1
   ·exact h.inj _ _ x h1 h2
   ·have:=h.lt x (h2.M h).1;omega
  ·subst hrp
   have h2:=hback q x hqp hq
   rcases hinj x hr with h1|h1
   ·exact h.inj _ _ x h2 h1
   ·have:=h.lt x (h2.M h).1;omega
  ·exact h.inj q r x (hback q x hqp hq) (hback r x hrp hr)
def F6 (w:World) (b:Nat):Nat→List Value→World
 |_,[]=>w
 |o,x::xs=>F6 (w.setCell ⟨b,o,none⟩ x) b (o+1) xs
theorem EG {b:Nat}:∀(xs:List Value) (o:Nat) (w:World),(F6 w b o xs).heap.size=w.heap.size
 |[],_,_=>rfl
 |x::xs,o,w=>by simp[F6,EG xs (o+1)]
theorem Me {w:World} {a:Addr} {x:Value} {b:Nat} (h:b≠a.block):(w.setCell a x).heap[b]? =w.heap[b]? :=by
 simp[World.setCell,Array.getElem?_modify,Ne.symm h]
theorem DM {b c:Nat} (h:c≠b):∀(xs:List Value) (o:Nat) (w:World),(F6 w b o xs).heap[c]? =w.heap[c]?
 |[],_,_=>rfl
 |x::xs,o,w=>by rw[F6,DM h xs (o+1),Me h]
theorem JF {w:World} {b o:Nat} {x:Value} {cs:Array Value} {T:TypeId} {f:Nat×Nat} (h:w.heap[b]? =some (.cells cs T f)):
  (w.setCell ⟨b,o,none⟩ x).heap[b]? =some (.cells (cs.setIfInBounds o x) T f):=by
 simp[World.setCell,Array.getElem?_modify,h]
theorem Hn {b:Nat} {T:TypeId} {f:Nat×Nat}:∀(xs:List Value) (o:Nat) (w:World) (cs:Array Value),w.heap[b]? =some (.cells cs T f)→
  ∃ds:Array Value,(F6 w b o xs).heap[b]? =some (.cells ds T f)∧ds.size=cs.size∧
   ∀j,ds[j]? =if o≤j∧j<o+xs.length∧j<cs.size then xs[j-o]? else cs[j]?
 |[],o,w,cs,h=>⟨cs,h,rfl,fun j=>by
   have:¬(o≤j∧j<o+([]:List Value).length∧j<cs.size):=by simp;omega
   rw[if_neg this]⟩
 |x::xs,o,w,cs,h=>by
  obtain⟨ds,h1,h2,h3⟩:=Hn xs (o+1) (w.setCell ⟨b,o,none⟩ x) _ (JF h)
  refine⟨ds,h1,by simpa using h2,fun j=> ?_⟩
  rw[h3 j]
  simp only[Array.size_setIfInBounds,List.length_cons,Array.getElem?_setIfInBounds]
  by_cases hj:o=j
  ·subst hj
   by_cases hc:o<cs.size
   ·simp[hc,show¬o+1≤o from by omega]
   ·simp[hc,show¬o+1≤o from by omega,Array.getElem?_eq_none (Nat.le_of_not_lt hc)]
  ·by_cases h1:o+1≤j∧j<o+1+xs.length∧j<cs.size
   ·rw[if_pos h1,if_pos (by omega)]
    have:j-o=(j-(o+1))+1:=by omega
    rw[this];simp
   ·have hne:¬(o≤j∧j<o+(xs.length+1)∧j<cs.size):=by omega
    rw[if_neg h1,if_neg hne]
    simp[hj]
theorem HK {P:Program} {b:Nat}:∀(xs:List Value) (o i:Nat) (w:World) (cs:Array Value) (T:TypeId),w.heap[b]? =some (.cells cs T (0,0))→(∀x∈xs,Bq x=true)→o+i+xs.length≤cs.size→
  (storeCells ⟨b,o,none⟩ xs i).run P w= .ok () (F6 w b (o+i) xs)
 |[],o,i,w,cs,T,_,_,_=>by simp[storeCells,F6]
 |x::xs,o,i,w,cs,T,h,h1,hl=>by
  have hadd:(⟨b,o,none⟩:Addr).add i=⟨b,o+i,none⟩:=by
   unfold Addr.add;split
   ·subst_vars;rfl
   ·rfl
  have hlt:o+i<cs.size:=by simp at hl;omega
  have hc:w.cell? ⟨b,o+i,none⟩=some cs[o+i]:=by simp[World.cell?,h,hlt]
  have hf:w.frozen? ⟨b,o+i,none⟩=false:=by simp[World.frozen?,h]
  have hx:=h1 x (by simp)
  have hr:(store ⟨b,o+i,none⟩ x).run P w= .ok () (w.setCell ⟨b,o+i,none⟩ x):=by
   cases x<;>simp[Bq] at hx<;>simp[store,Sem.run,hc,hf]
  simp only[storeCells,Sem.run_bind,hadd,hr,Result.andThen]
  rw[HK xs o (i+1) _ _ T (JF h) (fun y hy=>h1 y (by simp[hy])) (by simp at hl⊢;omega)]
  simp[F6,Nat.add_assoc]
theorem P3 {hp:Hp} {n:Nm}:∀{cs:List AV} {o:Nat} {ws:Hp},Jz hp n o cs=some ws→
  (∀l,Xc l≠(false,n)→hl ws l=none)∧(∀j,hl ws (.c n j)=if o≤j then cs[j-o]? else none)∧(∀j,j<cs.length→∃c,hl hp (.c n (o+j))=some c∧isM c=false)
 |[],o,ws,h=>by
  simp[Jz] at h;subst h
  exact⟨fun _ _=>rfl,fun j=>by simp[hl],fun j hj=>by simp at hj⟩
 |c::cs,o,ws,h=>by
  simp only[Jz] at h
  split at h
  ·rename_i c0 hc0
   cases hm:isM c0 with
   |true=>rw[hm] at h;cases h
   |false=>
   rw[hm,cond_false] at h
   cases hs:Jz hp n (o+1) cs with
   |none=>simp[hs] at h
   |some ws'=>
    simp[hs] at h
    subst h
    obtain⟨h1,h2,h3⟩:=P3 hs
    refine⟨fun l hl'=> ?_,fun j=> ?_,fun j hj=> ?_⟩
    ·simp only[hl]
     rw[if_neg]
     ·exact h1 l hl'
     ·intro e;subst e;exact hl' rfl
    ·simp only[hl,Loc.c.injEq,true_and,h2]
     by_cases hj:o=j
     ·subst hj;simp
     ·by_cases hle:o≤j
      ·have:j-o=(j-(o+1))+1:=by omega
       simp[hj,hle,show o+1≤j from by omega,this]
      ·simp[hj,hle,show¬o+1≤j from by omega]
    ·cases j with
     |zero=>exact⟨c0,by simpa using hc0,hm⟩
     |succ j=>
      have:=h3 j (by simpa using hj)
      rwa [show o+1+j=o+(j+1) from by omega] at this
  ·simp at h
theorem H3 (w:World) (b:Nat):∀(o:Nat) (xs:List Value),SameO w (F6 w b o xs)
 |_,[]=>SameO.refl _
 |o,x::xs=>(show SameO w (w.setCell ⟨b,o,none⟩ x) from⟨rfl,rfl⟩).trans (H3 (w.setCell ⟨b,o,none⟩ x) b (o+1) xs)
theorem HInv.store {P:Program} {σ:Cf} {hp:Hp} (h:HInv σ hp) {n:Nm} {o:Nat} {cs:List AV} {xs:List Value} {ws:Hp} (hs:Jz hp n o cs=some ws)
  (hx:RepL σ cs xs) (h1:∀x∈xs,Bq x=true):
  ∃w',(storeCells ⟨σ.rb n,o,none⟩ xs).run P σ.w= .ok () w'∧Evo σ (σ.at w')∧HInv (σ.at w') (ws++hp):=by
 cases hcs:cs with
 |nil=>
  subst hcs
  simp[RepL] at hx;subst hx
  simp[Jz] at hs;subst hs
  exact⟨σ.w,by simp[storeCells],Evo.refl _,h⟩
 |cons c0 cs0=>
  have hlen:=Bz hx
  obtain⟨k1,k2,k3⟩:=P3 hs
  obtain⟨c1,hc1⟩:=k3 0 (by simp[hcs])
  obtain⟨f1,f2,ar,T,x0,f3,f4,f5,f6⟩:=(h.cel n _ c1 hc1.1).cells hc1.2
  have hsz:o+xs.length≤ar.size:=by
   obtain⟨c2,hc2⟩:=k3 (cs.length-1) (by simp[hcs])
   obtain⟨_,_,ar2,T2,x2,g3,g4,_⟩:=(h.cel n _ c2 hc2.1).cells hc2.2
   rw[f3] at g3;cases g3
   have:=(Array.getElem?_eq_some_iff.1 g4).1
   have:0<cs.length:=by simp[hcs]
   omega
  refine⟨F6 σ.w (σ.rb n) o xs, ?_, ?_, ?_⟩
  ·exact HK xs o 0 σ.w ar T f3 h1 (by simpa using hsz)
  ·refine⟨fun _ h=>⟨h,rfl⟩,fun _ _ l h=>⟨l,h,Nat.le_refl _,fun _=>rfl⟩,fun b x hb hM=>⟨?_,hM⟩,rfl,by simp only[Cf.at];rw[EG];exact Nat.le_refl _,H3 _ _ _ _⟩
   have:b≠σ.rb n:=fun e=>hM (e▸f2)
   simp only[Cf.at]
   rw[DM this];exact hb
  ·have e:Evo σ (σ.at (F6 σ.w (σ.rb n) o xs)):=by
    refine⟨fun _ h=>⟨h,rfl⟩,fun _ _ l h=>⟨l,h,Nat.le_refl _,fun _=>rfl⟩,fun b x hb hM=>⟨?_,hM⟩,rfl,by simp only[Cf.at];rw[EG];exact Nat.le_refl _,H3 _ _ _ _⟩
    have:b≠σ.rb n:=fun e=>hM (e▸f2)
    simp only[Cf.at]
    rw[DM this];exact hb
   obtain⟨ds,d1,d2,d3⟩:=Hn xs o σ.w ar f3
   have hold:Owns σ hp (false,n) (σ.rb n):= .inl ⟨rfl,rfl,_,c1,hc1.1⟩
   refine h.upd e (false,n) (fun x hxM hno=>⟨hxM, ?_⟩) (fun l hl'=> ?_) (fun _ _ _=>rfl) (fun m=> ?_) (fun m j c hm hc=> ?_) (fun m sz live rows d hm hc=> ?_) (fun x ho=> ?_) (fun b hb=> ?_) (by simp only[Cf.at];rw[EG];exact Nat.le_refl _) (fun b hb hn=>absurd hb hn)
   ·have:x≠σ.rb n:=fun e=>hno (e▸hold)
    simp only[Cf.at]
    exact DM this _ _ _
   ·rw[H2,k1 l hl'];simp
   ·simp only[Cf.at,lenOf,H2,k1 (.a m) (by simp[Xc])]
    simpa [lenOf] using h.ln m
   ·simp only[Prod.mk.injEq,true_and] at hm;subst hm
    rw[H2,k2] at hc
    by_cases hin:o≤j∧j-o<cs.length
    ·rw[if_pos hin.1,List.getElem?_eq_getElem hin.2] at hc
     simp at hc
     obtain⟨x,e1,e2⟩:=Ds hx (j-o) c (by rw[List.getElem?_eq_getElem hin.2,hc])
     refine⟨f1,f2,.inl ⟨ds,T,x,d1, ?_,h1 x (List.mem_of_getElem? e1),e2.mono e⟩⟩
     rw[d3,if_pos ⟨hin.1,by omega,by omega⟩];exact e1
    ·have hnone:(if o≤j then cs[j-o]? else none)=none:=by
      split
      ·rename_i hle;simp;omega
      ·rfl
     rw[hnone] at hc
     simp at hc
     obtain⟨_,_,ar2,T2,x2,g3,g4,g5,g6⟩:=(h.cel n j c hc).cells2 f3
     rw[f3] at g3;cases g3
     refine⟨f1,f2,.inl ⟨ds,T,x2,d1, ?_,g5,g6.mono e⟩⟩
     rw[d3,if_neg (by omega)];exact g4
   ·simp at hm
   ·rcases ho with⟨_,g2,_⟩|⟨g1,_⟩
    ·left
     have:σ.rb n=x:=g2
     exact this▸hold
    ·cases g1
   ·simp only[Cf.at]
    rw[EG];exact h.lt b hb
def Lies (w:World) (b o:Nat) (vs:List Value):Prop:=∀j v,vs[j]? =some v→w.cell? ⟨b,o+j,none⟩=some v
theorem Ia {σ:Cf} {b:Nat}:∀{cs:List AV} {o:Nat},RepCells σ b o cs→∃vs,RepL σ cs vs∧(∀x∈vs,Bq x=true)∧Lies σ.w b o vs
 |[],o,_=>⟨[],by simp[RepL],by simp,by intro j v h;simp at h⟩
 |c::cs,o,h=>by
  simp only[RepCells] at h
  obtain⟨⟨x,h1,h2,h3⟩,h4⟩:=h
  obtain⟨vs,g1,g2,g3⟩:=Ia h4
  refine⟨x::vs,⟨x,vs,rfl,h3,g1⟩,fun y hy=>(List.mem_cons.1 hy).elim (fun e=>e▸h2) (g2 y),fun j v hj=> ?_⟩
  cases j with
  |zero=>simp at hj;subst hj;exact h1
  |succ j=>have:=g3 j v (by simpa using hj);rwa [show o+1+j=o+(j+1) from by omega] at this
theorem NA {σ:Cf} {b:Nat} {cs:List AV} {vs:List Value} {o:Nat} (h:RepL σ cs vs) (h1:∀x∈vs,Bq x=true) (hl:Lies σ.w b o vs):RepCells σ b o cs:=
 EE fun j c hc=>by
  obtain⟨x,g1,g2⟩:=Ds h j c hc
  exact⟨x,hl j x g1,h1 x (List.mem_of_getElem? g1),g2⟩
theorem Lies.left {w:World} {b o:Nat} {vs us:List Value} (h:Lies w b o (vs++us)):Lies w b o vs:=fun j v hj=>
 h j v (by rw[List.getElem?_append_left (List.getElem?_eq_some_iff.1 hj).1];exact hj)
theorem Lies.right {w:World} {b o:Nat} {vs us:List Value} (h:Lies w b o (vs++us)):Lies w b (o+vs.length) us:=fun j v hj=>by
 rw[Nat.add_assoc]
 exact h (vs.length+j) v (by rw[List.getElem?_append_right (by omega)];simpa using hj)
theorem Lies.app {w:World} {b o:Nat} {vs us:List Value} (h:Lies w b o vs) (k:Lies w b (o+vs.length) us):Lies w b o (vs++us):=fun j v hj=>by
 by_cases hlt:j<vs.length
 ·rw[List.getElem?_append_left hlt] at hj;exact h j v hj
 ·rw[List.getElem?_append_right (by omega)] at hj
  have:=k (j-vs.length) v hj
  rwa [show o+vs.length+(j-vs.length)=o+j from by omega] at this
theorem Hu {σ:Cf} {sz b:Nat}:∀{rs:List (List AV)} {o:Nat},RepRows σ sz b o rs→
  ∃vs,RepL σ rs.flatten vs∧(∀x∈vs,Bq x=true)∧Lies σ.w b o vs∧(∀r∈rs,r.length=sz)∧vs.length=rs.length*sz
 |[],o,_=>⟨[],by simp[RepL],by simp,by intro j v h;simp at h,by simp,by simp⟩
 |r::rs,o,h=>by
  simp only[RepRows] at h
  obtain⟨h1,h2,h3⟩:=h
  obtain⟨us,f1,f2,f3⟩:=Ia h2
  obtain⟨vs,g1,g2,g3,g4,g5⟩:=Hu h3
  have hl:=Bz f1
  refine⟨us++vs,by simpa using DL f1 g1, ?_,f3.app (by rw[hl,h1];exact g3), ?_, ?_⟩
  ·exact fun x hx=>(List.mem_append.1 hx).elim (f2 x) (g2 x)
  ·exact fun r' hr'=>(List.mem_cons.1 hr').elim (fun e=>e▸h1) (g4 r')
  ·simp[g5,hl,h1,Nat.succ_mul];omega
theorem Iy {σ:Cf}:∀{cs ds:List AV} {zs:List Value},RepL σ (cs++ds) zs→∃xs ys,zs=xs++ys∧RepL σ cs xs∧RepL σ ds ys
 |[],ds,zs,h=>⟨[],zs,rfl,by simp[RepL],h⟩
 |c::cs,ds,zs,h=>by
  simp only[List.cons_append,RepL] at h
  obtain⟨y,ys,rfl,h2,h3⟩:=h
  obtain⟨xs,us,rfl,g1,g2⟩:=Iy h3
  exact⟨y::xs,us,rfl,⟨y,xs,rfl,h2,g1⟩,g2⟩
theorem D9 {σ:Cf} {sz b:Nat}:∀{rs:List (List AV)} {o:Nat} {vs:List Value},RepL σ rs.flatten vs→(∀x∈vs,Bq x=true)→Lies σ.w b o vs→(∀r∈rs,r.length=sz)→RepRows σ sz b o rs
 |[],_,_,_,_,_,_=>by simp[RepRows]
 |r::rs,o,vs,h,h1,hl,hr=>by
  simp only[List.flatten_cons] at h
  obtain⟨xs,ys,rfl,g1,g2⟩:=Iy h
  have hx:=Bz g1
  have hrl:=hr r (by simp)
  simp only[RepRows]
  refine⟨hrl,NA g1 (fun x hx=>h1 x (by simp[hx])) hl.left,D9 g2 (fun x hx=>h1 x (by simp[hx])) ?_ (fun r' hr'=>hr r' (by simp[hr']))⟩
  have:=hl.right
  rwa [hx,hrl] at this
def SlV (w:World) (base:Option Addr) (vs:List Value):Prop:=vs=[]∨∃b o,base=some ⟨b,o,none⟩∧Lies w b o vs
theorem Ih (b o j:Nat):(⟨b,o,none⟩:Addr).add j=⟨b,o+j,none⟩:=by
 unfold Addr.add;split
 ·subst_vars;rfl
 ·rfl
theorem GE {P:Program} {w:World} {base:Option Addr} {vs:List Value} (h:SlV w base vs) (size n len cap:Nat) (hl:vs.length=n*size):
  (Builtin.firstCells size n (.slice base len cap)).run P w= .ok vs.toArray w:=by
 cases base with
 |none=>
  rcases h with rfl|⟨b,o,h,_⟩
  ·simp[Builtin.firstCells]
  ·cases h
 |some a=>
  refine run_firstCells_some w size n a len cap vs hl fun j v hj=> ?_
  rcases h with rfl|⟨b,o,h,hl'⟩
  ·simp at hj
  ·cases h
   rw[Ih];exact hl' j v hj
theorem KP {σ:Cf} {sz:Nat} {full:Bool} {rows:List (List AV)} {d:List AV} {v:Value} (h:Rep σ (.sl sz full rows d) v):
  ∃base cap vs,v= .slice base rows.length cap∧rows.length≤cap∧(full=true→cap=rows.length)∧RepL σ rows.flatten vs∧(∀x∈vs,Bq x=true)∧SlV σ.w base vs∧
   (rows=[]∨((∀r∈rows,r.length=sz)∧vs.length=rows.length*sz))∧(rows=[]→vs=[])∧(rows=[]∨∃b o,base=some ⟨b,o,none⟩∧Fz σ b∧Lies σ.w b o vs)∧(∀r∈rows,AB r=true):=by
 simp only[Rep] at h
 obtain⟨base,cap,h1,h2,h3,hp,h4⟩:=h
 rcases h4 with rfl|⟨b,o,h5,h6,h7⟩
 ·exact⟨base,cap,[],h1,h2,h3,by simp[RepL],by simp,.inl rfl,.inl rfl,fun _=>rfl,.inl rfl,by simp⟩
 ·obtain⟨vs,g1,g2,g3,g4,g5⟩:=Hu h7
  exact⟨base,cap,vs,h1,h2,h3,g1,g2,.inr ⟨b,o,h5,g3⟩,.inr ⟨g4,g5⟩,fun e=>by subst e;simp at g5;exact g5,.inr ⟨b,o,h5,h6,g3⟩,hp⟩
theorem Ii {P:Program} {w:World} (t ty e:TypeId) (i:TypeInfo) (z:Value) (ht:P.underlying t=some (.slice e)) (hi:P.info? e=some i) (hz:i.zero=some z)
  {sb xb:Option Addr} {olds news:List Value} (ho:SlV w sb olds) (hn:SlV w xb news) (n m cap cx:Nat) (hlo:olds.length=n*i.size) (hln:news.length=m*i.size)
  (hg:cap<n+m) (hb:(n+m)*i.bytes≤140737488355328) (hb0:0<i.bytes):
  (Builtin.append_ #[t,t] ty #[.slice sb n cap,.slice xb m cx]).run P w=
   .ok (.slice (some ⟨w.heap.size,0,none⟩) (n+m) (grownCap w (n+m) cap e))
    (w.drew.alloc (.cells (olds.toArray++news.toArray++Builtin.zeroCells z.cells (grownCap w (n+m) cap e-(n+m))) e)):=by
 have h1:¬(n+m≤cap):=by omega
 have h63:n+m≤140737488355328:=Nat.le_trans (Nat.le_mul_of_pos_right _ hb0) hb
 have h63':¬(9223372036854775807<((n:Int)+(m:Int))):=by omega
 have h48':¬(281474976710656<Builtin.nextslicecap (n+m) cap*i.bytes):=by have:=growslice_fits (bytes:=i.bytes) hg hb;omega
 have ho':SlV w.drew sb olds:=by simpa [SlV,Lies] using ho
 have hn':SlV w.drew xb news:=by simpa [SlV,Lies] using hn
 have hf:=GE (P:=P) hn' i.size m m cx hln
 have hfo:=GE (P:=P) ho' i.size n n cap hlo
 simp[Builtin.append_,run_underlying ht,sizeOf,typeInfo,zeroValue,hi,hz,Builtin.lenOf,h1,h63',h48',Question.forced,hf,hfo,newRow,grownCap]
 congr 2
 apply Array.ext'
 simp[List.append_assoc]
theorem J5 {P:Program} {w:World} (t ty e:TypeId) (i:TypeInfo) (ht:P.underlying t=some (.slice e)) (hi:P.info? e=some i)
  {sb xb:Option Addr} (n cap cx:Nat) (hc:n≤cap):
  (Builtin.append_ #[t,t] ty #[.slice sb n cap,.slice xb 0 cx]).run P w= .ok (.slice sb n cap) w:=by
 have hf:=GE (P:=P) (w:=w) (base:=xb) (vs:=[]) (.inl rfl) i.size 0 0 cx (by simp)
 cases sb<;>simp[Builtin.append_,run_underlying ht,sizeOf,typeInfo,hi,Builtin.lenOf,hc,hf,storeCells]
theorem QE {P:Program} {w:World} (t ty e:TypeId) (i:TypeInfo) (ht:P.underlying t=some (.slice e)) (hi:P.info? e=some i)
  {b o:Nat} {xb:Option Addr} {news:List Value} (hn:SlV w xb news) (n m cap cx:Nat) (hln:news.length=m*i.size) (h1:∀x∈news,Bq x=true)
  {cs:Array Value} {T:TypeId} (hcs:w.heap[b]? =some (.cells cs T (0,0))) (hfit:o+n*i.size+news.length≤cs.size) (hc:n+m≤cap):
  (Builtin.append_ #[t,t] ty #[.slice (some ⟨b,o,none⟩) n cap,.slice xb m cx]).run P w= .ok (.slice (some ⟨b,o,none⟩) (n+m) cap) (F6 w b (o+n*i.size) news):=by
 have hf:=GE (P:=P) hn i.size m m cx hln
 have hst:=HK (P:=P) news (o+n*i.size) 0 w cs T hcs h1 (by simpa using hfit)
 simp only[Nat.add_zero] at hst
 simp[Builtin.append_,run_underlying ht,sizeOf,typeInfo,hi,Builtin.lenOf,hc,hf,Ih,hst]
def Cf.setArr (σ:Cf) (n:Nm) (a:Option Addr×Nat) (M:Nat→Prop) (len:Nat) (w:World):Cf:=
 {σ with ra:=fun m=>if m=n then a else σ.ra m,M:=M,ln:=fun m=>if m=n then some len else σ.ln m,al:=fun m=>σ.al m∨m=n,w:=w}
theorem Evo.setArr {σ:Cf} {n:Nm} {a:Option Addr×Nat} {M:Nat→Prop} {len:Nat} {w:World}
  (hn:¬σ.al n∨∃l,σ.ln n=some l∧l≤len∧(l=len→a=σ.ra n))
  (hw:∀(b:Nat) (o:Obj),σ.w.heap[b]? =some o→¬σ.M b→w.heap[b]? =some o∧¬M b) (hs:σ.w.heap.size≤w.heap.size) (ho:SameO σ.w w):Evo σ (σ.setArr n a M len w) where
 box m hm:=⟨.inl hm,rfl⟩
 arr m hm l' h:=by
  simp only[Cf.setArr] at h⊢
  by_cases e:m=n
  ·subst e
   simp only[if_true,yE] at h⊢
   subst h
   rcases hn with hn|⟨l,h1,h2,h3⟩
   ·exact absurd hm hn
   ·exact⟨l,h1,h2,h3⟩
  ·simp only[if_neg e] at h⊢
   exact⟨l',h,Nat.le_refl _,fun _=>trivial⟩
 fro:=hw
 out:=rfl
 sz:=hs
 io:=ho
theorem T3 (n m:Nm) (sz:Nat) (live:Bool) (rows:List (List AV)) (d:List AV) (hp:Hp):
  lenOf ((.a n,.sl sz live rows d)::hp) m=if m=n then some rows.length else lenOf hp m:=by
 unfold lenOf
 simp only[hl,Loc.a.injEq]
 by_cases h:n=m
 ·subst h;simp
 ·simp[h,Ne.symm h]
theorem HInv.setArr {σ:Cf} {hp:Hp} (h:HInv σ hp) {n:Nm} {a:Option Addr×Nat} {M:Nat→Prop} {sz:Nat} {live:Bool} {rows:List (List AV)} {d:List AV} {w:World}
  (e:Evo σ (σ.setArr n a M rows.length w))
  (hM:∀x,σ.M x→¬Owns σ hp (true,n) x→M x∧w.heap[x]? =σ.w.heap[x]?)
  (harr:ArrF (σ.setArr n a M rows.length w) n sz live rows)
  (hinj:live=true→∀b o cap,a=(some ⟨b,o,none⟩,cap)→0<cap→Owns σ hp (true,n) b∨σ.w.heap.size≤b)
  (hlt:∀b,M b→b<w.heap.size) (hwz:σ.w.heap.size≤w.heap.size) (hdis:∀b,M b→¬σ.M b→σ.w.heap.size≤b:=by exact fun _ h k=>absurd h k):HInv (σ.setArr n a M rows.length w) ((.a n,.sl sz live rows d)::hp):=by
 refine h.upd e (true,n) hM (fun l hl'=> ?_) (fun m hm _=> ?_) (fun m=> ?_) (fun m j c hm _=> ?_) (fun m sz' live' rows' d' hm hc=> ?_) (fun x ho=> ?_) hlt hwz hdis
 ·simp only[hl]
  rw[if_neg]
  intro e;subst e;exact hl' rfl
 ·have:m≠n:=fun e=>hm (by rw[e])
  simp[Cf.setArr,this]
 ·rw[T3]
  simp only[Cf.setArr]
  rw[h.ln m]
 ·simp at hm
 ·simp only[Prod.mk.injEq,true_and] at hm;subst hm
  simp only[hl,if_true,yE,AV.sl.injEq] at hc
  obtain⟨rfl,rfl,rfl,rfl⟩:=hc
  exact harr
 ·rcases ho with⟨g1,_⟩|⟨_,⟨sz',rows',d',hc⟩,o,cap,g3,g4⟩
  ·cases g1
  ·simp only[hl,if_true,yE,AV.sl.injEq] at hc
   refine hinj hc.2.1 x o cap ?_ g4
   simpa [Cf.setArr] using g3
theorem HInv.newArr {σ:Cf} {hp:Hp} (h:HInv σ hp) {n:Nm} (hn:¬σ.al n) {sz cap:Nat} {rows:List (List AV)} {d:List AV} {vs us:List Value} {T:TypeId}
  (hsz:0<sz) (hv:RepL σ rows.flatten vs) (h1:∀x∈vs,Bq x=true) (hr:∀r∈rows,r.length=sz) (hpu:∀r∈rows,AB r=true) (hle:rows.length≤cap) (hcap:cap*sz≤(vs++us).length):
  Evo σ (σ.setArr n (some ⟨σ.w.heap.size,0,none⟩,cap) (fun b=>σ.M b∨b=σ.w.heap.size) rows.length (σ.w.alloc (.cells (vs++us).toArray T)))∧
  HInv (σ.setArr n (some ⟨σ.w.heap.size,0,none⟩,cap) (fun b=>σ.M b∨b=σ.w.heap.size) rows.length (σ.w.alloc (.cells (vs++us).toArray T))) ((.a n,.sl sz true rows d)::hp):=by
 have e:Evo σ (σ.setArr n (some ⟨σ.w.heap.size,0,none⟩,cap) (fun b=>σ.M b∨b=σ.w.heap.size) rows.length (σ.w.alloc (.cells (vs++us).toArray T))):=by
  refine Evo.setArr (.inl hn) (fun b o hb hM=> ?_) (by simp) ⟨rfl,rfl⟩
  have hlt:=(Array.getElem?_eq_some_iff.1 hb).1
  refine⟨by rw[BL hlt];exact hb, ?_⟩
  rintro(k|k)
  ·exact hM k
  ·omega
 refine⟨e,h.setArr e (fun x hx _=>⟨.inl hx,BL (h.lt x hx)⟩) ?_ ?_ ?_ (by simp) (fun b hb hn=>hb.elim (fun h=>absurd h hn) (fun h=>by omega))⟩
 ·refine⟨.inr rfl,hsz,fun _=>hpu, ?_⟩
  by_cases hc:cap=0
  ·subst hc
   exact .inl ⟨some ⟨σ.w.heap.size,0,none⟩,by simp[Cf.setArr],List.eq_nil_of_length_eq_zero (by omega)⟩
  ·refine .inr ⟨σ.w.heap.size,0,cap,by simp[Cf.setArr],by omega,hle, ?_,fun _=>⟨.inr rfl,_,T,FK,by simpa using hcap⟩,by simp⟩
   refine D9 (hv.mono e) h1 (fun j v hj=> ?_) hr
   have hc:=World.cell?_alloc_new σ.w (vs++us).toArray T (0+j)
   simp only[Cf.setArr]
   rw[hc]
   have:=(List.getElem?_eq_some_iff.1 hj).1
   simp[List.getElem?_append_left this,hj]
 ·intro _ b o cap' hab _
  right
  simp at hab
  omega
 ·intro b hb
  rcases hb with hb|hb
  ·have:=h.lt b hb;simp;omega
  ·simp;omega
structure Next (σ:Cf) (nm:Nm) (hp':Hp) (w':World) (σ':Cf):Prop where
 evo:Evo σ σ'
 inv:HInv σ' hp'
 w:σ'.w=w'
 al:∀m,σ'.al m→σ.al m∨m=nm
theorem ArrF.vals {σ:Cf} {n:Nm} {sz:Nat} {live:Bool} {rows:List (List AV)} (h:ArrF σ n sz live rows):
  ∃vs,RepL σ rows.flatten vs∧(∀x∈vs,Bq x=true)∧SlV σ.w (σ.ra n).1 vs∧(∀r∈rows,r.length=sz)∧vs.length=rows.length*sz∧rows.length≤(σ.ra n).2:=by
 obtain⟨_,_,_,h3⟩:=h
 rcases h3 with⟨a,h3,rfl⟩|⟨b,o,cap,h3,h4,h5,h6,_⟩
 ·exact⟨[],by simp[RepL],by simp,.inl rfl,by simp,by simp,by simp⟩
 ·obtain⟨vs,g1,g2,g3,g4,g5⟩:=Hu h6
  exact⟨vs,g1,g2,.inr ⟨b,o,by rw[h3],g3⟩,g4,g5,by rw[h3];exact h5⟩
theorem GZ {σ:Cf} {hp:Hp} (h:HInv σ hp) {n:Nm} {l sz:Nat} {live:Bool} {rows:List (List AV)} {d:List AV} {v:Value} (hn:hl hp (.a n)=some (.sl sz live rows d))
  (hr:Rep σ (.own n l) v) (hlen:l=rows.length):v= .slice (σ.ra n).1 rows.length (σ.ra n).2:=by
 subst hlen
 simp only[Rep] at hr
 have:=h.ln n
 simp only[lenOf,hn] at this
 exact(hr.2.2 _ this).2 rfl
theorem Jg {σ:Cf} {hp:Hp} (h:HInv σ hp) {sz:Nat} {x:AV} {v:Value} {vx:Prop} {rx:List (List AV)} (hs:Lj hp sz x=some (vx,rx)) (hvx:vx) (hr:Rep σ x v):
  ∃xb cx news,v= .slice xb rx.length cx∧RepL σ rx.flatten news∧(∀y∈news,Bq y=true)∧SlV σ.w xb news∧(∀r∈rx,r.length=sz)∧news.length=rx.length*sz∧(∀r∈rx,AB r=true):=by
 unfold Lj at hs
 split at hs
 ·rename_i z f rows d
  simp only[yE,Prod.mk.injEq] at hs
  obtain⟨rfl,rfl⟩:=hs
  obtain⟨base,cap,vs,h1,h2,h3,h4,h5,h6,h7,h8,_,hpu⟩:=KP hr
  refine⟨base,cap,vs,h1,h4,h5,h6, ?_, ?_,hpu⟩
  ·rcases h7 with rfl|h7
   ·simp
   ·rcases hvx with rfl|rfl
    ·exact h7.1
    ·simp
  ·rcases h7 with rfl|h7
   ·simp[h8 rfl]
   ·rcases hvx with rfl|rfl
    ·exact h7.2
    ·simp[h8 rfl]
 ·rename_i n l
  cases hsn:Gq n with
  |true=>rw[hsn] at hs;cases hs
  |false=>
  rw[hsn,cond_false] at hs
  split at hs
  ·rename_i z f rows d hn
   simp only[yE,Prod.mk.injEq] at hs
   obtain⟨rfl,rfl⟩:=hs
   obtain⟨hl1,rfl⟩:=hvx
   obtain⟨vs,g1,g2,g3,g4,g5,g6⟩:=(h.arr n z f rows d hn).vals
   exact⟨_,_,vs,GZ h hn hr hl1,g1,g2,g3,g4,g5,(h.arr n z f rows d hn).2.2.1 hsn⟩
  ·simp at hs
 ·simp only[yE,Prod.mk.injEq] at hs
  obtain⟨_,rfl⟩:=hs
  simp only[Rep] at hr
  exact⟨_,_,[],hr,by simp[RepL],by simp,.inl rfl,by simp,by simp,by simp⟩
 ·simp at hs
theorem No (w:World) (need old:Nat) (e:TypeId):need≤grownCap w need old e:=by
 simp[grownCap,Question.cut]
theorem HInv.alias {σ:Cf} {hp:Hp} (h:HInv σ hp) {nm:Nm} (hn:¬σ.al nm) {sz:Nat} (hsz:0<sz) {rows:List (List AV)} {d:List AV} {base:Option Addr} {cap:Nat}
  (hfull:cap=rows.length) (hpu:∀r∈rows,AB r=true) (hrow:rows=[]∨∃b o,base=some ⟨b,o,none⟩∧Fz σ b∧RepRows σ sz b o rows):
  ∃σ',Next σ nm ((.a nm,.sl sz rows.isEmpty rows d)::hp) σ.w σ'∧Rep σ' (.own nm rows.length) (.slice base rows.length cap):=by
 subst hfull
 have e:Evo σ (σ.setArr nm (base,rows.length) σ.M rows.length σ.w):=Evo.setArr (.inl hn) (fun b o hb hM=>⟨hb,hM⟩) (Nat.le_refl _) (SameO.refl _)
 refine⟨_,⟨e,h.setArr e (fun x hx _=>⟨hx,rfl⟩) ⟨.inr rfl,hsz,fun _=>hpu, ?_⟩ ?_ h.lt (Nat.le_refl _),rfl,fun m hm=>hm⟩, ?_⟩
 ·rcases hrow with rfl|⟨b,o,h1,h2,h3⟩
  ·exact .inl ⟨base,by simp[Cf.setArr],rfl⟩
  ·cases hr:rows with
   |nil=>exact .inl ⟨base,by simp[Cf.setArr],rfl⟩
   |cons r rs=>
    refine .inr ⟨b,o,rows.length,by simp[Cf.setArr,h1,hr],by simp[hr],by simp[hr], ?_,by simp,fun _=>e.fz h2⟩
    rw[←hr];exact h3.mono e _ _ h2.1
 ·intro hl b o cap hab hc
  have:rows=[]:=by simpa using hl
  subst this
  simp at hab
  omega
 ·simp[Rep,Cf.setArr,Bq]
theorem Vc {P:Program} {σ:Cf} {hp:Hp} (h:HInv σ hp) {nm:Nm} (hnm:¬σ.al nm) {sz bytes:Nat} {zs:List AV} {s x:AV} {vs vx:Value} {vc:Prop} {r:AV} {ws:Hp}
  (t ty e:TypeId) (i:TypeInfo) (z:Value) (ht:P.underlying t=some (.slice e)) (hi:P.info? e=some i) (hz:i.zero=some z) (hsz:i.size=sz) (hby:i.bytes=bytes) (hzs:z.cells.size=sz)
  (hs0:0<sz) (hb0:0<bytes)
  (hex:MS hp nm sz bytes zs s x=some (vc,r,ws)) (hvc:vc) (hrs:Rep σ s vs) (hrx:Rep σ x vx):
  ∃v w' σ',(Builtin.append_ #[t,t] ty #[vs,vx]).run P σ.w= .ok v w'∧Next σ nm (ws++hp) w' σ'∧Rep σ' r v:=by
 subst hsz hby
 unfold MS at hex
 split at hex
 ·simp at hex
 rename_i vx' rx hsr
 have grown:∀(base:Option Addr) (cap:Nat) (rows:List (List AV)) (olds:List Value) (d:List AV) (n:Nm),RepL σ rows.flatten olds→(∀y∈olds,Bq y=true)→SlV σ.w base olds→(∀r∈rows,r.length=i.size)→(Gq n=false→∀r∈rows,AB r=true)→
   olds.length=rows.length*i.size→rx≠[]→vx'→(rows++rx).length*i.bytes≤140737488355328→cap<rows.length+rx.length→vs= .slice base rows.length cap→(n=nm∨σ.ln n=some rows.length)→
   ∃v w' σ',(Builtin.append_ #[t,t] ty #[vs,vx]).run P σ.w= .ok v w'∧Next σ n ((.a n,.sl i.size true (rows++rx) d)::hp) w' σ'∧Rep σ' (.own n (rows++rx).length) v:=by
  intro base cap rows olds d n o1 o2 o3 o4 hpu o5 hne hvx hb hcap hvs hn
  obtain⟨xb,cx,news,x1,x2,x3,x4,x5,x6,xpu⟩:=Jg h hsr hvx hrx
  subst hvs x1
  have hrun:=Ii (P:=P) (w:=σ.w) t ty e i z ht hi hz o3 x4 rows.length rx.length cap cx o5 x6 hcap (by simpa using hb) hb0
  have hw:∀(b:Nat) (o:Obj),σ.w.heap[b]? =some o→σ.w.drew.heap[b]? =some o:=fun b o hb=>hb
  have h':=h.at hw ⟨rfl,rfl⟩
  have e':Evo σ (σ.at σ.w.drew):=Evo.at hw ⟨rfl,rfl⟩
  have hlen:(olds++news).length=(rows++rx).length*i.size:=by simp[o5,x6,Nat.add_mul]
  have hcg:=No σ.w (rows.length+rx.length) cap e
  have hrep:RepL (σ.at σ.w.drew) (rows++rx).flatten (olds++news):=by simpa using DL (o1.mono e') (x2.mono e')
  have hone:∀y∈olds++news,Bq y=true:=fun y hy=>(List.mem_append.1 hy).elim (o2 y) (x3 y)
  have hrl:∀r∈rows++rx,r.length=i.size:=fun r hr=>(List.mem_append.1 hr).elim (o4 r) (x5 r)
  have hcapl:grownCap σ.w (rows.length+rx.length) cap e*i.size≤(olds++news++(Builtin.zeroCells z.cells (grownCap σ.w (rows.length+rx.length) cap e-(rows.length+rx.length))).toList).length:=by
   rw[List.length_append,hlen]
   simp only[Array.length_toList,size_zeroCells,hzs,List.length_append,←Nat.add_mul]
   exact Nat.mul_le_mul_right _ (by omega)
  have hblk:(olds.toArray++news.toArray++Builtin.zeroCells z.cells (grownCap σ.w (rows.length+rx.length) cap e-(rows.length+rx.length)))=
    (olds++news++(Builtin.zeroCells z.cells (grownCap σ.w (rows.length+rx.length) cap e-(rows.length+rx.length))).toList).toArray:=by
   apply Array.ext';simp
  have hM:∀b,b=σ.w.heap.size→¬σ.M b:=fun b hb hM=>by have:=h.lt b hM;omega
  let M':Nat→Prop:=fun b=>σ.M b∨b=σ.w.heap.size
  have evo:Evo (σ.at σ.w.drew) ((σ.at σ.w.drew).setArr n (some ⟨σ.w.heap.size,0,none⟩,grownCap σ.w (rows.length+rx.length) cap e) M' (rows++rx).length
    (σ.w.drew.alloc (.cells (olds++news++(Builtin.zeroCells z.cells (grownCap σ.w (rows.length+rx.length) cap e-(rows.length+rx.length))).toList).toArray e))):=by
   refine Evo.setArr ?_ (fun b o hb hMb=> ?_) (by show σ.w.heap.size≤(σ.w.heap.push _).size;simp) ⟨rfl,rfl⟩
   ·rcases hn with rfl|hn
    ·exact .inl hnm
    ·refine .inr ⟨_,hn,by simp,fun e=> ?_⟩
     have:rx.length=0:=by simp at e;simp[e]
     exact absurd (List.eq_nil_of_length_eq_zero this) hne
   ·have hlt:=(Array.getElem?_eq_some_iff.1 hb).1
    refine⟨(BL (w:=σ.w.drew) hlt).trans hb, ?_⟩
    rintro(k|k)
    ·exact hMb k
    ·have:b<σ.w.heap.size:=hlt
     omega
  refine⟨_,_,_,hrun,⟨e'.trans evo, ?_,by rw[hblk];rfl,fun m hm=>hm⟩, ?_⟩
  ·refine h'.setArr evo (fun x hx _=>⟨.inl hx,BL (h'.lt x hx)⟩) ⟨.inr rfl,hs0,fun e r hr=>(List.mem_append.1 hr).elim (hpu e r) (xpu r), ?_⟩ ?_ ?_ (by simp[Cf.at]) (fun b hb hn=>hb.elim (fun h=>absurd h hn) (fun h=>by simp[Cf.at];omega))
   ·have hpos:0<rx.length:=by cases rx with|nil=>exact absurd rfl hne|cons _ _=>simp
    refine .inr ⟨σ.w.heap.size,0,_,by simp[Cf.setArr];rfl,by omega,by simpa using hcg, ?_,fun _=>⟨.inr rfl,_,e,FK,by simpa using hcapl⟩,by simp⟩
    refine D9 (hrep.mono evo) hone (fun j v hj=> ?_) hrl
    have hc:=World.cell?_alloc_new σ.w.drew (olds++news++(Builtin.zeroCells z.cells (grownCap σ.w (rows.length+rx.length) cap e-(rows.length+rx.length))).toList).toArray e (0+j)
    simp only[Cf.setArr]
    refine hc.trans ?_
    have:=(List.getElem?_eq_some_iff.1 hj).1
    simp only[List.getElem?_toArray,Nat.zero_add]
    rw[List.getElem?_append_left this];exact hj
   ·intro _ b o cap' hab _
    right
    simp at hab
    simp[Cf.at];omega
   ·intro b hb
    rcases hb with hb|hb
    ·have:=h.lt b hb;simp;omega
    ·simp;omega
  ·simp[Rep,Cf.setArr,Bq]
 split at hex
 ·
  rename_i n l
  split at hex
  ·rename_i zz live rows d hn
   simp only[yE,Prod.mk.injEq] at hex
   obtain⟨rfl,rfl,rfl⟩:=hex
   obtain⟨hvx,rfl,hl1,rfl,hb⟩:=hvc
   have ha:=h.arr n i.size true rows d hn
   obtain⟨olds,o1,o2,o3,o4,o5,o6⟩:=ha.vals
   have hvs:=GZ h hn hrs hl1
   have hln:σ.ln n=some rows.length:=by have:=h.ln n;simpa [lenOf,hn] using this
   by_cases hrx0:rx=[]
   ·subst hrx0
    obtain⟨xb,cx,news,x1,_⟩:=Jg h hsr hvx hrx
    subst hvs x1
    have hrun:=J5 (P:=P) (w:=σ.w) (sb:=(σ.ra n).1) (xb:=xb) t ty e i ht hi rows.length (σ.ra n).2 cx o6
    have evo:Evo σ (σ.setArr n (σ.ra n) σ.M rows.length σ.w):=Evo.setArr (.inr ⟨_,hln,Nat.le_refl _,fun _=>rfl⟩) (fun b o hb hM=>⟨hb,hM⟩) (Nat.le_refl _) (SameO.refl _)
    refine⟨_,_,σ.setArr n (σ.ra n) σ.M rows.length σ.w,hrun,⟨evo, ?_,rfl,fun m hm=>hm.elim .inl (fun e=> .inl (e▸ha.1))⟩, ?_⟩
    ·simp only[List.append_nil,List.cons_append,List.nil_append]
     refine h.setArr evo (fun x hx _=>⟨hx,rfl⟩) (ha.keep evo (by simp[Cf.setArr]) fun _ _ _ _ _ _ hM=>⟨hM,rfl⟩) (fun _ b o cap h1 h2=> .inl (.inr ⟨rfl,⟨_,_,_,hn⟩,o,cap,h1,h2⟩)) h.lt (Nat.le_refl _)
    ·simp[Rep,Cf.setArr,Bq]
   ·by_cases hcap:rows.length+rx.length≤(σ.ra n).2
    ·
     obtain⟨xb,cx,news,x1,x2,x3,x4,x5,x6,xpu⟩:=Jg h hsr hvx hrx
     have hpos:0<rx.length:=by cases rx with|nil=>exact absurd rfl hrx0|cons _ _=>simp
     obtain⟨a1,a2,hpu,a3⟩:=ha
     rcases a3 with⟨a,a3,_⟩|⟨b,o,cap,a3,a4,a5,a6,a7,_⟩
     ·have hcap':rows.length+rx.length≤0:=by rw[a3] at hcap;exact hcap
      omega
     obtain⟨hMb,cs,T,hcs,hfit⟩:=a7 rfl
     rw[a3] at hcap hvs o3 o6
     simp only at hcap hvs o3 o6
     subst hvs x1
     have hfit':o+rows.length*i.size+news.length≤cs.size:=by
      rw[x6]
      have:(rows.length+rx.length)*i.size≤cap*i.size:=Nat.mul_le_mul_right _ hcap
      rw[Nat.add_mul] at this;omega
     have hrun:=QE (P:=P) (w:=σ.w) t ty e i ht hi (b:=b) (o:=o) x4 rows.length rx.length cap cx x6 x3 hcs hfit' hcap
     have evo:Evo σ (σ.setArr n (some ⟨b,o,none⟩,cap) σ.M (rows++rx).length (F6 σ.w b (o+rows.length*i.size) news)):=by
      refine Evo.setArr (.inr ⟨_,hln,by simp,fun e=> ?_⟩) (fun c ob hb hM=>⟨?_,hM⟩) (by rw[EG];exact Nat.le_refl _) (H3 _ _ _ _)
      ·simp at e;exact absurd (by simp[e]) hrx0
      ·rw[DM (fun(e:c=b)=>hM (by rw[e];exact hMb))];exact hb
     obtain⟨ds,d1,d2,d3⟩:=Hn news (o+rows.length*i.size) σ.w cs hcs
     have hown:Owns σ hp (true,n) b:= .inr ⟨rfl,⟨_,_,_,hn⟩,o,cap,a3,a4⟩
     refine⟨_,_,σ.setArr n (some ⟨b,o,none⟩,cap) σ.M (rows++rx).length (F6 σ.w b (o+rows.length*i.size) news),hrun,⟨evo, ?_,rfl,fun m hm=>hm.elim .inl (fun e=> .inl (e▸a1))⟩,by simp[Rep,Cf.setArr,Bq]⟩
     refine h.setArr evo (fun x hx hno=>⟨hx,DM (fun(e:x=b)=>hno (by rw[e];exact hown)) _ _ _⟩) ⟨.inr rfl,a2,fun e r hr=>(List.mem_append.1 hr).elim (hpu e r) (xpu r),.inr ⟨b,o,cap,by simp[Cf.setArr],a4,by simpa using hcap, ?_,fun _=>⟨hMb,ds,T,d1,by rw[d2];exact hfit⟩,by simp⟩⟩
      (fun _ b' o' cap' h1 h2=> .inl (by simp at h1;obtain⟨⟨rfl,rfl⟩,rfl⟩:=h1;exact hown)) (fun c hc=>by rw[EG];exact h.lt c hc) (by rw[EG];exact Nat.le_refl _)
     obtain⟨olds',p1,p2,p3,p4,p5⟩:=Hu a6
     have hlen:=p5
     refine D9 (vs:=olds'++news) (by simpa using DL (p1.mono evo) (x2.mono evo)) (fun y hy=>(List.mem_append.1 hy).elim (p2 y) (x3 y)) (fun j v hj=> ?_) (fun r hr=>(List.mem_append.1 hr).elim (p4 r) (x5 r))
     have hjl:=(List.getElem?_eq_some_iff.1 hj).1
     simp only[List.length_append] at hjl
     simp only[Cf.setArr,World.cell?,d1,Option.isSome_none,if_false,yF]
     rw[d3]
     by_cases hjo:j<olds'.length
     ·rw[if_neg (by omega)]
      rw[List.getElem?_append_left hjo] at hj
      have:=p3 j v hj
      simpa [World.cell?,hcs] using this
     ·rw[List.getElem?_append_right (by omega)] at hj
      rw[if_pos ⟨by omega,by omega,by omega⟩]
      rw[show o+j-(o+rows.length*i.size)=j-olds'.length from by omega]
      exact hj
    ·obtain⟨v,w',σ',g1,g2,g3⟩:=grown (σ.ra n).1 (σ.ra n).2 rows olds d n o1 o2 o3 o4 ha.2.2.1 o5 hrx0 hvx hb (by omega) hvs (.inr hln)
     exact⟨v,w',σ',g1,⟨g2.evo,g2.inv,g2.w,fun m hm=>(g2.al m hm).elim .inl (fun e=> .inl (e▸ha.1))⟩,g3⟩
  ·simp at hex
 ·
  rename_i zz full rows d
  simp only[yE,Prod.mk.injEq] at hex
  obtain⟨rfl,rfl,rfl⟩:=hex
  obtain⟨hvx,hzz,rfl,hb⟩:=hvc
  obtain⟨base,cap,olds,h1,h2,h3,h4,h5,h6,h7,h8,h9,hpu⟩:=KP hrs
  have hcap:=h3 rfl
  have hrl:∀r∈rows,r.length=i.size:=by
   rcases h7 with rfl|h7
   ·simp
   ·rcases hzz with rfl|rfl
    ·exact h7.1
    ·simp
  have hol:olds.length=rows.length*i.size:=by
   rcases h7 with rfl|h7
   ·simp[h8 rfl]
   ·rcases hzz with rfl|rfl
    ·exact h7.2
    ·simp[h8 rfl]
  by_cases hrx0:rx=[]
  ·subst hrx0
   obtain⟨xb,cx,news,x1,_⟩:=Jg h hsr hvx hrx
   subst h1 x1
   have hrun:=J5 (P:=P) (w:=σ.w) (sb:=base) (xb:=xb) t ty e i ht hi rows.length cap cx h2
   obtain⟨σ',g1,g2⟩:=h.alias hnm hs0 (rows:=rows) (d:=bif d.isEmpty then zs else d) (base:=base) hcap hpu (by
    rcases h9 with h9|⟨b,o,k1,k2,k3⟩
    ·exact .inl h9
    ·exact .inr ⟨b,o,k1,k2,D9 h4 h5 k3 hrl⟩)
   exact⟨_,_,σ',hrun,by simpa using g1,by simpa using g2⟩
  ·have hpos:0<rx.length:=by cases rx with|nil=>exact absurd rfl hrx0|cons _ _=>simp
   obtain⟨v,w',σ',g1,g2,g3⟩:=grown base cap rows olds (bif d.isEmpty then zs else d) nm h4 h5 h6 hrl (fun _=>hpu) hol hrx0 hvx hb (by omega) h1 (.inl rfl)
   refine⟨v,w',σ',g1, ?_,g3⟩
   have:(!rx.isEmpty||rows.isEmpty)=true:=by cases rx with|nil=>exact absurd rfl hrx0|cons _ _=>simp
   rw[this];exact g2
 ·simp at hex
theorem HInv.frz1 {σ:Cf} {hp:Hp} (h:HInv σ hp) {n:Nm} {sz:Nat} {live:Bool} {rows:List (List AV)} {d:List AV} (hn:hl hp (.a n)=some (.sl sz live rows d)):
  Evo σ (σ.setArr n (σ.ra n) (fun b=>σ.M b∧¬Owns σ hp (true,n) b) rows.length σ.w)∧
  HInv (σ.setArr n (σ.ra n) (fun b=>σ.M b∧¬Owns σ hp (true,n) b) rows.length σ.w) ((.a n,.sl sz false rows d)::hp):=by
 have hln:σ.ln n=some rows.length:=by have:=h.ln n;simpa [lenOf,hn] using this
 have e:Evo σ (σ.setArr n (σ.ra n) (fun b=>σ.M b∧¬Owns σ hp (true,n) b) rows.length σ.w):=
  Evo.setArr (.inr ⟨_,hln,Nat.le_refl _,fun _=>rfl⟩) (fun b o hb hM=>⟨hb,fun k=>hM k.1⟩) (Nat.le_refl _) (SameO.refl _)
 refine⟨e,h.setArr e (fun x hx hno=>⟨⟨hx,hno⟩,rfl⟩) ?_ (by simp) (fun b hb=>h.lt b hb.1) (Nat.le_refl _) (fun b hb hn=>absurd hb.1 hn)⟩
 obtain⟨h1,h2,hp',h3⟩:=h.arr n sz live rows d hn
 refine⟨.inr rfl,h2,hp', ?_⟩
 rcases h3 with⟨a,h3,h4⟩|⟨b,o,cap,h3,h4,h5,h6,h7,h8⟩
 ·exact .inl ⟨a,by simp[Cf.setArr,h3],h4⟩
 ·refine .inr ⟨b,o,cap,by simp[Cf.setArr,h3],h4,h5,h6.keep e fun _ _ _ hx=>hx,by simp,fun _=> ?_⟩
  cases live with
  |true=>
   obtain⟨g1,cs,T,g2,_⟩:=h7 rfl
   refine⟨fun k=>k.2 (.inr ⟨rfl,⟨sz,rows,d,hn⟩,o,cap,h3,h4⟩), ?_,(Array.getElem?_eq_some_iff.1 g2).1⟩
   exact fun hO=>h.dis b g1 hO
  |false=>exact e.fz (h8 rfl)
theorem HInv.frz {σ:Cf} {hp:Hp} (h:HInv σ hp):∀ns:List Nm,∃σ',Evo σ σ'∧HInv σ' (frz hp ns++hp)∧σ'.w=σ.w∧(∀m,σ'.al m→σ.al m)∧(∀b,σ'.M b→σ.M b)∧(∀m,σ'.ra m=σ.ra m)∧(∀n∈ns,∀b,Owns σ hp (true,n) b→¬σ'.M b)∧
  (∀n sz live rows d,hl hp (.a n)=some (.sl sz live rows d)→∃live',hl (frz hp ns++hp) (.a n)=some (.sl sz live' rows d)∧(n∈ns→live'=false))
 |[]=>⟨σ,Evo.refl σ,by simpa [Am.frz] using h,rfl,fun _ h=>h,fun _ h=>h,fun _=>rfl,by simp,fun n sz live rows d hn=>⟨live,by simpa [Am.frz] using hn,by simp⟩⟩
 |n::ns=>by
  obtain⟨σ1,e1,h1,w1,a1,m1,r1,o1,l1⟩:=HInv.frz h ns
  simp only[Am.frz]
  split
  ·rename_i sz live rows d hn
   obtain⟨live',hn',_⟩:=l1 n sz live rows d hn
   obtain⟨e2,h2⟩:=h1.frz1 hn'
   refine⟨_,e1.trans e2,h2,w1,fun m hm=> ?_,fun b hb=>m1 b hb.1,fun m=> ?_,fun m hm b hb=> ?_,fun m sz2 live2 rows2 d2 hm=> ?_⟩
   ·rcases hm with hm|rfl
    ·exact a1 m hm
    ·exact(h.arr m sz live rows d hn).1
   ·simp only[Cf.setArr]
    by_cases e:m=n
    ·rw[if_pos e,e];exact r1 n
    ·rw[if_neg e];exact r1 m
   ·rintro⟨k1,k2⟩
    rcases List.mem_cons.1 hm with rfl|hm
    ·rcases hb with⟨c,_⟩|⟨_,⟨sz3,rows3,d3,hb1⟩,o3,cap3,hb2,hb3⟩
     ·cases c
     ·simp only at hb1 hb2
      rw[hn] at hb1
      simp only[yE,AV.sl.injEq] at hb1
      obtain⟨rfl,rfl,rfl,rfl⟩:=hb1
      cases live' with
      |true=>exact k2 (.inr ⟨rfl,⟨_,_,_,hn'⟩,o3,cap3,by rw[r1];exact hb2,hb3⟩)
      |false=>
       obtain⟨_,_,_,k⟩:=h1.arr m sz false rows d hn'
       rcases k with⟨a,k,_⟩|⟨b4,o4,cap4,k,_,_,_,_,k8⟩
       ·rw[r1,hb2] at k
        have:=congrArg Prod.snd k
        simp at this;omega
       ·rw[r1,hb2] at k
        have:=congrArg Prod.fst k
        simp at this
        rw[this.1] at k1
        exact(k8 rfl).1 k1
    ·exact o1 m hm b hb k1
   ·by_cases e:n=m
    ·subst e
     rw[hn] at hm
     simp only[yE,AV.sl.injEq] at hm
     obtain⟨rfl,rfl,rfl,rfl⟩:=hm
     exact⟨false,by simp[hl],fun _=>rfl⟩
    ·obtain⟨live3,hm3,hm4⟩:=l1 m sz2 live2 rows2 d2 hm
     refine⟨live3, ?_,fun hmem=>hm4 ?_⟩
     ·simp only[List.cons_append,hl,Loc.a.injEq,if_neg e];exact hm3
     ·rcases List.mem_cons.1 hmem with rfl|hmem
      ·exact absurd rfl e
      ·exact hmem
  ·rename_i hno
   refine⟨σ1,e1,h1,w1,a1,m1,r1,fun m hm b hb=> ?_,fun m sz2 live2 rows2 d2 hm=> ?_⟩
   ·rcases List.mem_cons.1 hm with rfl|hm
    ·rcases hb with⟨c,_⟩|⟨_,⟨sz3,rows3,d3,hb1⟩,_⟩
     ·cases c
     ·exact absurd hb1 (hno _ _ _ _)
    ·exact o1 m hm b hb
   obtain⟨live3,hm3,hm4⟩:=l1 m sz2 live2 rows2 d2 hm
   refine⟨live3,hm3,fun hmem=> ?_⟩
   rcases List.mem_cons.1 hmem with rfl|hmem
   ·exact absurd hm (hno sz2 live2 rows2 d2)
   ·exact hm4 hmem
theorem MV {σ τ:Cf} {hp:Hp} (h:HInv σ hp) (e:Evo σ τ) (hw:τ.w=σ.w) {n:Nm} {l sz:Nat} {live:Bool} {rows:List (List AV)} {d:List AV} {v:Value}
  (hs:Gq n=false) (hn:hl hp (.a n)=some (.sl sz live rows d)) (hlen:l=rows.length) (hr:Rep σ (.own n l) v)
  (hM:∀b,Owns σ hp (true,n) b→¬τ.M b):Rep τ (.sl sz false rows d) v:=by
 have hv:=GZ h hn hr hlen
 subst hv
 obtain⟨h1,h2,hpu,h3⟩:=h.arr n sz live rows d hn
 have hpu:=hpu hs
 simp only[Rep]
 rcases h3 with⟨a,h3,h4⟩|⟨b,o,cap,h3,h4,h5,h6,h7,h8⟩
 ·exact⟨a,0,by rw[h3],by simp[h4],by simp,hpu,.inl h4⟩
 ·refine⟨_,cap,by rw[h3],h5,by simp,hpu,.inr ⟨b,o,rfl, ?_,h6.keep e fun _ _ _ hx=>by rw[hw];exact hx⟩⟩
  cases live with
  |true=>
   obtain⟨g1,cs,T,g2,_⟩:=h7 rfl
   refine⟨hM b (.inr ⟨rfl,⟨sz,rows,d,hn⟩,o,cap,h3,h4⟩), ?_,by rw[hw];exact(Array.getElem?_eq_some_iff.1 g2).1⟩
   rw[e.out]
   exact fun hO=>h.dis b g1 hO
  |false=>exact e.fz (h8 rfl)
theorem Jh {hp:Hp} {n:Nm}:∀(k o j:Nat) (c:AV),(Cr hp n o k)[j]? =some c→hl hp (.c n (o+j))=some c∧isM c=false
 |0,o,j,c,h=>by simp[Cr] at h
 |k+1,o,j,c,h=>by
  simp only[Cr] at h
  split at h
  ·rename_i c0 hc0
   cases hm:isM c0 with
   |true=>rw[hm] at h;simp at h
   |false=>
    rw[hm,cond_false] at h
    cases j with
    |zero=>simp at h;subst h;exact⟨by simpa using hc0,hm⟩
    |succ j=>
     have:=Jh k (o+1) j c (by simpa using h)
     rwa [show o+1+j=o+(j+1) from by omega] at this
  ·simp at h
theorem Oh {hp:Hp} {n:Nm} (k o j:Nat) (c:AV) (h:(Cr hp n o k)[j]? =some c):hl hp (.c n (o+j))=some c:=(Jh k o j c h).1
theorem P4 {hp:Hp}:∀{cs:List AV} (_:Kr hp cs) (j:Nat) (c:AV),cs[j]? =some c→Nz hp c
 |[],_,j,c,h=>by simp at h
 |c0::cs,hv,j,c,h=>by
  simp only[Kr] at hv
  cases j with
  |zero=>simp at h;subst h;exact hv.1
  |succ j=>exact P4 hv.2 j c (by simpa using h)
mutual
theorem Kw {σ τ:Cf} {hp:Hp} (h:HInv σ hp) (e:Evo σ τ) (hw:τ.w=σ.w) (hM:∀b,¬τ.M b):∀(x:AV) (v:Value),rvc hp x→Rep σ x v→Rep τ (res hp x) v
 | .own n l,v,hv,hr=>by
  simp only[rvc] at hv
  simp only[res]
  cases hs:Gq n with
  |true=>simp[Rep]
  |false=>
  rw[cond_false]
  split at hv
  ·rename_i sz live rows d hn
   exact MV h e hw hs hn hv hr fun b _=>hM b
  ·exact hv.elim
 | .box n o,v,hv,hr=>by
  simp only[rvc] at hv
  obtain⟨hv1,hv2,hv3⟩:=hv
  simp only[Rep] at hr
  simp only[res,Rep]
  have hne:∃c,hl hp (.c n 0)=some c∧isM c=false:=by
   cases hb:Cr hp n 0 40 with
   |nil=>simp[hb] at hv3
   |cons c cs=>exact⟨c,by simpa using Jh 40 0 0 c (by simp[hb])⟩
  obtain⟨c0,hc0,hm0⟩:=hne
  obtain⟨k1,k2,cs0,T0,x0,k3,k4,_⟩:=(h.cel n 0 c0 hc0).cells hm0
  refine⟨σ.rb n,0,by rw[hr.2];simp,⟨hM _,by rw[e.out];exact h.dis _ k2,by rw[hw];exact h.lt _ k2⟩,hv2, ?_⟩
  refine EE fun j c hc=> ?_
  rw[List.getElem?_map] at hc
  cases hb:(Cr hp n 0 40)[j]? with
  |none=>simp[hb] at hc
  |some c'=>
   simp[hb] at hc
   have hlc:=Oh 40 0 j c' hb
   obtain⟨g1,g2,cs,T,x,g3,g4,g5,g6⟩:=(h.cel n _ c' hlc).cells2 k3
   refine⟨x,by rw[hw];simp[World.cell?,g3];simpa using g4,g5, ?_⟩
   subst hc
   have hrv:=P4 hv1 j c' hb
   cases c' with
   |own m l=>
    simp only[Nz] at hrv
    simp only[Li]
    cases hs:Gq m with
    |true=>simp[Rep]
    |false=>
    rw[cond_false]
    split at hrv
    ·rename_i sz live rows d hn
     exact MV h e hw hs hn hrv g6 fun b _=>hM b
    ·exact hrv.elim
   |_=>exact g6.mono e
 | .agg cs,v,hv,hr=>by
  simp only[rvc] at hv
  simp only[Rep,res] at hr⊢
  obtain⟨xs,h1,h2,h3⟩:=hr
  exact⟨xs,h1,h2,G0 h e hw hM cs xs hv h3⟩
 | .tup cs,v,hv,hr=>by
  simp only[rvc] at hv
  simp only[Rep,res] at hr⊢
  obtain⟨xs,h1,h3⟩:=hr
  exact⟨xs,h1,G0 h e hw hM cs xs hv h3⟩
 | .clo f as bs,v,hv,hr=>by
  simp only[rvc] at hv
  simp only[Rep,res] at hr⊢
  obtain⟨xs,ys,h1,h2,h3⟩:=hr
  exact⟨xs,ys,h1,G0 h e hw hM as xs hv.1 h2,G0 h e hw hM bs ys hv.2 h3⟩
 | .v x,v,_,hr=>by simp only[res];exact hr.mono e
 | .sl a b c d,v,_,hr=>by simp only[res];exact hr.mono e
 | .ro a b,v,_,hr=>by simp only[res];exact hr.mono e
 | .elem a b c d x,v,_,hr=>by simp only[res];exact hr.mono e
 | .gd a b,v,_,hr=>by simp only[res];exact hr.mono e
 | .mp n,v,_,_=>by simp[res,Rep]
 | .un,v,_,_=>by simp[res,Rep]
theorem G0 {σ τ:Cf} {hp:Hp} (h:HInv σ hp) (e:Evo σ τ) (hw:τ.w=σ.w) (hM:∀b,¬τ.M b):∀(xs:List AV) (vs:List Value),D3 hp xs→RepL σ xs vs→RepL τ (Ef hp xs) vs
 |[],vs,_,hr=>by simpa [RepL,Ef] using hr
 |x::xs,vs,hv,hr=>by
  simp only[D3] at hv
  simp only[RepL,Ef] at hr⊢
  obtain⟨y,ys,h1,h2,h3⟩:=hr
  exact⟨y,ys,h1,Kw h e hw hM x y hv.1 h2,G0 h e hw hM xs ys hv.2 h3⟩
end
mutual
theorem K0 {σ τ:Cf} {hp:Hp} (h:HInv σ hp) (e:Evo σ τ) (hw:τ.w=σ.w) (L:List Nm) (hM:∀n∈L,∀b,Owns σ hp (true,n) b→¬τ.M b):
  ∀(x:AV) (v:Value),rvc hp x→nob x=true→(∀n∈ons x,n∈L)→Rep σ x v→Rep τ (res hp x) v
 | .own n l,v,hv,_,hL,hr=>by
  simp only[rvc] at hv
  simp only[res]
  cases hs:Gq n with
  |true=>simp[Rep]
  |false=>
  rw[cond_false]
  split at hv
  ·rename_i sz live rows d hn
   exact MV h e hw hs hn hv hr fun b hb=>hM n (hL n (by simp[ons])) b hb
  ·exact hv.elim
 | .box n o,v,_,hb,_,_=>by simp[nob] at hb
 | .agg cs,v,hv,hb,hL,hr=>by
  simp only[rvc] at hv
  simp only[Rep,res] at hr⊢
  obtain⟨xs,h1,h2,h3⟩:=hr
  exact⟨xs,h1,h2,G1 h e hw L hM cs xs hv (by simpa [nob] using hb) (by simpa [ons] using hL) h3⟩
 | .tup cs,v,hv,hb,hL,hr=>by
  simp only[rvc] at hv
  simp only[Rep,res] at hr⊢
  obtain⟨xs,h1,h3⟩:=hr
  exact⟨xs,h1,G1 h e hw L hM cs xs hv (by simpa [nob] using hb) (by simpa [ons] using hL) h3⟩
 | .clo f as bs,v,hv,hb,hL,hr=>by
  simp only[rvc] at hv
  simp only[nob,Bool.and_eq_true] at hb
  simp only[Rep,res] at hr⊢
  obtain⟨xs,ys,h1,h2,h3⟩:=hr
  exact⟨xs,ys,h1,G1 h e hw L hM as xs hv.1 hb.1 (fun n hn=>hL n (by simp[ons,hn])) h2,G1 h e hw L hM bs ys hv.2 hb.2 (fun n hn=>hL n (by simp[ons,hn])) h3⟩
 | .v x,v,_,_,_,hr=>by simp only[res];exact hr.mono e
 | .sl a b c d,v,_,_,_,hr=>by simp only[res];exact hr.mono e
 | .ro a b,v,_,_,_,hr=>by simp only[res];exact hr.mono e
 | .elem a b c d x,v,_,_,_,hr=>by simp only[res];exact hr.mono e
 | .gd a b,v,_,_,_,hr=>by simp only[res];exact hr.mono e
 | .mp n,v,_,hb,_,_=>by simp[nob] at hb
 | .un,v,_,_,_,_=>by simp[res,Rep]
theorem G1 {σ τ:Cf} {hp:Hp} (h:HInv σ hp) (e:Evo σ τ) (hw:τ.w=σ.w) (L:List Nm) (hM:∀n∈L,∀b,Owns σ hp (true,n) b→¬τ.M b):
  ∀(xs:List AV) (vs:List Value),D3 hp xs→E8 xs=true→(∀n∈B8 xs,n∈L)→RepL σ xs vs→RepL τ (Ef hp xs) vs
 |[],vs,_,_,_,hr=>by simpa [RepL,Ef] using hr
 |x::xs,vs,hv,hb,hL,hr=>by
  simp only[D3] at hv
  simp only[E8,Bool.and_eq_true] at hb
  simp only[RepL,Ef] at hr⊢
  obtain⟨y,ys,h1,h2,h3⟩:=hr
  exact⟨y,ys,h1,K0 h e hw L hM x y hv.1 hb.1 (fun n hn=>hL n (by simp[B8,hn])) h2,G1 h e hw L hM xs ys hv.2 hb.2 (fun n hn=>hL n (by simp[B8,hn])) h3⟩
end
def Gl (σ:Cf):Prop:=∀b j,j<(GT b).length→Fz σ b∧σ.w.cell? ⟨b,j,none⟩=some (.int .i64 ((GT b).getD j 0))
theorem Gl.mono {σ σ':Cf} (h:Gl σ) (e:Evo σ σ'):Gl σ':=fun b j hj=>⟨e.fz (h b j hj).1,e.cell (h b j hj).1.1 (h b j hj).2⟩
theorem Ll {b:Nat}:∀(k o:Nat),(H1 b o k).length=k
 |0,_=>rfl
 |k+1,o=>by simp[H1,Ll k]
theorem Oi {b:Nat}:∀(k o j:Nat),j<k→(H1 b o k)[j]? =some (.i ((GT b).getD (o+j) 0))
 |0,_,_,h=>by omega
 |k+1,o,0,_=>by simp[H1]
 |k+1,o,j+1,h=>by
  simp only[H1,List.getElem?_cons_succ]
  rw[Oi k (o+1) j (by omega),show o+1+j=o+(j+1) by omega]
theorem Gl.cells {σ:Cf} (h:Gl σ) {b o k:Nat} (hl:o+k≤(GT b).length):RepCells σ b o (H1 b o k):=EE fun j c hc=>by
 have hj:j<k:=by have:=(List.getElem?_eq_some_iff.1 hc).1;rwa [Ll] at this
 rw[Oi k o j hj] at hc
 cases hc
 exact⟨_,(h b (o+j) (by omega)).2,rfl,by simp[Rep]⟩
def PCall (P:Program) (f:Nat) (args:List AV) (r:AV):Prop:=
 ∀(σ:Cf) (vs:List Value),Gl σ→(∀b,σ.M b∨σ.O b→b<σ.w.heap.size)→AB args=true→RepL σ args vs→
  Calls P f vs.toArray σ.w fun e w'=>∃v,e= .returned v∧(∀(b:Nat) (o:Obj),σ.w.heap[b]? =some o→w'.heap[b]? =some o)∧SameO σ.w w'∧Cg r=true∧Rep (σ.at w') r v
def okF (P:Program) (f:Nat):Prop:=∃fn,P.funcs[f]? =some fn∧fn.body.isNone=false∧(fn.name== "runtime.NumGoroutine")=false
def QM (P:Program) (f:Nat) (n:Nm) (args cells:List AV) (r:AV) (us:List (Nat×AV)):Prop:=
 ∀(σ:Cf) (vs:List Value),Gl σ→HInv σ (CX n 0 cells)→(∀m,σ.al m→m=n)→RepL σ args vs→
  Calls P f vs.toArray σ.w fun e w'=>∃v σ',e= .returned v∧σ'.w=w'∧Evo σ σ'∧(∀j c,hl (If n us++CX n 0 cells) (.c n j)=some c→CelF σ' n j c)∧Rep σ' r v
def Oj (P:Program) (f:Nat) (n:Nm) (args cells:List AV) (p:Value):Prop:=
 ∀(σ:Cf) (vs:List Value),Gl σ→HInv σ (CX n 0 cells)→(∀m,σ.al m→m=n)→RepL σ args vs→
  Calls P f vs.toArray σ.w fun e w'=>∃σ',e= .panicked [⟨p,false,false⟩]∧σ'.w=w'∧Evo σ σ'∧(∀j c,hl (CX n 0 cells) (.c n j)=some c→CelF σ' n j c)
def Ok (P:Program) (f:Nat) (args vs:List AV) (r:AV):Prop:=
 ∀(σ:Cf) (hp:Hp) (xs:List Value),Gl σ→HInv σ hp→(∃c,∀m,σ.al m→m.2≤c)→RepL σ args xs→args.map (qv hp)=vs→
  Calls P f xs.toArray σ.w fun e w'=>∃v σ',e= .returned v∧σ'.w=w'∧Evo σ σ'∧HInv σ' hp∧(∀m,σ'.al m→σ.al m)∧Rep σ' r v
structure TabOK (P:Program) (S:Tab):Prop where
 f:∀f args vc r,S f args=some (vc,r)→vc→okF P f∧PCall P f args r
 e:∀f args cells vc r us n,S.e f args cells=some (vc,r,us)→vc→EA args=some n→okF P f∧QM P f n args cells r us
 p:∀f args cells vc v n,S.p f args cells=some (vc,v)→vc→EA args=some n→okF P f∧Oj P f n args cells v
 q:∀f args vs vc r,S.q f args vs=some (vc,r)→vc→okF P f∧Ok P f args vs r
def TInv (σ:Cf) (env:Env) (a:Act):Prop:=∀t,Rep σ (lk env t) (a.tmps.getD t undef)
def Step (P:Program) (o:Oper) (a:Act) (σ:Cf) (nm:Nm) (hp':Hp) (r:AV):Prop:=
 (∃v w' σ',((execOp a.eval o).run P σ.w= .ok (.value v) w'∨((execOp a.eval o).run P σ.w= .ok .skip w'∧v=undef))∧Next σ nm hp' w' σ'∧Rep σ' r v)∨
 (∃f args,(execOp a.eval o).run P σ.w= .ok (.enter f args) σ.w∧Calls P f args σ.w fun e w'=>∃v σ',e= .returned v∧Next σ nm hp' w' σ'∧Rep σ' r v)
theorem Next.same {σ:Cf} {nm:Nm} {hp:Hp} (h:HInv σ hp):Next σ nm ([]++hp) σ.w σ:=⟨Evo.refl σ,h,rfl,fun _ h=> .inl h⟩
theorem Step.quiet {P:Program} {o:Oper} {a:Act} {σ:Cf} {nm:Nm} {hp:Hp} {r:AV} {v:Value} (h:HInv σ hp) (hr:(execOp a.eval o).run P σ.w= .ok (.value v) σ.w) (hv:Rep σ r v):
  Step P o a σ nm ([]++hp) r:= .inl ⟨v,σ.w,σ,.inl hr,Next.same h,hv⟩
theorem Ir {σ:Cf} {g:Bool} (hg:g=true) {x:AV} {v:Value} (h:Rep σ x v):Rep σ (ung g x) v:=by
 unfold ung
 split
 ·rename_i b y
  simp only[Rep] at h
  cases hb:imp g b with
  |true=>
   subst hg
   simp[imp] at hb
   simpa using h.1 hb
  |false=>simp[Rep]
 ·exact h
def ofC:Value→AV
 | .slice none 0 0=> .sl 0 true [] []
 |v=> .v v
def ofV:Value→AV
 | .agg cs=>if cs.toList.all Bq=true then .agg (cs.toList.map ofC) else .v (.agg cs)
 |v=>ofC v
theorem JY (σ:Cf) (v:Value):Rep σ (ofC v) v:=by
 unfold ofC
 split
 ·simp[Rep]
 ·simp[Rep]
theorem J6 (σ:Cf):∀xs:List Value,RepL σ (xs.map ofC) xs
 |[]=>by simp[RepL]
 |x::xs=>⟨x,xs,rfl,JY σ x,J6 σ xs⟩
theorem ZB (σ:Cf) (v:Value):Rep σ (ofV v) v:=by
 unfold ofV
 split
 ·split
  ·rename_i cs h
   simp only[Rep]
   exact⟨cs.toList,by simp,List.all_eq_true.1 h,J6 σ _⟩
  ·simp[Rep]
 ·exact JY σ v
def opd:Operand→Opd
 | .tmp t=> .t t
 | .const v=> .k (ofV v)
 | .global g=> .k (.v (.pointer (some ⟨g,0,none⟩)))
 | .func f=> .k (.clo (.func f) [] [])
theorem MW {σ:Cf} {env:Env} {a:Act} (h:TInv σ env a) (x:Operand):Rep σ (opv env (opd x)) (a.eval x):=by
 cases x with
 |tmp t=>exact h t
 |const v=>exact ZB σ v
 |global g=>simp[opd,opv,Act.eval,Rep]
 |func f=>simp[opd,opv,Act.eval,Rep,RepL]
theorem Eo {σ:Cf} {env:Env} {a:Act} {g:Bool} (hg:g=true) (h:TInv σ env a) (x:Operand):Rep σ (ung g (opv env (opd x))) (a.eval x):=Ir hg (MW h x)
theorem EX {σ:Cf} {env:Env} {a:Act} {g:Bool} (hg:g=true) (h:TInv σ env a):∀xs:List Operand,RepL σ ((xs.map opd).map fun x=>ung g (opv env x)) (xs.map a.eval)
 |[]=>by simp[RepL]
 |x::xs=>⟨_,_,rfl,Eo hg h x,EX hg h xs⟩
theorem Hv {k:IntKind} {n:Int} (h:inR k n):k.wrap n=n:=by
 cases k<;>first|exact IntWalk.i64_in n h|exact h
theorem Mf {σ:Cf} {x:AV} {cs:List AV} {v:Value} (hc:x.cells=some cs) (hr:Rep σ x v):RepL σ cs v.cells.toList∧∀y∈v.cells.toList,Bq y=true:=by
 have one:∀(y:AV),Rep σ y v→Bq v=true→RepL σ [y] v.cells.toList∧∀z∈v.cells.toList,Bq z=true:=by
  intro y hy h1
  have:v.cells.toList=[v]:=by cases v<;>simp_all [Value.cells,Bq]
  rw[this]
  exact⟨⟨v,[],rfl,hy,rfl⟩,by simpa using h1⟩
 cases x with
 |agg ds=>
  simp only[AV.cells,yE] at hc
  subst hc
  simp only[Rep] at hr
  obtain⟨xs,rfl,h1,h2⟩:=hr
  exact⟨by simpa [Value.cells] using h2,by simpa [Value.cells] using h1⟩
 |v y=>
  simp only[AV.cells] at hc
  split at hc
  ·rename_i h1
   simp at hc;subst hc
   have:v=y:=by simpa [Rep] using hr
   subst this
   exact one _ hr h1
  ·simp at hc
 |sl a b c d=>
  simp only[AV.cells,yE] at hc;subst hc
  refine one _ hr ?_
  simp only[Rep] at hr;obtain⟨_,_,rfl,_⟩:=hr;rfl
 |ro a b=>
  simp only[AV.cells,yE] at hc;subst hc
  refine one _ hr ?_
  simp only[Rep] at hr;obtain⟨_,_,rfl,_⟩:=hr;rfl
 |clo a b c=>
  simp only[AV.cells,yE] at hc;subst hc
  refine one _ hr ?_
  simp only[Rep] at hr;obtain⟨_,_,rfl,_⟩:=hr;rfl
 |box a b=>
  simp only[AV.cells,yE] at hc;subst hc
  refine one _ hr ?_
  simp only[Rep] at hr;obtain⟨_,rfl⟩:=hr;rfl
 |own a b=>
  simp only[AV.cells,yE] at hc;subst hc
  refine one _ hr ?_
  simp only[Rep] at hr;exact hr.2.1
 |tup _=>simp[AV.cells] at hc
 |elem _ _ _ _ _=>simp[AV.cells] at hc
 |mp n=>
  simp only[AV.cells,yE] at hc;subst hc
  refine one _ hr ?_
  simp only[Rep] at hr;obtain⟨_,rfl⟩:=hr;rfl
 |gd _ _=>simp[AV.cells] at hc
 |un=>simp[AV.cells] at hc
theorem Lm {hp:Hp} {n:Nm}:∀{k o:Nat} {cs:List AV},Ft hp n o k=some cs→∀(j:Nat) (c:AV),cs[j]? =some c→isM c=false
 |0,o,cs,hc,j,c,hj=>by simp[Ft] at hc;subst hc;simp at hj
 |k+1,o,cs,hc,j,c,hj=>by
  simp only[Ft] at hc
  split at hc
  ·rename_i c' hl'
   cases hm:isM c' with
   |true=>rw[hm] at hc;cases hc
   |false=>
    rw[hm,cond_false] at hc
    cases hk:Ft hp n (o+1) k with
    |none=>simp[hk] at hc
    |some ds=>
     simp[hk] at hc;subst hc
     cases j with
     |zero=>simp at hj;subst hj;exact hm
     |succ j=>exact Lm hk j c (by simpa using hj)
  ·simp at hc
theorem P5 {σ:Cf} {hp:Hp} (h:HInv σ hp) {n:Nm}:∀{k o:Nat} {cs:List AV},Ft hp n o k=some cs→∃vs,RepL σ cs vs∧(∀x∈vs,Bq x=true)∧Lies σ.w (σ.rb n) o vs∧vs.length=k
 |0,o,cs,hc=>by
  simp[Ft] at hc;subst hc
  exact⟨[],by simp[RepL],by simp,by intro j v hj;simp at hj,rfl⟩
 |k+1,o,cs,hc=>by
  simp only[Ft] at hc
  split at hc
  ·rename_i c hl'
   cases hm:isM c with
   |true=>rw[hm] at hc;cases hc
   |false=>
   rw[hm,cond_false] at hc
   cases hk:Ft hp n (o+1) k with
   |none=>simp[hk] at hc
   |some ds=>
    simp[hk] at hc;subst hc
    obtain⟨vs,h1,h2,h3,h4⟩:=P5 h hk
    obtain⟨_,_,ar,T,x,g3,g4,g5,g6⟩:=(h.cel n o c hl').cells hm
    refine⟨x::vs,⟨x,vs,rfl,g6,h1⟩,fun y hy=>(List.mem_cons.1 hy).elim (fun e=>e▸g5) (h2 y),fun j v hj=> ?_,by simp[h4]⟩
    cases j with
    |zero=>simp at hj;subst hj;simp[World.cell?,g3,g4]
    |succ j=>have:=h3 j v (by simpa using hj);rwa [show o+1+j=o+(j+1) from by omega] at this
  ·simp at hc
theorem NB:∀{o k:Nat} {cs ds:List AV},cut o k cs=some ds→(∀j,j<k→ds[j]? =cs[o+j]?)∧ds.length=k∧o+k≤cs.length
 |0,0,cs,ds,h=>by simp[cut] at h;subst h;simp
 |0,k+1,[],ds,h=>by simp[cut] at h
 |0,k+1,c::cs,ds,h=>by
  simp only[cut] at h
  cases hk:cut 0 k cs with
  |none=>simp[hk] at h
  |some es=>
   simp[hk] at h;subst h
   obtain⟨h1,h2,h3⟩:=NB hk
   refine⟨fun j hj=> ?_,by simp[h2],by simp;omega⟩
   cases j with
   |zero=>simp
   |succ j=>simpa using h1 j (by omega)
 |o+1,k,[],ds,h=>by cases k<;>simp[cut] at h
 |o+1,k,c::cs,ds,h=>by
  simp only[cut] at h
  obtain⟨h1,h2,h3⟩:=NB h
  refine⟨fun j hj=> ?_,h2,by simp;omega⟩
  rw[h1 j hj,show o+1+j=(o+j)+1 from by omega]
  simp
theorem Re {σ:Cf} {cs ds:List AV} {xs:List Value} {o k:Nat} (hc:cut o k cs=some ds) (h:RepL σ cs xs):∃vs,vs=(xs.drop o).take k∧RepL σ ds vs∧vs.length=k:=by
 obtain⟨h1,h2,h3⟩:=NB hc
 have hl:=Bz h
 refine⟨_,rfl,JW (by simp;omega) fun i c hi=> ?_,by simp;omega⟩
 have hlt:i<k:=by have:=(List.getElem?_eq_some_iff.1 hi).1;omega
 rw[h1 i hlt] at hi
 obtain⟨x,g1,g2⟩:=Ds h _ c hi
 refine⟨x, ?_,g2⟩
 rw[List.getElem?_take_of_lt hlt,List.getElem?_drop];exact g1
def BU:TypeDesc→Bool
 | .struct _=>true
 | .array _ _=>true
 |_=>false
theorem Is {P:Program} {t:TypeId} {d:TypeDesc} (h:P.underlying t=some d) (w:World):(isAgg t).run P w= .ok (BU d) w:=by
 unfold isAgg
 simp only[Sem.run_bind,run_underlying h,Result.andThen]
 cases d<;>simp[BU]
theorem Dw {P:Program} {t:TypeId} {i:TypeInfo} (h:P.info? t=some i) (w:World):(sizeOf t).run P w= .ok i.size w:=by
 simp[sizeOf,typeInfo,h]
theorem Xd {P:Program} {w:World} {a:Addr} {v:Value} (h:w.cell? a=some v):(load a).run P w= .ok v w:=by
 simp[load,Sem.run,h]
theorem SI {P:Program} {t:TypeId} {d:TypeDesc} {i:TypeInfo} (hd:P.underlying t=some d) (hi:P.info? t=some i) {w:World} {b o:Nat} {vs:List Value} (hl:Lies w b o vs) (hn:vs.length=i.size) {σ:Cf} {cs:List AV} {r:AV}
  (hr:RepL σ cs vs) (h1:∀x∈vs,Bq x=true) (hm:mkv (BU d) cs=some r):∃v,(loadVar t ⟨b,o,none⟩).run P w= .ok v w∧Rep σ r v:=by
 unfold loadVar
 cases ha:BU d with
 |true=>
  rw[ha] at hm
  simp[mkv] at hm
  subst hm
  refine⟨.agg vs.toArray, ?_,by simp only[Rep];exact⟨vs,rfl,h1,hr⟩⟩
  have hlc:=run_loadCells_list (P:=P) w ⟨b,o,none⟩ vs (fun j v hj=>by rw[Ih];exact hl j v hj)
  simp[Is hd,ha,Dw hi,←hn,hlc]
 |false=>
  rw[ha] at hm
  cases cs with
  |nil=>simp[mkv] at hm
  |cons c cs=>
   cases cs with
   |cons _ _=>simp[mkv] at hm
   |nil=>
    simp[mkv] at hm
    subst hm
    simp only[RepL] at hr
    obtain⟨v,ys,rfl,hv,rfl⟩:=hr
    refine⟨v, ?_,hv⟩
    have:=Xd (P:=P) (hl 0 v (by simp))
    simp at this
    simp[Is hd,ha,this]
theorem Kx {rows:List (List AV)} {d:List AV} {i:Nat} (h:i<rows.length):rows[i]? =some (BJ rows d i):=by
 simp[BJ,h]
end Go.Proofs.YtciphecegkfaiaaGreat.Am
