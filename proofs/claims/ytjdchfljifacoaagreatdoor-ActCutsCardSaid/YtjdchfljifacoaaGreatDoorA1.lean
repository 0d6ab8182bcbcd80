import Derived.Test.YtjdchfljifacoaaGreatDoorG0
import Derived.WalkKit
import Derived.OrdersIn
import Derived.RangeFuncIn
set_option linter.all false
namespace Go.Proofs.YtjdchfljifacoaaGreatDoor.Am
section
theorem q9:∀{p:Prop}[inst:Decidable p],p->decide p=true:=@decide_eq_true
theorem s6:∀{p:Prop}[inst:Decidable p],¬p->decide p=false:=@decide_eq_false
theorem s7:∀{p:Prop}[inst:Decidable p],(decide p=true)=p:=@decide_eq_true_eq
theorem s8:∀{p:Prop}{x:Decidable p},decide p=false↔¬p:=@decide_eq_false_iff_not
theorem s9:∀{E:Type _}{l:List E}{i:Nat}{a:E},l.getD i a=l[i]?.getD a:=@List.getD_eq_getElem?_getD
theorem t6:∀{E:Type _}{l:List E}{i:Nat}(h:i<l.length),l[i]?=some l[i]:=@List.getElem?_eq_getElem
theorem t7:∀{c:Prop}{h:Decidable c},¬c->∀{E:Sort _}{t e:E},(if c then t else e)=e:=@if_neg
theorem t8:∀{c:Prop}{h:Decidable c},c->∀{E:Sort _}{t e:E},(if c then t else e)=t:=@if_pos
theorem u0:∀{E:Type _}{i:Nat}{b:E}{xs:Array E},xs[i]?=some b↔∃ h,xs[i]=b:=@Array.getElem?_eq_some_iff
theorem w5:∀{E:Type _}{J:Type _}{f:E->J}{a:E}{l:List E},List.map f (a::l)=f a::List.map f l:=@List.map_cons
theorem w6:∀(n:Nat),n<=n:=@Nat.le_refl
theorem w7:∀{E:Type _}{xs:Array E}{i:Nat}(h:i<xs.size),xs[i]?=some xs[i]:=@Array.getElem?_eq_getElem
theorem w8:∀{E:Type _}{a:E},(some a).isSome=true:=@Option.isSome_some
theorem w9:∀{E:Type _}{as bs:List E},(as++bs).length=as.length+bs.length:=@List.length_append
theorem y5:∀{E:Type _}{i:Nat}{a:E}{l:List E},l[i]?=some a↔∃ h,l[i]=a:=@List.getElem?_eq_some_iff
theorem y6:∀{E:Type _}{b:E}{l:List E}{a:E},a∈b::l↔a=b\/a∈l:=@List.mem_cons
theorem y7:∀{E:Type _}{a:E}{s t:List E},a∈s++t↔a∈s\/a∈t:=@List.mem_append
theorem y8:∀(a b:Bool),((a&&b)=true)=(a=true/\b=true):=@Bool.and_eq_true
theorem y9:((0:Nat):Int)=0:=@Int.natCast_zero
theorem z7:∀{E:Type _}{i:Nat}{l:List E}(h:i<l.length),List.drop i l=l[i]::List.drop (i+1) l:=@List.drop_eq_getElem_cons
theorem z8:∀{a b:Int},0<=a->0<=b->0<=a*b:=@Int.mul_nonneg
theorem A00:∀{E:Type _}{a b:E},(some a).getD b=a:=@Option.getD_some
theorem A01:∀{n m:Nat},n.ble m=true->n<=m:=@Nat.le_of_ble_eq_true
theorem A02:∀{E:Type _}(as:List E),[]++as=as:=@List.nil_append
theorem A03:∀{E:Type _}{a:E}{as:List E},(a::as).length=as.length+1:=@List.length_cons
theorem A04:∀{E:Type _}{J:Type _}{as:List E}(f:E->J),(List.map f as).length=as.length:=@List.length_map
theorem A05:∀{E:Type _}(as:List E),as++[]=as:=@List.append_nil
theorem A06:∀{E:Type _}(as bs cs:List E),as++bs++cs=as++(bs++cs):=@List.append_assoc
theorem A07:∀{E:Type _}{J:Type _}{f:E->J}{l:List E}{i:Nat},(List.map f l)[i]?=Option.map f l[i]?:=@List.getElem?_map
theorem A08:∀(n:Nat),0+n=n:=@Nat.zero_add
theorem A09:∀{n m k:Nat},n<=m->m<=k->n<=k:=@Nat.le_trans
theorem A10:∀{E:Type _}{a:E}{as bs:List E},a::as++bs=a::(as++bs):=@List.cons_append
theorem A11:∀{E:Type _}{i:Nat}{l:List E},(List.drop i l).length=l.length-i:=@List.length_drop
theorem A12:∀{E:Sort _}(a b:E),(bif false then a else b)=b:=@cond_false
theorem A13:∀{a b:Nat},a<b->a%b=a:=@Nat.mod_eq_of_lt
theorem A14:∀{E:Type _}{l:List E}{i:Nat}{a:E},l[i]?=some a->a∈l:=@List.mem_of_getElem?
theorem A15:∀(n m k:Nat),n+m+k=n+(m+k):=@Nat.add_assoc
theorem A16:∀(n:Nat),0<=n:=@Nat.zero_le
theorem A17:∀(x:Nat){y:Nat},0<y->x%y<y:=@Nat.mod_lt
theorem A18:∀{E:Type _}{p:E->Bool}{as:List E}{x:E},x∈List.filter p as↔x∈as/\p x=true:=@List.mem_filter
theorem A19:∀(n:Nat),(n:Int).toNat=n:=@Int.toNat_natCast
theorem A20:∀{n m k:Nat},n<m->m<=k->n<k:=@Nat.lt_of_lt_of_le
theorem A21:∀{b:Bool},b=false↔b≠true:=@Bool.eq_false_iff
theorem A22:∀{E:Type _}{J:Type _}{f:E->J},List.map f []=[]:=@List.map_nil
theorem A23:∀{E:Type _}{i:Nat}{l:List E},(List.take i l).length=min i l.length:=@List.length_take
theorem A24:∀{E:Type _}{J:Type _}{f:E->J}{l₁ l₂:List E},List.map f (l₁++l₂)=List.map f l₁++List.map f l₂:=@List.map_append
theorem A25:∀{E:Type _}{R:E->E->Prop}{a:E}{l:List E},List.Pairwise R (a::l)↔(∀(a':E),a'∈l->R a a')/\List.Pairwise R l:=@List.pairwise_cons
theorem A26:∀{E:Type _}{a b:E},a∈[b]↔a=b:=@List.mem_singleton
theorem A27:∀{E:Type _}{l:List E}{i j:Nat},(List.take i l)[j]?=if j<i then l[j]? else none:=@List.getElem?_take
theorem A28:∀(b:Bool),((!b)=true)=(b=false):=@Bool.not_eq_true'
theorem A29:∀{a b:Int},a<b->a<=b:=@Int.le_of_lt
theorem A30:∀{E:Type _}{xs ys:Array E}{i:Nat},i<xs.size->(xs++ys)[i]?=xs[i]?:=@Array.getElem?_append_left
theorem A31:∀{E:Type _}{l₁ l₂:List E}{i:Nat},i<l₁.length->(l₁++l₂)[i]?=l₁[i]?:=@List.getElem?_append_left
theorem A32:∀{E:Type _}{xs:Array E}{i:Nat}{d:E},xs.getD i d=xs[i]?.getD d:=@Array.getD_eq_getD_getElem?
theorem A33:∀{E:Type _},([]:List E).length=0:=@List.length_nil
theorem A34:∀{E:Type _}{p:E->Bool}(l₁ l₂:List E),List.filter p (l₁++l₂)=List.filter p l₁++List.filter p l₂:=@List.filter_append
theorem A35:∀{a b:Int},0<a->0<b->0<a*b:=@Int.mul_pos
theorem A36:∀{n:Nat},List.range n=List.range' 0 n:=@List.range_eq_range'
theorem A37:∀{E:Type _}(i:Nat)(l:List E),List.take i l++List.drop i l=l:=@List.take_append_drop
theorem A38:∀{s n step:Nat},List.range' s (n+1) step=s::List.range' (s+step) n step:=@List.range'_succ
theorem A39:∀{a:Int},0<=a->↑a.toNat=a:=@Int.toNat_of_nonneg
theorem A40:∀{a b:Int},a*b=0↔a=0\/b=0:=@Int.mul_eq_zero
theorem A41:∀(a b:Int),a<b\/b<=a:=@Int.lt_or_le
theorem A42:∀(n m:Nat),n.succ*m=n*m+m:=@Nat.succ_mul
theorem A43:∀(n:Nat),n+0=n:=@Nat.add_zero
theorem A44:∀(n m:Nat),n+m=m+n:=@Nat.add_comm
theorem A45:∀{E:Type _}{l:List E},l.length=0↔l=[]:=@List.length_eq_zero_iff
theorem A46:∀{n m:Nat}(k:Nat),n<=m->n*k<=m*k:=@Nat.mul_le_mul_right
theorem A47:(!false)=true:=@Bool.not_false
theorem A48:∀{E:Type _}{xs:List E}{i j:Nat},(List.drop i xs)[j]?=xs[i+j]?:=@List.getElem?_drop
theorem A49:∀{a b:Bool},a=b↔(a=true↔b=true):=@Bool.eq_iff_iff
theorem A50:∀{E:Type _},(none:Option E).isSome=false:=@Option.isSome_none
theorem A51:∀(m n k:Nat),(m%n+k)%n=(m+k)%n:=@Nat.mod_add_mod
theorem A52:∀(n m:Nat),n<m\/n>=m:=@Nat.lt_or_ge
theorem A53:∀(b:Bool),(b&&true)=b:=@Bool.and_true
theorem A54:∀(n:Nat),n<n.succ:=@Nat.lt_succ_self
theorem A55:∀(n k:Nat),n<=n+k:=@Nat.le_add_right
theorem A56:∀{E:Type _}{l:List E},List.take l.length l=l:=@List.take_length
theorem A57:∀{E:Type _}{J:Type _}(fst:E)(snd:J)(fst_1:E)(snd_1:J),((fst,snd)=(fst_1,snd_1))=(fst=fst_1/\snd=snd_1):=@Prod.mk.injEq
theorem A58:∀{E:Type _}{p:E->Bool}{l:List E},List.filter p l=l↔∀(a:E),a∈l->p a=true:=@List.filter_eq_self
theorem A59:∀{E:Type _}{p:E->Bool}{l:List E},List.filter p l=[]↔∀(a:E),a∈l->¬p a=true:=@List.filter_eq_nil_iff
theorem A60:∀(b:Bool),(true&&b)=b:=@Bool.true_and
theorem yB{E J:Type _}{o:Option E}{f:E->Option J}{b:J}:o.bind f=some b↔∃a,o=some a/\f a=some b:=Option.bind_eq_some_iff
theorem yJ{E:Type _}{a b:E}(h:some a=some b):a=b:=Option.some.inj h
theorem yE{E:Type _}(a b:E):(some a=some b)=(a=b):=Option.some.injEq a b
theorem yF:(false=true)=False:=Bool.false_eq_true
theorem yT:True:=True.intro
theorem yX{E:Type _}{o:Option E}(h:o.isSome=true):∃a,o=some a:=Option.isSome_iff_exists.1 h
open Go
abbrev Nm:=Nat×Nat
def GG(n:Nm):Bool:=decide (5000000<=n.1)
inductive AV where
 |v (x:Value)
 |sl (sz:Nat) (full:Bool) (rows:List (List AV)) (d:List AV)
 |ro (cells:List AV) (off:Nat)
 |agg (cs:List AV)
 |tup (cs:List AV)
 |clo (fn:Fn) (first caps:List AV)
 |box (n:Nm) (off:Nat)
 |own (n:Nm) (len:Nat)
 |elem (n:Nm) (len sz i off:Nat)
 |gd (b:Bool) (x:AV)
 |mp (n:Nm)
 |un
 deriving Inhabited
@[reducible] def AV.i(n:Int):AV:=.v (.int .i64 n)
@[reducible] def AV.b(x:Bool):AV:=.v (.bool x)
def Bp:Value->Bool|.agg _=>false|.tuple _=>false|_=>true
structure Cf where
 rb:Nm->Nat
 ra:Nm->Option Addr×Nat
 M:Nat->Prop
 O:Nat->Prop
 ln:Nm->Option Nat
 al:Nm->Prop
 w:World
mutual
def BN:AV->Bool|.v _=>true|.sl _ _ _ _=>true|.ro _ _=>true|.agg cs=>AA cs|.tup cs=>AA cs|.clo _ xs ys=>AA xs&&AA ys|.gd _ x=>BN x|.un=>true|_=>false
def AA:List AV->Bool|[]=>true|c::cs=>BN c&&AA cs
end
def Fz(U:Cf)(b:Nat):Prop:=¬U.M b/\¬U.O b/\b<U.w.heap.size
mutual
def Rep(U:Cf):AV->Value->Prop|.v x,v=>v=x|.sl sz full rows _,v=>∃base cap,v=.slice base rows.length cap/\rows.length<=cap/\(full=true->cap=rows.length)/\(∀r∈rows,AA r=true)/\(rows=[]\/∃b o,base=some ⟨b,o,none⟩/\Fz U b/\RepRows U sz b o rows)|.ro cells off,v=>∃b o,v=.pointer (some ⟨b,o+off,none⟩)/\Fz U b/\AA cells=true/\RepCells U b o cells|.agg cs,v=>∃xs:List Value,v=.agg xs.toArray/\(∀x∈xs,Bp x=true)/\RepL U cs xs|.tup cs,v=>∃xs:List Value,v=.tuple xs.toArray/\RepL U cs xs|.clo fn first caps,v=>∃xs ys:List Value,v=.func fn xs.toArray ys.toArray/\RepL U first xs/\RepL U caps ys|.box n off,v=>U.al n/\v=.pointer (some ⟨U.rb n,off,none⟩)|.own n len,v=>U.al n/\Bp v=true/\∀l,U.ln n=some l->len<=l/\(len=l->v=.slice (U.ra n).1 len (U.ra n).2)|.elem n len sz i off,v=>U.al n/\(∃b k,v=.pointer (some ⟨b,k,none⟩))/\∀l,U.ln n=some l->len<=l/\(len=l->∃b o,(U.ra n).1=some ⟨b,o,none⟩/\v=.pointer (some ⟨b,o+i*sz+off,none⟩))|.gd b x,v=>(b=true->Rep U x v)/\(b=false->v=undef)|.mp n,v=>U.al n/\v=.map (some (U.rb n))|.un,_=>True
def RepCells(U:Cf)(b:Nat):Nat->List AV->Prop|_,[]=>True|o,c::cs=>(∃x:Value,U.w.cell? ⟨b,o,none⟩=some x/\Bp x=true/\Rep U c x)/\RepCells U b (o+1) cs
def RepRows(U:Cf)(sz b:Nat):Nat->List (List AV)->Prop|_,[]=>True|o,r::rs=>r.length=sz/\RepCells U b o r/\RepRows U sz b (o+sz) rs
def RepL(U:Cf):List AV->List Value->Prop|[],xs=>xs=[]|c::cs,xs=>∃y ys,xs=y::ys/\Rep U c y/\RepL U cs ys
end
def SameO(w w':World):Prop:=w'.os=w.os/\w'.output=w.output
theorem SameO.refl(w:World):SameO w w:=⟨rfl,rfl⟩
theorem SameO.trans{a b c:World}(h:SameO a b)(k:SameO b c):SameO a c:=⟨k.1.trans h.1,k.2.trans h.2⟩
structure Evo(U σ':Cf):Prop where
 box:∀n,U.al n->σ'.al n/\σ'.rb n=U.rb n
 arr:∀n,U.al n->∀l',σ'.ln n=some l'->∃l,U.ln n=some l/\l<=l'/\(l=l'->σ'.ra n=U.ra n)
 fro:∀b o,U.w.heap[b]? =some o->¬U.M b->σ'.w.heap[b]? =some o/\¬σ'.M b
 out:σ'.O=U.O
 sz:U.w.heap.size<=σ'.w.heap.size
 io:SameO U.w σ'.w
theorem Evo.refl(U:Cf):Evo U U:=⟨by grind,by grind,by grind,rfl,w6 _,SameO.refl _⟩
theorem Evo.trans{a b c:Cf}(h:Evo a b)(k:Evo b c):Evo a c where
 box n hn:=⟨(k.box n (h.box n hn).1).1,((k.box n (h.box n hn).1).2).trans (h.box n hn).2⟩
 arr n hn l' hl':=by obtain⟨l,h1,h2,h3⟩:=k.arr n (h.box n hn).1 l' hl';obtain⟨m,g1,g2,g3⟩:=h.arr n hn l h1;grind
 fro b o hb hM:=by obtain⟨h1,h2⟩:=h.fro b o hb hM;exact k.fro b o h1 h2
 out:=k.out.trans h.out
 sz:=A09 h.sz k.sz
 io:=h.io.trans k.io
theorem Evo.fz{U σ':Cf}(h:Evo U σ'){b:Nat}(hb:Fz U b):Fz σ' b:=by obtain⟨h1,h2⟩:=h.fro b _ (w7 hb.2.2) hb.1;exact⟨h2,by rw[h.out];exact hb.2.1,by grind⟩
theorem Evo.cell{U σ':Cf}(h:Evo U σ'){b o:Nat}{x:Value}(hM:¬U.M b)(hc:U.w.cell? ⟨b,o,none⟩=some x):σ'.w.cell? ⟨b,o,none⟩=some x:=by
 cases hb:U.w.heap[b]? with
 |none=>simp[World.cell?,hb]at hc
 |some ob=>obtain⟨h1,_⟩:=h.fro b ob hb hM;grind[World.cell?]
mutual
theorem Rep.mono{U σ':Cf}(h:Evo U σ'):∀(a:AV)(v:Value),Rep U a v->Rep σ' a v
 |.v x,v,hr=>by simpa[Rep]using hr
 |.sl sz full rows _,v,hr=>by
  obtain⟨base,cap,h1,h2,h3,hp,h4⟩:=hr;refine⟨base,cap,h1,h2,h3,hp,?_⟩;rcases h4 with h4|⟨b,o,h5,h6,h7⟩
  ·exact .inl h4
  ·exact .inr ⟨b,o,h5,h.fz h6,RepRows.mono h sz b h6.1 rows o h7⟩
 |.ro cells off,v,hr=>by obtain⟨b,o,h1,h2,hp,h3⟩:=hr;exact⟨b,o,h1,h.fz h2,hp,RepCells.mono h b h2.1 cells o h3⟩
 |.agg cs,v,hr=>by obtain⟨xs,h1,h2,h3⟩:=hr;exact⟨xs,h1,h2,RepL.mono h cs xs h3⟩
 |.tup cs,v,hr=>by obtain⟨xs,h1,h3⟩:=hr;exact⟨xs,h1,RepL.mono h cs xs h3⟩
 |.clo fn first caps,v,hr=>by obtain⟨xs,ys,h1,h2,h3⟩:=hr;exact⟨xs,ys,h1,RepL.mono h first xs h2,RepL.mono h caps ys h3⟩
 |.box n off,v,hr=>by simp only[Rep]at hr⊢;obtain⟨h1,h2⟩:=h.box n hr.1;grind
 |.own n len,v,hr=>by simp only[Rep]at hr⊢;refine⟨(h.box n hr.1).1,hr.2.1,λl' hl'=>?_⟩;obtain⟨l,g1,g2,g3⟩:=h.arr n hr.1 l' hl';grind
 |.elem n len sz i off,v,hr=>by simp only[Rep]at hr⊢;refine⟨(h.box n hr.1).1,hr.2.1,λl' hl'=>?_⟩;obtain⟨l,g1,g2,g3⟩:=h.arr n hr.1 l' hl';grind
 |.gd b x,v,hr=>by exact⟨λhb=>Rep.mono h x v (hr.1 hb),hr.2⟩
 |.mp n,v,hr=>by simp only[Rep]at hr⊢;obtain⟨h1,h2⟩:=h.box n hr.1;grind
 |.un,_,_=>by simp[Rep]
theorem RepCells.mono{U σ':Cf}(h:Evo U σ')(b:Nat)(hM:¬U.M b):∀(cs:List AV)(o:Nat),RepCells U b o cs->RepCells σ' b o cs
 |[],_,_=>by simp[RepCells]
 |c::cs,o,hr=>by obtain⟨⟨x,h1,h2,h3⟩,h4⟩:=hr;exact⟨⟨x,h.cell hM h1,h2,Rep.mono h c x h3⟩,RepCells.mono h b hM cs (o+1) h4⟩
theorem RepRows.mono{U σ':Cf}(h:Evo U σ')(sz b:Nat)(hM:¬U.M b):∀(rs:List (List AV))(o:Nat),RepRows U sz b o rs->RepRows σ' sz b o rs
 |[],_,_=>by simp[RepRows]
 |r::rs,o,hr=>by exact⟨hr.1,RepCells.mono h b hM r o hr.2.1,RepRows.mono h sz b hM rs (o+sz) hr.2.2⟩
theorem RepL.mono{U σ':Cf}(h:Evo U σ'):∀(cs:List AV)(xs:List Value),RepL U cs xs->RepL σ' cs xs
 |[],xs,hr=>by simpa[RepL]using hr
 |c::cs,xs,hr=>by obtain⟨y,ys,h1,h2,h3⟩:=hr;exact⟨y,ys,h1,Rep.mono h c y h2,RepL.mono h cs ys h3⟩
end
mutual
theorem Rep.ofPure{U σ':Cf}(hf:∀b,Fz U b->Fz σ' b)(hw:∀b,Fz U b->σ'.w.heap[b]? =U.w.heap[b]?):∀(a:AV)(v:Value),BN a=true->Rep U a v->Rep σ' a v
 |.v x,v,_,hr=>by simpa[Rep]using hr
 |.sl sz full rows _,v,_,hr=>by
  obtain⟨base,cap,h1,h2,h3,hp,h4⟩:=hr;refine⟨base,cap,h1,h2,h3,hp,?_⟩;rcases h4 with h4|⟨b,o,h5,h6,h7⟩
  ·exact .inl h4
  ·exact .inr ⟨b,o,h5,hf b h6,RepRows.ofPure hf hw sz b h6 rows o hp h7⟩
 |.ro cells off,v,_,hr=>by obtain⟨b,o,h1,h2,hp,h3⟩:=hr;exact⟨b,o,h1,hf b h2,hp,RepCells.ofPure hf hw b h2 cells o hp h3⟩
 |.agg cs,v,hp,hr=>by obtain⟨xs,h1,h2,h3⟩:=hr;exact⟨xs,h1,h2,RepL.ofPure hf hw cs xs (by simpa[BN]using hp) h3⟩
 |.tup cs,v,hp,hr=>by obtain⟨xs,h1,h3⟩:=hr;exact⟨xs,h1,RepL.ofPure hf hw cs xs (by simpa[BN]using hp) h3⟩
 |.clo fn first caps,v,hp,hr=>by simp only[BN,y8]at hp;obtain⟨xs,ys,h1,h2,h3⟩:=hr;exact⟨xs,ys,h1,RepL.ofPure hf hw first xs hp.1 h2,RepL.ofPure hf hw caps ys hp.2 h3⟩
 |.box n off,v,hp,_=>by simp[BN]at hp
 |.own n len,v,hp,_=>by simp[BN]at hp
 |.elem n len sz i off,v,hp,_=>by simp[BN]at hp
 |.mp n,v,hp,_=>by simp[BN]at hp
 |.gd b x,v,hp,hr=>by exact⟨λhb=>Rep.ofPure hf hw x v (by simpa[BN]using hp) (hr.1 hb),hr.2⟩
 |.un,_,_,_=>by simp[Rep]
theorem RepCells.ofPure{U σ':Cf}(hf:∀b,Fz U b->Fz σ' b)(hw:∀b,Fz U b->σ'.w.heap[b]? =U.w.heap[b]?)(b:Nat)(hb:Fz U b):∀(cs:List AV)(o:Nat),AA cs=true->RepCells U b o cs->RepCells σ' b o cs
 |[],_,_,_=>by simp[RepCells]
 |c::cs,o,hp,hr=>by simp only[AA,y8]at hp;obtain⟨⟨x,h1,h2,h3⟩,h4⟩:=hr;exact⟨⟨x,by grind[World.cell?],h2,Rep.ofPure hf hw c x hp.1 h3⟩,RepCells.ofPure hf hw b hb cs (o+1) hp.2 h4⟩
theorem RepRows.ofPure{U σ':Cf}(hf:∀b,Fz U b->Fz σ' b)(hw:∀b,Fz U b->σ'.w.heap[b]? =U.w.heap[b]?)(sz b:Nat)(hb:Fz U b):∀(rs:List (List AV))(o:Nat),(∀r∈rs,AA r=true)->RepRows U sz b o rs->RepRows σ' sz b o rs
 |[],_,_,_=>by simp[RepRows]
 |r::rs,o,hp,hr=>by exact⟨hr.1,RepCells.ofPure hf hw b hb r o (hp r (by simp)) hr.2.1,RepRows.ofPure hf hw sz b hb rs (o+sz) (by grind) hr.2.2⟩
theorem RepL.ofPure{U σ':Cf}(hf:∀b,Fz U b->Fz σ' b)(hw:∀b,Fz U b->σ'.w.heap[b]? =U.w.heap[b]?):∀(cs:List AV)(xs:List Value),AA cs=true->RepL U cs xs->RepL σ' cs xs
 |[],xs,_,hr=>by simpa[RepL]using hr
 |c::cs,xs,hp,hr=>by simp only[AA,y8]at hp;obtain⟨y,ys,h1,h2,h3⟩:=hr;exact⟨y,ys,h1,Rep.ofPure hf hw c y hp.1 h2,RepL.ofPure hf hw cs ys hp.2 h3⟩
end
end
open Go
inductive Loc where
 |c (n:Nm) (j:Nat)
 |a (n:Nm)
 deriving DecidableEq,Inhabited
abbrev Hp:=List (Loc×AV)
abbrev Ar:=List (Nat×AV)
def lk:Ar->Nat->AV|[],_=>.un|(k,x)::r,t=>if k=t then x else lk r t
def hl:Hp->Loc->Option AV|[],_=>none|(k,x)::r,l=>if k=l then some x else hl r l
inductive Opd where
 |t (n:Nat)
 |k (x:AV)
 deriving Inhabited
inductive TK where
 |int|bool|str|cells (ks:List Bool)|other
 deriving Inhabited,DecidableEq
inductive PK where
 |slen|sidx|ssl (lo hi:Bool)|scat|seq (neg:Bool)
 |bits (op:BinOp)|shf (op:BinOp)|cvw (k:IntKind)|mkI (t:TypeId)|tas (t:TypeId)|inil (neg:Bool)|pnil (neg:Bool)|fnil (neg:Bool)
 deriving Inhabited
inductive AK where
 |pr (p:PK) (xs:List Opd)
 |b2s (x:Opd)
 |mv (x:Opd)
 |pick (c a b:Opd)
 |box (n:Nat) (x:Opd)
 |alloc (zs:List AV)
 |build (zs:List AV) (parts:List (Nat×Nat×Opd))
 |bsl (sz len:Nat) (zs:List AV) (parts:List (Nat×Opd))
 |ld (sz:Nat) (ag:Bool) (x:Opd)
 |st (sz:Nat) (a x:Opd)
 |fa (off:Nat) (x:Opd)
 |fld (off sz:Nat) (ag:Bool) (x:Opd)
 |ia (sz:Nat) (x i:Opd)
 |iaA (n sz:Nat) (x i:Opd)
 |idxA (n sz:Nat) (ag:Bool) (x i:Opd)
 |bin (op:BinOp) (tk:TK) (x y:Opd)
 |un (op:UnOp) (x:Opd)
 |ext (x:Opd) (i:Nat)
 |call (f:Nat) (args:List Opd)
 |cv (x:Opd) (args:List Opd)
 |len (x:Opd)
 |app (sz bytes:Nat) (zs:List AV) (s x:Opd)
 |mm (isMax:Bool) (xs:List Opd)
 |mkf (fn:Fn) (first caps:List Opd)
 |slc (sz:Nat) (x:Opd) (lo hi mx:Option Opd)
 |nilc (x:Opd)
 |cnv (k:IntKind) (x:Opd)
 |nils (neg:Bool) (x:Opd)
 |cap (x:Opd)
 |appn (sz bytes:Nat) (zs:List AV) (s x:Opd)
 |pan (x:Opd)
 |dfr (x:Opd)
 |rcv
 |allocB (t:TypeId)
 |mks (sz bytes:Nat) (zs:List AV) (n c:Opd)
 |ent (x:Opd)
 |mkm
 |mlk (zd:AV) (ok:Bool) (m k:Opd)
 |mup (m k x:Opd)
 |rng (x:Opd)
 |nxt (x:Opd)
 |clr (sz:Nat) (zs:List AV) (x:Opd)
 |bad
 deriving Inhabited
structure AOp where
 d:Option Nat
 g:Option (Nat×Bool)
 k:AK
 deriving Inhabited
def R2(k:IntKind)(n:Int):Prop:=match k with|.i64=> -9223372036854775808<=n/\n<=9223372036854775807|k=>k.wrap n=n
def bL(s:ByteArray):List UInt8:=s.data.toList
def sB(l:List UInt8):ByteArray:=⟨l.toArray⟩
@[simp] theorem zQ(l:List UInt8):bL (sB l)=l:=by simp[bL,sB]
@[simp] theorem MS(s:ByteArray):sB (bL s)=s:=by simp[bL,sB]
def Ei(op:BinOp)(k:IntKind)(x y:Int):Int:=match op with|.and=>k.wrap (BitVec.ofInt k.bits x&&&BitVec.ofInt k.bits y).toNat|.or=>k.wrap (BitVec.ofInt k.bits x|||BitVec.ofInt k.bits y).toNat|.xor=>k.wrap (BitVec.ofInt k.bits x^^^BitVec.ofInt k.bits y).toNat|_=>k.wrap (BitVec.ofInt k.bits x&&& ~~~BitVec.ofInt k.bits y).toNat
def D5(op:BinOp)(k:IntKind)(x y:Int):Int:=match op with|.shl=>k.wrap (x*2^min y.toNat k.bits)|_=>x.fdiv (2^min y.toNat k.bits)
def PQ:List AV->UInt8|[.v (.int .u8 n)]=>UInt8.ofNat n.toNat|_=>0
def R3:List AV->Bool|[.v (.int .u8 _)]=>true|_=>false
def imp(g b:Bool):Bool:= !g||b
@[simp] theorem aV(b:Bool):imp b b=true:=by cases b<;>rfl
@[simp] theorem aW(b:Bool):imp true b=b:=by cases b<;>rfl
@[simp] theorem X0(b:Bool):imp false b=true:=rfl
def Ay(g:Bool):AV->AV|.gd b x=>bif imp g b then x else .un|x=>x
def Ax(env:Ar):Opd->AV|.t n=>lk env n|.k x=>x
def gb(want:Bool):AV->Option Bool|.v (.bool b)=>some (b==want)|.gd c (.v (.bool b))=>some (c&&(b==want))|_=>none
def D8(env:Ar):Option (Nat×Bool)->Option Bool|none=>some true|some (t,want)=>gb want (lk env t)
def cut:Nat->Nat->List AV->Option (List AV)|0,0,_=>some []|0,_+1,[]=>none|0,n+1,c::cs=>(cut 0 n cs).map (c::·)|_+1,_,[]=>none|o+1,n,_::cs=>cut o n cs
def AV.cells:AV->Option (List AV)|.agg cs=>some cs|.v x=>if Bp x=true then some [.v x]else none|.sl sz f r d=>some [.sl sz f r d]|.ro c o=>some [.ro c o]|.clo a b c=>some [.clo a b c]|.box n o=>some [.box n o]|.own n l=>some [.own n l]|.mp n=>some [.mp n]|_=>none
def FH(ag:Bool)(cs:List AV):Option AV:=match ag,cs with|true,cs=>some (.agg cs)|false,[c]=>some c|_,_=>none
@[reducible] def Mx(rows:List (List AV)):AV:=.gd false (.sl 0 true rows [])
def isM:AV->Bool|.gd _ _=>true|_=>false
def G8(hp:Hp)(n:Nm):Nat->Nat->Option (List AV)|_,0=>some []|o,k+1=>match hl hp (.c n o)with|some c=>bif isM c then none else(G8 hp n (o+1) k).map (c::·)|none=>none
def DJ(rows:List (List AV))(d:List AV)(i:Nat):List AV:=rows.getD i d
def KH(hp:Hp)(n:Nm):Nat->List AV->Option Hp|_,[]=>some []|o,c::cs=>match hl hp (.c n o)with|some c'=>bif isM c' then none else(KH hp n (o+1) cs).map ((.c n o,c)::·)|none=>none
def D6(n:Nm):Nat->List AV->Hp|_,[]=>[]|o,c::cs=>(.c n o,c)::D6 n (o+1) cs
def FZ:List AV->Nat->List AV->Option (List AV)|cs,0,[]=>some cs|c::cs,o+1,ds=>(FZ cs o ds).map (c::·)|_::cs,0,d::ds=>(FZ cs 0 ds).map (d::·)|[],_+1,_=>none|[],0,_::_=>none
def MT(hp:Hp):AV->AV
 |.own n _=>bif GG n then .un else match hl hp (.a n)with|some (.sl sz _ rows d)=>.sl sz false rows d|_=>.un
 |x=>x
def PR(hp:Hp):AV->Prop
 |.own n l=>match hl hp (.a n)with|some (.sl _ _ rows _)=>l=rows.length|_=>False
 |_=>True
def LX(hp:Hp):List AV->Prop|[]=>True|c::cs=>PR hp c/\LX hp cs
def CF(hp:Hp)(n:Nm):Nat->Nat->List AV|_,0=>[]|o,k+1=>match hl hp (.c n o)with|some c=>bif isM c then[]else c::CF hp n (o+1) k|none=>[]
mutual
def res(hp:Hp):AV->AV
 |.own n _=>bif GG n then .un else match hl hp (.a n)with|some (.sl sz _ rows d)=>.sl sz false rows d|_=>.un
 |.box n o=>.ro ((CF hp n 0 40).map (MT hp)) o
 |.mp _=>.un
 |.agg cs=>.agg (EP hp cs)
 |.tup cs=>.tup (EP hp cs)
 |.clo f xs ys=>.clo f (EP hp xs) (EP hp ys)
 |x=>x
def EP(hp:Hp):List AV->List AV|[]=>[]|c::cs=>res hp c::EP hp cs
end
mutual
def FI(hp:Hp):AV->Prop
 |.own n l=>match hl hp (.a n)with|some (.sl _ _ rows _)=>l=rows.length|_=>False
 |.box n _=>LX hp (CF hp n 0 40)/\AA ((CF hp n 0 40).map (MT hp))=true/\(CF hp n 0 40).isEmpty=false
 |.agg cs=>E2 hp cs
 |.tup cs=>E2 hp cs
 |.clo _ xs ys=>E2 hp xs/\E2 hp ys
 |_=>True
def E2(hp:Hp):List AV->Prop|[]=>True|c::cs=>FI hp c/\E2 hp cs
end
mutual
def Fl:AV->List Nm|.own n _=>[n]|.agg cs=>Dy cs|.tup cs=>Dy cs|.clo _ xs ys=>Dy xs++Dy ys|_=>[]
def Dy:List AV->List Nm|[]=>[]|c::cs=>Fl c++Dy cs
end
mutual
def Km:AV->Bool|.box _ _=>false|.mp _=>false|.agg cs=>F0 cs|.tup cs=>F0 cs|.clo _ xs ys=>F0 xs&&F0 ys|_=>true
def F0:List AV->Bool|[]=>true|c::cs=>Km c&&F0 cs
end
mutual
def F1:AV->Bool|.v _=>true|.agg cs=>G9 cs|.tup cs=>G9 cs|_=>false
def G9:List AV->Bool|[]=>true|c::cs=>F1 c&&G9 cs
end
def frz(hp:Hp):List Nm->Hp|[]=>[]|n::ns=>match hl hp (.a n)with|some (.sl sz _ rows d)=>(.a n,.sl sz false rows d)::frz hp ns|_=>frz hp ns
structure Tab where
 f:Nat->List AV->Option (Prop×AV)
 w:Bool
 m:Bool
 e:Nat->List AV->List AV->Option (Prop×AV×List (Nat×AV))
 p:Nat->List AV->List AV->Option (Prop×Value)
 q:Nat->List AV->List AV->Option (Prop×AV)
 k:Nat->List AV->Option (Prop×(Nm->Hp)×(Nm->AV))
 o:Nat->Nat->List (List AV)->List AV->Option (Prop×List (List AV))
 y:Nat->List AV->List AV->Option (Prop×Value)
instance:CoeFun Tab (λ_=>Nat->List AV->Option (Prop×AV)):=⟨Tab.f⟩
def MU(hp:Hp)(sz:Nat):AV->Option (Prop×List (List AV))
 |.sl z _ rows _=>some (z=sz\/rows=[],rows)
 |.own n l=>bif GG n then none else match hl hp (.a n)with|some (.sl z _ rows _)=>some (l=rows.length/\z=sz,rows)|_=>none
 |.v (.slice _ 0 _)=>some (True,[])
 |_=>none
def W4(op:BinOp)(x y:Int):Option Bool:=match op with|.eql=>some (decide (x=y))|.neq=>some (decide (x≠y))|.lss=>some (decide (x<y))|.leq=>some (decide (x<=y))|.gtr=>some (decide (y<x))|.geq=>some (decide (y<=x))|_=>none
def iI(op:BinOp)(k:IntKind)(x y:Int):Option (Prop×Int):=match op with|.add=>some (R2 k (x+y),x+y)|.sub=>some (R2 k (x-y),x-y)|.mul=>some (R2 k (x*y),x*y)|.quo=>some (y≠0/\R2 k (x.tdiv y),x.tdiv y)|.rem=>some (y≠0,x.tmod y)|_=>none
def Lp(last:Bool)(e:Prop)(c:Bool):Option (Prop×Bool)->Option (Prop×Bool)|some (p,b)=>some (e/\p,bif last then c else c&&b)|none=>none
def C7:List Bool->List AV->List AV->Option (Prop×Bool)|[],[],[]=>some (True,true)|true::ks,.v (.int k x)::xs,.v (.int k' y)::ys=>Lp ks.isEmpty (k=k') (decide (x=y)) (C7 ks xs ys)|false::ks,.v (.bool x)::xs,.v (.bool y)::ys=>Lp ks.isEmpty True (x==y) (C7 ks xs ys)|_,_,_=>none
def OV(op:BinOp)(tk:TK)(x y:AV):Option (Prop×AV):=match tk,x,y with
 |.int,.v (.int k x),.v (.int k' y)=>match W4 op x y with|some b=>some (k=k',.v (.bool b))|none=>match iI op k x y with|some (vc,z)=>some (k=k'/\vc,.v (.int k z))|none=>none
 |.bool,.v (.bool x),.v (.bool y)=>match op with|.eql=>some (True,.v (.bool (x==y)))|.neq=>some (True,.v (.bool (x !=y)))|_=>none
 |_,_,_=>none
def W5(op:BinOp)(k:IntKind)(x y:Int):Option Int:=match op with|.add=>some (k.wrap (x+y))|.sub=>some (k.wrap (x-y))|.mul=>some (k.wrap (x*y))|_=>none
def Th(op:BinOp)(tk:TK)(x y:AV):Option (Prop×AV):=match tk,x,y with
 |.int,.v (.int k x),.v (.int k' y)=>match W5 op k x y with|some z=>some (k=k',.v (.int k z))|none=>OV op .int (.v (.int k x)) (.v (.int k' y))
 |tk,x,y=>OV op tk x y
def Qh(w:Bool)(op:BinOp)(tk:TK)(x y:AV):Option (Prop×AV):=bif w then Th op tk x y else OV op tk x y
def W6(op:UnOp)(x:AV):Option (Prop×AV):=match op,x with|.not,.v (.bool b)=>some (True,.v (.bool (!b)))|.neg,.v (.int k n)=>some (R2 k (-n),.v (.int k (-n)))|_,_=>none
def oX(isMax:Bool)(x y:AV):Option AV:=match x,y with|.v (.int k x),.v (.int _ y)=>some (.v (.int k (bif isMax then max x y else min x y)))|_,_=>none
def VI(isMax:Bool):AV->List AV->Option AV|x,[]=>some x|x,y::r=>match oX isMax x y with|some z=>VI isMax z r|none=>none
def K5:List AV->List (Nat×Nat×AV)->Option (List AV)|cs,[]=>some cs|cs,(off,size,x)::r=>match x.cells with|some xs=>if xs.length=size then(match FZ cs off xs with|some cs'=>K5 cs' r|none=>none)else none|none=>none
def OW(sz:Nat):List (List AV)->List (Nat×AV)->Option (List (List AV))|rows,[]=>some rows|rows,(i,x)::r=>match x.cells with|some xs=>if xs.length=sz/\i<rows.length then OW sz (rows.set i xs) r else none|none=>none
def Ti:AV->Option Int|.v (.int _ n)=>some n|_=>none
def Fh:List AV->Option Nm|[]=>none|.box n _::_=>some n|_::r=>Fh r
def Hj:List AV->Bool|[]=>false|.box _ _::r=>AA r|c::r=>BN c&&Hj r
def IM(hp:Hp)(n:Nm)(k:Nat):Prop:=∀j,k<=j->hl hp (.c n j)=none
theorem aX{n:Nm}{k:Nat}:IM [] n k=True:=eq_true λ_ _=>rfl
theorem oY{hp:Hp}{m n:Nm}{x:AV}{k:Nat}:IM ((.a m,x)::hp) n k=IM hp n k:=by unfold IM;simp only[hl];simp
theorem oZ{hp:Hp}{m n:Nm}{x:AV}{i k:Nat}:IM ((.c m i,x)::hp) n k=((m=n->i<k)/\IM hp n k):=by grind[IM,hl]
def I1(n:Nm)(us:List (Nat×AV)):Hp:=us.map λp=>(.c n p.1,p.2)
def I2(hp:Hp):AV->Option (List (List AV))
 |.mp n=>match hl hp (.c n 0)with|some (.gd false (.sl 0 true rows []))=>some rows|_=>none
 |.v (.map none)=>some []
 |_=>none
def I3(hp:Hp):AV->AV
 |.mp m=>match I2 hp (.mp m)with|some rows=>Mx rows|none=>.un
 |x=>x
def qv(hp:Hp):AV->AV|.box n _=>.agg ((CF hp n 0 40).map (I3 hp))|x=>x
def VJ(n:Nm):List Nm->Prop|[]=>True|m::r=>m≠n/\VJ n r
def OX(S:Tab)(hp:Hp)(f:Nat):List AV->Option (Prop×AV×Hp)
 |.own n l::xs=>match hl hp (.a n)with
  |some (.sl sz live rows d)=>match S.o f sz rows (EP hp xs)with|some (vc,rows')=>bif F0 xs then some (l=rows.length/\live=true/\E2 hp xs/\VJ n (Dy xs)/\vc,.sl sz false rows' d,(.a n,.un)::frz hp (Dy xs))else none|none=>none
  |_=>none
 |_=>none
def I5(S:Tab)(hp:Hp)(nm:Nm)(f:Nat)(args:List AV):Option (Prop×AV×Hp):=match S f (EP hp args)with
 |some (vc,r)=>bif F1 r then some (E2 hp args/\AA (EP hp args)=true/\vc,r,[])else bif F0 args then some (E2 hp args/\AA (EP hp args)=true/\vc,r,frz hp (Dy args))else none
 |none=>match Fh args with
  |some n=>match S.e f args (CF hp n 0 40)with|some (vc,r,us)=>some (Hj args=true/\F1 r=true/\G9 (us.map (·.2))=true/\G9 (CF hp n 0 40)=true/\(CF hp n 0 40).isEmpty=false/\IM hp n (CF hp n 0 40).length/\vc,r,I1 n us)|none=>match S.q f args (args.map (qv hp))with|some (vc,r)=>some (vc,r,[])|none=>none
  |none=>match S.k f (EP hp args)with|some (vc,ws,g)=>bif F0 args then some (E2 hp args/\AA (EP hp args)=true/\vc,g nm,ws nm++frz hp (Dy args))else none|none=>OX S hp f args
def OY(hp:Hp)(nm:Nm)(sz bytes:Nat)(zs:List AV)(s x:AV):Option (Prop×AV×Hp):=match MU hp sz x with
 |none=>none
 |some (vx,rx)=>match s with
  |.own n l=>match hl hp (.a n)with|some (.sl z live rows d)=>some (vx/\z=sz/\l=rows.length/\live=true/\(rows++rx).length*bytes<=140737488355328,.own n (rows++rx).length,[(.a n,.sl sz true (rows++rx) d)])|_=>none
  |.sl z full rows d=>some (vx/\(z=sz\/rows=[])/\full=true/\(rows++rx).length*bytes<=140737488355328,.own nm (rows++rx).length,[(.a nm,.sl sz (!rx.isEmpty||rows.isEmpty) (rows++rx) (bif d.isEmpty then zs else d))])
  |_=>none
def iJ:Option AV->Option Int|none=>some 0|some x=>Ti x
def NR(full:Bool)(rows:List (List AV))(lo:Option AV)(hi mx:Option AV):Option (Prop×Bool×List (List AV)):=match iJ lo,hi,mx with
 |some l,none,none=>some (0<=l/\l<=rows.length,full,rows.drop l.toNat)
 |some l,some h,none=>match Ti h with|some h=>some (0<=l/\l<=h/\h<=rows.length,full&&decide (h=rows.length),(rows.drop l.toNat).take (h.toNat-l.toNat))|none=>none
 |some l,some h,some m=>match Ti h,Ti m with|some h,some m=>some (0<=l/\l<=h/\h<=m/\m<=rows.length,decide (h=m),(rows.drop l.toNat).take (h.toNat-l.toNat))|_,_=>none
 |_,_,_=>none
def LY(hp:Hp)(sz:Nat)(x:AV)(lo:Option AV)(hi mx:Option AV):Option (Prop×AV×Hp):=match x with
 |.sl sz' full rows d=>match NR full rows lo hi mx with|some (vc,f,rs)=>some ((sz'=sz\/rows=[])/\vc,.sl sz' f rs d,[])|none=>none
 |.own n l=>bif GG n then none else match hl hp (.a n)with
  |some (.sl sz' _ rows d)=>match NR false rows lo hi mx with|some (vc,f,rs)=>some (sz'=sz/\l=rows.length/\vc,.sl sz' f rs d,frz hp [n])|none=>none
  |_=>none
 |_=>none
def Lq(hp:Hp)(nm:Nm)(sz:Nat)(x:AV)(lo:Option AV)(hi mx:Option AV):Option (Prop×AV×Hp):=match x,lo,hi,mx with
 |.own n l,none,some (.v (.int _ k)),none=>bif GG n then none else match hl hp (.a n)with|some (.sl sz' live rows d)=>some (sz'=sz/\l=rows.length/\live=true/\0<=k/\k<=rows.length,.own nm k.toNat,[(.a nm,.sl sz' true (rows.take k.toNat) d),(.a n,.un)])|_=>none
 |x,lo,hi,mx=>LY hp sz x lo hi mx
def Qi(nm:Nm)(sz bytes:Nat)(zs:List AV):AV->AV->Option (Prop×AV×Hp)|.sl _ true [] _,.v (.int k n)=>some (k=.i64/\0<n/\n*bytes<=140737488355328,.own nm n.toNat,[(.a nm,.sl sz true (List.replicate n.toNat zs) zs)])|_,_=>none
def SY(nm:Nm)(sz bytes:Nat)(zs:List AV):AV->AV->Option (Prop×AV×Hp)|.v (.int k n),.v (.int k' c)=>some (n=c/\0<n/\n*bytes<=140737488355328/\n<=9223372036854775807,.own nm n.toNat,[(.a nm,.sl sz true (List.replicate n.toNat zs) zs)])|_,_=>none
def Qj:AV->Option (Prop×AV×Hp)|.sl _ true rows _=>some (True,.v (.int .i64 rows.length),[])|_=>none
def vr(o:Option (Prop×AV)):Option (Prop×AV×Hp):=match o with|some (vc,r)=>some (vc,r,[])|none=>none
def NS(g:Bool)(c a b:AV):Option (Prop×AV×Hp):=match Ay g c with
 |.v (.bool cb)=>match Ay (g&&cb) a,Ay (g&& !cb) b with|.v (.bool x),.v (.bool y)=>some (True,.v (.bool (bif cb then x else y)),[])|a,b=>some (True,(bif cb then a else b),[])
 |_=>none
def SZ(nm:Nm)(n:Nat)(x:AV):Option (Prop×AV×Hp):=match x.cells with|some cs=>if cs.length=n then some (True,.box nm 0,D6 nm 0 cs)else none|none=>none
def Lj(zs:List AV)(parts:List (Nat×Nat×AV)):Option (Prop×AV×Hp):=match K5 zs parts with|some cs=>some (True,.agg cs,[])|none=>none
def Ke(hp:Hp)(nm:Nm)(sz len:Nat)(zs:List AV)(parts:List (Nat×AV)):Option (Prop×AV×Hp):=match OW sz (List.replicate len zs) (parts.map λ(i,x)=>(i,res hp x))with|some rows=>some (E2 hp (parts.map (·.2))/\F0 (parts.map (·.2))=true/\(rows.all AA)=true,.own nm len,(.a nm,.sl sz true rows zs)::frz hp (Dy (parts.map (·.2))))|none=>none
def It(b:Nat):Nat->Nat->List AV|_,0=>[]|o,k+1=>.i ((GT b).getD o 0)::It b (o+1) k
def Iq(hp:Hp)(sz:Nat)(ag:Bool):AV->Option (Prop×AV×Hp)
 |.v (.pointer (some ⟨b,o,none⟩))=>vr ((FH ag (It b o sz)).map λr=>(o+sz<=(GT b).length,r))
 |.box n o=>match G8 hp n o sz with|some cs=>vr ((FH ag cs).map λr=>(True,r))|none=>none
 |.ro cs o=>match cut o sz cs with|some ds=>vr ((FH ag ds).map λr=>(True,r))|none=>none
 |.elem n l es i o=>match hl hp (.a n)with
  |some (.sl sz' _ rows d)=>match cut o sz (DJ rows d i)with|some ds=>vr ((FH ag ds).map λr=>(es=sz'/\l=rows.length/\i<rows.length,r))|none=>none
  |_=>none
 |_=>none
def Tj(hp:Hp)(sz:Nat)(a x:AV):Option (Prop×AV×Hp):=match x.cells with
 |none=>none
 |some cs=>if cs.length=sz then match a with
   |.box n o=>match KH hp n o cs with|some ws=>some (True,.un,ws)|none=>none
   |.elem n l es i o=>match hl hp (.a n)with
    |some (.sl sz' live rows d)=>bif GG n then(match FZ (DJ rows d i) o cs with
     |some row=>some (live=true/\es=sz'/\l=rows.length/\i<rows.length,.un,[(.a n,.sl sz' true (rows.set i row) d)])
     |none=>none)else match FZ (DJ rows d i) o (EP hp cs)with
     |some row=>some (E2 hp cs/\F0 cs=true/\AA row=true/\Dy cs=[]/\live=true/\es=sz'/\l=rows.length/\i<rows.length,.un,[(.a n,.sl sz' true (rows.set i row) d)])
     |none=>none
    |_=>none
   |_=>none
  else none
def BX:PK->List AV->Option (Prop×AV)|.slen,[.v (.string s)]=>some (True,.i (bL s).length)|.sidx,[.v (.string s),.v (.int _ i)]=>some (0<=i/\i<(bL s).length,.v (.int .u8 ((bL s).getD i.toNat 0).toNat))|.ssl false false,[.v (.string s)]=>some (True,.v (.string s))|.ssl true false,[.v (.string s),.v (.int _ l)]=>some (0<=l/\l<=(bL s).length,.v (.string (sB ((bL s).drop l.toNat))))|.ssl false true,[.v (.string s),.v (.int _ h)]=>some (0<=h/\h<=(bL s).length,.v (.string (sB ((bL s).take h.toNat))))|.ssl true true,[.v (.string s),.v (.int _ l),.v (.int _ h)]=>some (0<=l/\l<=h/\h<=(bL s).length,.v (.string (sB (((bL s).drop l.toNat).take (h.toNat-l.toNat)))))|.scat,[.v (.string s),.v (.string t)]=>some ((bL s++bL t).length<=140737488355328,.v (.string (sB (bL s++bL t))))|.seq neg,[.v (.string s),.v (.string t)]=>some (True,.v (.bool (bif neg then !decide (bL s=bL t)else decide (bL s=bL t))))|.bits op,[.v (.int k x),.v (.int k' y)]=>some (k=k',.v (.int k (Ei op k x y)))|.shf op,[.v (.int k x),.v (.int _ y)]=>some (0<=y,.v (.int k (D5 op k x y)))|.cvw k,[.v (.int _ n)]=>some (True,.v (.int k (k.wrap n)))|.mkI t,[.agg []]=>some (True,.v (.iface t (.agg #[])))|.tas t,[.v (.iface t' (.agg cs))]=>some (t'=t/\cs=#[],.tup [.agg [],.b true])|.inil neg,[.v .nilIface]=>some (True,.v (.bool (!neg)))|.inil neg,[.v (.iface _ _)]=>some (True,.v (.bool neg))|.pnil neg,[.v (.pointer p)]=>some (True,.v (.bool (p.isNone !=neg)))|.pnil neg,[.box _ _]=>some (True,.v (.bool neg))|.tas _,[.v .nilIface]=>some (True,.tup [.agg [],.b false])|.fnil neg,[.v .nilFunc]=>some (True,.v (.bool (!neg)))|.fnil neg,[.clo _ _ _]=>some (True,.v (.bool neg))|_,_=>none
def MW(hp:Hp):AV->Option (Prop×AV×Hp)
 |.sl sz _ rows _=>some ((sz=1\/rows=[])/\rows.all R3=true,.v (.string (sB (rows.map PQ))),[])
 |.own n l=>match hl hp (.a n)with|some (.sl sz _ rows _)=>some (sz=1/\l=rows.length/\rows.all R3=true,.v (.string (sB (rows.map PQ))),[])|_=>none
 |_=>none
def MX(off:Nat):AV->Option (Prop×AV×Hp)|.box n o=>some (True,.box n (o+off),[])|.ro cs o=>some (True,.ro cs (o+off),[])|.elem n l sz i o=>some (True,.elem n l sz i (o+off),[])|.v (.pointer (some ⟨b,o,none⟩))=>some (True,.v (.pointer (some ⟨b,o+off,none⟩)),[])|_=>none
def OZ(off sz:Nat)(ag:Bool):AV->Option (Prop×AV×Hp)
 |.agg cs=>match cut off sz cs with|some ds=>vr ((FH ag ds).map λr=>(True,r))|none=>none
 |_=>none
def Rq(hp:Hp)(sz:Nat):AV->AV->Option (Prop×AV×Hp)
 |.sl sz' _ rows d,.v (.int _ i)=>some (sz'=sz/\0<=i/\i<rows.length,.ro (DJ rows d i.toNat) 0,[])
 |.own n l,.v (.int _ i)=>match hl hp (.a n)with|some (.sl sz' _ rows _)=>some (sz'=sz/\l=rows.length/\0<=i/\i<rows.length,.elem n l sz i.toNat 0,[])|_=>none
 |_,_=>none
def Qk(n sz:Nat):AV->AV->Option (Prop×AV×Hp)|.box m o,.v (.int _ i)=>some (0<=i/\i<n,.box m (o+i.toNat*sz),[])|.ro cs o,.v (.int _ i)=>some (0<=i/\i<n,.ro cs (o+i.toNat*sz),[])|.elem m l es k o,.v (.int _ i)=>some (0<=i/\i<n,.elem m l es k (o+i.toNat*sz),[])|.v (.pointer (some ⟨b,o,none⟩)),.v (.int _ i)=>some (0<=i/\i<n,.v (.pointer (some ⟨b,o+i.toNat*sz,none⟩)),[])|_,_=>none
def NT(n sz:Nat)(ag:Bool):AV->AV->Option (Prop×AV×Hp)
 |.agg cs,.v (.int _ i)=>match cut (i.toNat*sz) sz cs with|some ds=>vr ((FH ag ds).map λr=>(0<=i/\i<n,r))|none=>none
 |_,_=>none
def Ql(ks:List Bool)(op:BinOp):AV->AV->Option (Prop×AV×Hp)
 |.agg xs,.agg ys=>match op,C7 ks xs ys with|.eql,some (p,b)=>some (p,.v (.bool b),[])|.neq,some (p,b)=>some (p,.v (.bool (!b)),[])|_,_=>none
 |_,_=>none
def O1(i:Nat):AV->Option (Prop×AV×Hp)
 |.tup cs=>match cs[i]? with|some r=>some (True,r,[])|none=>none
 |_=>none
def O2(hp:Hp):AV->Option (Prop×AV×Hp)
 |.sl _ _ rows _=>some (True,.v (.int .i64 rows.length),[])
 |.own n l=>match hl hp (.a n)with|some (.sl _ _ rows _)=>some (l=rows.length,.v (.int .i64 rows.length),[])|_=>none
 |_=>none
def Rr(isMax:Bool):List AV->Option (Prop×AV×Hp)
 |x::r=>match VI isMax x r with|some z=>some (True,z,[])|none=>none
 |[]=>none
def Qm:AV->Option (Prop×AV×Hp)|.box n o=>some (True,.box n o,[])|.ro cs o=>some (True,.ro cs o,[])|.clo (.func f) a b=>some (True,.clo (.func f) a b,[])|.v (.pointer (some p))=>some (True,.v (.pointer (some p)),[])|_=>none
def Qn(k:IntKind):AV->Option (Prop×AV×Hp)|.v (.int _ n)=>some (R2 k n,.v (.int k n),[])|_=>none
def NU(neg:Bool):AV->Option (Prop×AV×Hp)|.v (.slice b _ _)=>some (True,.v (.bool (b.isNone !=neg)),[])|.sl _ _ rows _=>some (rows≠[],.v (.bool neg),[])|_=>none
def kI:AV->Option Int|.v (.int .i64 a)=>some a|_=>none
def MY(rows:List (List AV)):Bool:=rows.all λr=>match r with|[k,_]=>(kI k).isSome|_=>false
def H5:List (List AV)->Int->AV->AV|[],_,d=>d|[k,x]::r,a,d=>bif decide (kI k=some a)then x else H5 r a d|_::r,a,d=>H5 r a d
def I7:List (List AV)->Int->Bool|[],_=>false|[k,_]::r,a=>decide (kI k=some a)||I7 r a|_::r,a=>I7 r a
def Gi:List (List AV)->Int->AV->List (List AV)|[],a,x=>[[.i a,x]]|[k,y]::r,a,x=>bif decide (kI k=some a)then[k,x]::r else[k,y]::Gi r a x|q::r,a,x=>q::Gi r a x
def LZ(hp:Hp)(zd:AV)(ok:Bool)(x y:AV):Option (Prop×AV×Hp):=match I2 hp x,y with|some rows,.v (.int .i64 a)=>some (MY rows=true,bif ok then .tup [H5 rows a zd,.b (I7 rows a)]else H5 rows a zd,[])|_,_=>none
def MZ(hp:Hp):AV->AV->AV->Option (Prop×AV×Hp)
 |.mp n,y,x=>match I2 hp (.mp n),y with|some rows,.v (.int .i64 a)=>some (MY rows=true/\FI hp x/\Km x=true/\BN (res hp x)=true,.un,(.c n 0,Mx (Gi rows a (res hp x)))::frz hp (Fl x))|_,_=>none
 |_,_,_=>none
def W7(S:Tab)(hp:Hp)(nm:Nm)(x:AV)(args:List AV):Option (Prop×AV×Hp):=match x with|.clo (.func f) first caps=>I5 S hp nm f (first++args++caps)|_=>none
def AF(S:Tab)(env:Ar)(hp:Hp)(nm:Nm)(g:Bool):AK->Option (Prop×AV×Hp)|.mv x=>some (True,Ay g (Ax env x),[])|.pr p xs=>vr (BX p (xs.map λx=>Ay g (Ax env x)))|.b2s x=>MW hp (Ay g (Ax env x))|.pick c a b=>NS g (Ax env c) (Ax env a) (Ax env b)|.box n x=>SZ nm n (Ay g (Ax env x))|.alloc zs=>some (True,.box nm 0,D6 nm 0 zs)|.build zs parts=>Lj zs (parts.map λ(o,s,x)=>(o,s,Ay g (Ax env x)))|.bsl sz len zs parts=>Ke hp nm sz len zs (parts.map λ(i,x)=>(i,Ay g (Ax env x)))|.ld sz ag x=>Iq hp sz ag (Ay g (Ax env x))|.st sz a x=>Tj hp sz (Ay g (Ax env a)) (Ay g (Ax env x))|.fa off x=>MX off (Ay g (Ax env x))|.fld off sz ag x=>OZ off sz ag (Ay g (Ax env x))|.ia sz x i=>Rq hp sz (Ay g (Ax env x)) (Ay g (Ax env i))|.iaA n sz x i=>Qk n sz (Ay g (Ax env x)) (Ay g (Ax env i))|.idxA n sz ag x i=>NT n sz ag (Ay g (Ax env x)) (Ay g (Ax env i))|.bin op (.cells ks) x y=>Ql ks op (Ay g (Ax env x)) (Ay g (Ax env y))|.bin op tk x y=>vr (Qh S.w op tk (Ay g (Ax env x)) (Ay g (Ax env y)))|.un op x=>vr (W6 op (Ay g (Ax env x)))|.ext x i=>O1 i (Ay g (Ax env x))|.call f args=>I5 S hp nm f (args.map λx=>Ay g (Ax env x))|.cv x args=>W7 S hp nm (Ay g (Ax env x)) (args.map λx=>Ay g (Ax env x))|.len x=>O2 hp (Ay g (Ax env x))|.app sz bytes zs s x=>OY hp nm sz bytes zs (Ay g (Ax env s)) (Ay g (Ax env x))|.mm isMax xs=>Rr isMax (xs.map λx=>Ay g (Ax env x))|.mkf fn first caps=>some (True,.clo fn (first.map λx=>Ay g (Ax env x)) (caps.map λx=>Ay g (Ax env x)),[])|.slc sz x lo hi mx=>bif S.m then Lq hp nm sz (Ay g (Ax env x)) (lo.map λx=>Ay g (Ax env x)) (hi.map λx=>Ay g (Ax env x)) (mx.map λx=>Ay g (Ax env x))else LY hp sz (Ay g (Ax env x)) (lo.map λx=>Ay g (Ax env x)) (hi.map λx=>Ay g (Ax env x)) (mx.map λx=>Ay g (Ax env x))|.cap x=>Qj (Ay g (Ax env x))|.appn sz bytes zs s x=>Qi nm sz bytes zs (Ay g (Ax env s)) (Ay g (Ax env x))|.nilc x=>Qm (Ay g (Ax env x))|.cnv k x=>Qn k (Ay g (Ax env x))|.nils neg x=>NU neg (Ay g (Ax env x))|.pan _=>none|.dfr _=>none|.rcv=>none|.clr _ _ _=>none|.allocB _=>none|.mks sz bytes zs n c=>SY nm sz bytes zs (Ay g (Ax env n)) (Ay g (Ax env c))|.ent _=>none|.mkm=>some (True,.mp nm,[(.c nm 0,Mx [])])|.mlk zd ok m k=>LZ hp zd ok (Ay g (Ax env m)) (Ay g (Ax env k))|.mup m k x=>MZ hp (Ay g (Ax env m)) (Ay g (Ax env k)) (Ay g (Ax env x))|.rng _=>none|.nxt _=>none|.bad=>none
def BQ(d:Option Nat)(x:AV)(env:Ar):Ar:=match d with|none=>env|some d=>(d,x)::env
def HL(S:Tab)(nm:Nm)(env:Ar)(hp:Hp)(o:AOp):Option (Prop×AV×Hp):=match o.g with|none=>AF S env hp nm true o.k|some tw=>match D8 env (some tw)with|none=>none|some g=>match AF S env hp nm g o.k with|none=>some (g=false,.v undef,[])|some (vc,r,[])=>some (g=true->vc,.gd g r,[])|some (vc,r,w::ws)=>some (g=true/\vc,r,w::ws)
def Bh(S:Tab)(ver:Nat):Nat->List AOp->Ar->Hp->Option (Prop×Ar×Hp)|_,[],env,hp=>some (True,env,hp)|k,o::r,env,hp=>match HL S (k,ver) env hp o with|none=>none|some (vc,x,ws)=>match Bh S ver (k+1) r (BQ o.d x env) (ws++hp)with|none=>none|some (vcs,e,h)=>some (vc/\vcs,e,h)
theorem Bx{U:Cf}:∀{cs:List AV}{xs:List Value},RepL U cs xs->xs.length=cs.length
 |[],xs,h=>by simp[RepL]at h;simp[h]
 |c::cs,xs,h=>by obtain⟨y,ys,rfl,_,h3⟩:=h;simp[Bx h3]
theorem C1{U:Cf}:∀{cs:List AV}{xs:List Value},RepL U cs xs->∀(i:Nat)(c:AV),cs[i]? =some c->∃x,xs[i]? =some x/\Rep U c x
 |[],xs,h,i,c,hc=>by simp at hc
 |c::cs,xs,h,i,c',hc=>by
  obtain⟨y,ys,rfl,h2,h3⟩:=h;cases i with
  |zero=>grind
  |succ i=>simpa using C1 h3 i c' (by simpa using hc)
theorem My{U:Cf}:∀{cs:List AV}{xs:List Value},xs.length=cs.length->(∀(i:Nat)(c:AV),cs[i]? =some c->∃x,xs[i]? =some x/\Rep U c x)->RepL U cs xs
 |[],xs,h,_=>by simp at h;simp[RepL,h]
 |c::cs,[],h,_=>by simp at h
 |c::cs,x::xs,h,hg=>by
  refine⟨x,xs,rfl,?_,My (by simpa using h) λi c' hc=>?_⟩
  ·obtain⟨y,h1,h2⟩:=hg 0 c (by simp);grind
  ·simpa using hg (i+1) c' (by simpa using hc)
theorem Dz{U:Cf}:∀{cs ds:List AV}{xs ys:List Value},RepL U cs xs->RepL U ds ys->RepL U (cs++ds) (xs++ys)
 |[],ds,xs,ys,h,k=>by simp[RepL]at h;simpa[h]using k
 |c::cs,ds,xs,ys,h,k=>by obtain⟨y,zs,rfl,h2,h3⟩:=h;exact⟨y,zs++ys,rfl,h2,Dz h3 k⟩
theorem HM{U:Cf}{b:Nat}:∀{cs:List AV}{o:Nat},RepCells U b o cs->∀(j:Nat)(c:AV),cs[j]? =some c->∃x,U.w.cell? ⟨b,o+j,none⟩=some x/\Bp x=true/\Rep U c x
 |[],_,_,j,c,hc=>by simp at hc
 |c::cs,o,h,j,c',hc=>by
  obtain⟨h1,h2⟩:=h;cases j with
  |zero=>grind
  |succ j=>have:=HM h2 j c' (by simpa using hc);grind
theorem Fi{U:Cf}{b:Nat}:∀{cs:List AV}{o:Nat},(∀(j:Nat)(c:AV),cs[j]? =some c->∃x,U.w.cell? ⟨b,o+j,none⟩=some x/\Bp x=true/\Rep U c x)->RepCells U b o cs
 |[],_,_=>by simp[RepCells]
 |c::cs,o,h=>by refine⟨by simpa using h 0 c (by simp),Fi λj c' hc=>?_⟩;have:=h (j+1) c' (by simpa using hc);grind
theorem FR{U:Cf}{sz b:Nat}:∀{rs:List (List AV)}{o:Nat},RepRows U sz b o rs->∀(i:Nat)(r:List AV),rs[i]? =some r->r.length=sz/\RepCells U b (o+i*sz) r
 |[],_,_,i,r,hr=>by simp at hr
 |r::rs,o,h,i,r',hr=>by
  simp only[RepRows]at h;cases i with
  |zero=>grind
  |succ i=>have:=FR h.2.2 i r' (by simpa using hr);grind
theorem H6{U:Cf}{sz b:Nat}:∀{rs:List (List AV)}{o:Nat},(∀(i:Nat)(r:List AV),rs[i]? =some r->r.length=sz/\RepCells U b (o+i*sz) r)->RepRows U sz b o rs
 |[],_,_=>by simp[RepRows]
 |r::rs,o,h=>by have h0:=h 0 r (by simp);refine⟨h0.1,by simpa using h0.2,H6 λi r' hr=>?_⟩;have:=h (i+1) r' (by simpa using hr);grind
theorem RepCells.keep{U σ':Cf}(h:Evo U σ'){b o:Nat}{cs:List AV}(hc:RepCells U b o cs)(hm:∀j x,j<cs.length->U.w.cell? ⟨b,o+j,none⟩=some x->σ'.w.cell? ⟨b,o+j,none⟩=some x):RepCells σ' b o cs:=Fi λj c hj=>by obtain⟨x,h1,h2,h3⟩:=HM hc j c hj;exact⟨x,by grind,h2,h3.mono h⟩
theorem RepRows.keep{U σ':Cf}(h:Evo U σ'){sz b o:Nat}{rs:List (List AV)}(hc:RepRows U sz b o rs)(hm:∀j x,j<rs.length*sz->U.w.cell? ⟨b,o+j,none⟩=some x->σ'.w.cell? ⟨b,o+j,none⟩=some x):RepRows σ' sz b o rs:=
 H6 λi r hi=>by
  obtain⟨h1,h2⟩:=FR hc i r hi;refine⟨h1,h2.keep h λj x hj hx=>?_⟩;have hi':=(y5.1 hi).1;have hlt:i*sz+j<rs.length*sz:=by have:(i+1)*sz<=rs.length*sz:=A46 _ (by omega);rw[A42]at this;omega
  grind
def lenOf(hp:Hp)(n:Nm):Option Nat:=match hl hp (.a n)with|some (.sl _ _ rows _)=>some rows.length|_=>none
def RepEnts(U:Cf):List (List AV)->List MapEntry->Prop|[],es=>es=[]|r::rs,es=>∃e es',es=e::es'/\RepL U r [e.key,e.val]/\RepEnts U rs es'
theorem RepEnts.map{U σ':Cf}(h:∀r vs,RepL U r vs->RepL σ' r vs):∀{rs:List (List AV)}{es:List MapEntry},RepEnts U rs es->RepEnts σ' rs es
 |[],_,k=>k
 |_::_,_,⟨e,es',h1,h2,h3⟩=>⟨e,es',h1,h _ _ h2,RepEnts.map h h3⟩
def MapF(U:Cf)(b j:Nat)(c:AV):Prop:=∃(rows:List (List AV))(es:Array MapEntry),(c=Mx rows/\j=0)/\U.w.heap[b]? =some (.map es es.size)/\(∀r∈rows,AA r=true)/\RepEnts U rows es.toList/\∀(i:Nat)(e:MapEntry),es[i]? =some e->e.born=i
theorem MapF.isM{U:Cf}{b j:Nat}{c:AV}(h:MapF U b j c):isM c=true:=by obtain⟨_,_,⟨rfl,_⟩,_⟩:=h;rfl
def CelF(U:Cf)(n:Nm)(j:Nat)(c:AV):Prop:=U.al n/\U.M (U.rb n)/\((∃cs T x,U.w.heap[U.rb n]? =some (.cells cs T (0,0))/\cs[j]? =some x/\Bp x=true/\Rep U c x)\/MapF U (U.rb n) j c)
theorem CelF.cells{U:Cf}{n:Nm}{j:Nat}{c:AV}(h:CelF U n j c)(hm:isM c=false):U.al n/\U.M (U.rb n)/\∃cs T x,U.w.heap[U.rb n]? =some (.cells cs T (0,0))/\cs[j]? =some x/\Bp x=true/\Rep U c x:=by
 obtain⟨h1,h2,h3|h3⟩:=h
 ·exact⟨h1,h2,h3⟩
 ·rw[h3.isM]at hm;cases hm
theorem CelF.cells2{U:Cf}{n:Nm}{j:Nat}{c:AV}(h:CelF U n j c){ar:Array Value}{T:TypeId}{z:Nat×Nat}(hm:U.w.heap[U.rb n]? =some (.cells ar T z)):U.al n/\U.M (U.rb n)/\∃cs T x,U.w.heap[U.rb n]? =some (.cells cs T (0,0))/\cs[j]? =some x/\Bp x=true/\Rep U c x:=by
 obtain⟨h1,h2,h3|h3⟩:=h
 ·exact⟨h1,h2,h3⟩
 ·obtain⟨_,_,_,h4,_⟩:=h3;rw[hm]at h4;cases h4
def ArrF(U:Cf)(n:Nm)(sz:Nat)(live:Bool)(rows:List (List AV)):Prop:=U.al n/\0<sz/\(GG n=false->∀r∈rows,AA r=true)/\((∃a,U.ra n=(a,0)/\rows=[])\/∃b o cap,U.ra n=(some ⟨b,o,none⟩,cap)/\0<cap/\rows.length<=cap/\RepRows U sz b o rows/\(live=true->U.M b/\∃cs T,U.w.heap[b]? =some (.cells cs T (0,0))/\o+cap*sz<=cs.size)/\(live=false->Fz U b))
def Owns(U:Cf)(hp:Hp)(p:Bool×Nm)(b:Nat):Prop:=(p.1=false/\U.rb p.2=b/\∃j c,hl hp (.c p.2 j)=some c)\/(p.1=true/\(∃sz rows d,hl hp (.a p.2)=some (.sl sz true rows d))/\∃o cap,U.ra p.2=(some ⟨b,o,none⟩,cap)/\0<cap)
structure HInv(U:Cf)(hp:Hp):Prop where
 ln:∀n,U.ln n=lenOf hp n
 cel:∀n j c,hl hp (.c n j)=some c->CelF U n j c
 arr:∀n sz live rows d,hl hp (.a n)=some (.sl sz live rows d)->ArrF U n sz live rows
 inj:∀p q b,Owns U hp p b->Owns U hp q b->p=q
 lt:∀b,U.M b->b<U.w.heap.size
 ou:∀b,U.O b->b<U.w.heap.size
 dis:∀b,U.M b->¬U.O b
theorem CelF.keep{U σ':Cf}(h:Evo U σ'){n:Nm}{j:Nat}{c:AV}(k:CelF U n j c)(hM:σ'.M (U.rb n))(hw:σ'.w.heap[U.rb n]? =U.w.heap[U.rb n]?):CelF σ' n j c:=by
 obtain⟨h1,h2,h3⟩:=k;obtain⟨g1,g2⟩:=h.box n h1;refine⟨g1,by rw[g2];exact hM,?_⟩;rcases h3 with⟨cs,T,x,h3,h4,h5,h6⟩|⟨rows,es,h3,h4,h5,h6,h7⟩
 ·exact .inl ⟨cs,T,x,by rw[g2,hw];exact h3,h4,h5,h6.mono h⟩
 ·exact .inr ⟨rows,es,h3,by rw[g2,hw];exact h4,h5,h6.map λr vs=>RepL.mono h r vs,h7⟩
theorem cell_of_heap{w w':World}{b:Nat}(h:w'.heap[b]? =w.heap[b]?)(o:Nat):w'.cell? ⟨b,o,none⟩=w.cell? ⟨b,o,none⟩:=by simp[World.cell?,h]
theorem ArrF.keep{U σ':Cf}(h:Evo U σ'){n:Nm}{sz:Nat}{live:Bool}{rows:List (List AV)}(k:ArrF U n sz live rows)(hra:σ'.ra n=U.ra n)(hM:live=true->∀b o cap,U.ra n=(some ⟨b,o,none⟩,cap)->0<cap->U.M b->σ'.M b/\σ'.w.heap[b]? =U.w.heap[b]?):ArrF σ' n sz live rows:=by
 obtain⟨h1,h2,hp,h3⟩:=k;refine⟨(h.box n h1).1,h2,hp,?_⟩;rcases h3 with⟨a,h3,h4⟩|⟨b,o,cap,h3,h4,h5,h6,h7,h8⟩
 ·grind
 ·refine .inr ⟨b,o,cap,by rw[hra];exact h3,h4,h5,?_,?_,λe=>h.fz (h8 e)⟩
  ·cases live with
   |true=>obtain⟨g1,_⟩:=h7 rfl;exact h6.keep h λj x _ hx=>by rw[cell_of_heap (hM rfl b o cap h3 h4 g1).2];exact hx
   |false=>exact h6.mono h _ _ (h8 rfl).1
  grind
theorem I8(xs ys:Hp)(l:Loc):hl (xs++ys) l=(hl xs l).or (hl ys l):=by induction xs<;>grind[hl]
theorem Mz(n m:Nm):∀(cs:List AV)(o j:Nat),hl (D6 n o cs) (.c m j)=if m=n/\o<=j then cs[j-o]? else none
 |[],o,j=>by simp[D6,hl]
 |c::cs,o,j=>by simp only[D6,hl];rw[Mz n m cs (o+1) j];grind
theorem G4(n m:Nm):∀(cs:List AV)(o:Nat),hl (D6 n o cs) (.a m)=none
 |[],o=>by simp[D6,hl]
 |c::cs,o=>by simp[D6,hl,G4 n m cs (o+1)]
theorem Cd{w:World}{o:Obj}{b:Nat}(h:b<w.heap.size):(w.alloc o).heap[b]? =w.heap[b]? :=by show(w.heap.push o)[b]? =_;grind
theorem GQ{w:World}{o:Obj}:(w.alloc o).heap[w.heap.size]? =some o:=by show(w.heap.push o)[w.heap.size]? =_;simp
def Cf.at(U:Cf)(w:World):Cf:={U with w:=w}
theorem Lk{w w':World}(hw:∀(b:Nat) (o:Obj),w.heap[b]? =some o->w'.heap[b]? =some o):w.heap.size<=w'.heap.size:=by
 rcases A52 w'.heap.size w.heap.size with h|h
 ·have:=hw w'.heap.size _ (w7 h);grind
 ·exact h
theorem Evo.at{U:Cf}{w:World}(hw:∀(b:Nat) (o:Obj),U.w.heap[b]? =some o->w.heap[b]? =some o)(ho:SameO U.w w):Evo U (U.at w):=⟨λ_ h=>⟨h,rfl⟩,λ_ _ l h=>⟨l,h,w6 _,λ_=>rfl⟩,λ_ _ h h'=>⟨hw _ _ h,h'⟩,rfl,Lk hw,ho⟩
theorem HInv.at{U:Cf}{hp:Hp}{w:World}(h:HInv U hp)(hw:∀(b:Nat) (o:Obj),U.w.heap[b]? =some o->w.heap[b]? =some o)(ho:SameO U.w w):HInv (U.at w) hp:=by
 have e:=Evo.at hw ho;have hs:∀b,U.M b->w.heap[b]? =U.w.heap[b]? :=λb hb=>by have:=w7 (h.lt b hb);rw[hw b _ this,this]
 refine⟨h.ln,λn j c hc=>?_,λn sz live rows d hc=>?_,h.inj,λb hb=>?_,λb hb=>?_,h.dis⟩
 ·have k:=h.cel n j c hc;exact k.keep e k.2.1 (hs _ k.2.1)
 ·exact(h.arr n sz live rows d hc).keep e rfl λ_ b _ _ _ _ hM=>⟨hM,hs b hM⟩
 ·have:=w7 (h.lt b hb);exact(u0.1 (hw b _ this)).1
 ·have:=w7 (h.ou b hb);exact(u0.1 (hw b _ this)).1
def Cf.newBox(U:Cf)(n:Nm)(w:World):Cf:={U with rb:=λm=>if m=n then U.w.heap.size else U.rb m,M:=λb=>U.M b\/b=U.w.heap.size,al:=λm=>U.al m\/m=n,w:=w}
theorem Evo.newBox{U:Cf}{n:Nm}{o:Obj}(hn:¬U.al n):Evo U (U.newBox n (U.w.alloc o)) where
 box m hm:=⟨.inl hm,by
  have:m≠n:=λe=>hn (e▸hm)
  simp[Cf.newBox,this]⟩
 arr m _ l h:=⟨l,h,w6 _,λ_=>rfl⟩
 fro b x hb hM:=by have hlt:=(u0.1 hb).1;refine⟨by simp only[Cf.newBox];rw[Cd hlt];exact hb,?_⟩;simp only[Cf.newBox];grind
 out:=rfl
 sz:=by simp[Cf.newBox]
 io:=⟨rfl,rfl⟩
theorem HInv.newBox{U:Cf}{hp:Hp}(h:HInv U hp){n:Nm}(hn:¬U.al n){cs:List AV}{xs:List Value}{T:TypeId}(hx:RepL U cs xs)(h1:∀x∈xs,Bp x=true):HInv (U.newBox n (U.w.alloc (.cells xs.toArray T))) (D6 n 0 cs++hp):=by
 have e:=Evo.newBox (U:=U) (n:=n) (o:=.cells xs.toArray T) hn;have hold:∀m j c,hl hp (.c m j)=some c->m≠n:=λm j c hc e=>hn (e▸(h.cel m j c hc).1)
 have holda:∀m sz live rows d,hl hp (.a m)=some (.sl sz live rows d)->m≠n:=λm sz live rows d hc e=>hn (e▸(h.arr m sz live rows d hc).1)
 have hs:∀b,U.M b->(U.w.alloc (.cells xs.toArray T)).heap[b]? =U.w.heap[b]? :=λb hb=>Cd (h.lt b hb)
 have hlook:∀m j c,hl (D6 n 0 cs++hp) (.c m j)=some c->(m=n/\cs[j]? =some c)\/(m≠n/\hl hp (.c m j)=some c):=by intro m j c hc;rw[I8,Mz]at hc;grind
 have hlooka:∀m,hl (D6 n 0 cs++hp) (.a m)=hl hp (.a m):=λm=>by rw[I8,G4];simp
 refine⟨λm=>?_,λm j c hc=>?_,λm sz live rows d hc=>?_,λp q b hp' hq=>?_,λb hb=>?_,λb hb=>?_,λb hb hO=>?_⟩
 ·simp only[Cf.newBox,lenOf,hlooka];exact h.ln m
 ·rcases hlook m j c hc with⟨rfl,hcs⟩|⟨hm,hc⟩
  ·obtain⟨x,hx1,hx2⟩:=C1 hx j c hcs;refine⟨.inr rfl,.inr (by simp[Cf.newBox]),.inl ⟨xs.toArray,T,x,?_,by simpa using hx1,h1 x (A14 hx1),hx2.mono e⟩⟩;simp only[Cf.newBox,if_true];exact GQ
  ·have k:=h.cel m j c hc;refine k.keep e (.inl k.2.1) (hs _ k.2.1)
 ·rw[hlooka]at hc;exact(h.arr m sz live rows d hc).keep e rfl λ_ b _ _ _ _ hM=>⟨.inl hM,hs b hM⟩
 ·have conv:∀p b,Owns (U.newBox n (U.w.alloc (.cells xs.toArray T))) (D6 n 0 cs++hp) p b->(p=(false,n)/\b=U.w.heap.size)\/(Owns U hp p b/\U.M b):=by
   rintro⟨k,m⟩ b ho;rcases ho with⟨h1,h2,j,c,hc⟩|⟨h1,⟨sz,rows,d,hc⟩,o,cap,h3,h4⟩
   ·subst h1;rcases hlook m j c hc with⟨rfl,hcs⟩|⟨hm,hc⟩
    ·left;simp[Cf.newBox]at h2;exact⟨rfl,h2.symm⟩
    ·right;have:U.rb m=b:=by simpa[Cf.newBox,hm]using h2
     subst this;exact⟨.inl ⟨rfl,rfl,j,c,hc⟩,(h.cel m j c hc).2.1⟩
   ·subst h1;rw[hlooka]at hc;right;refine⟨.inr ⟨rfl,⟨sz,rows,d,hc⟩,o,cap,h3,h4⟩,?_⟩;obtain⟨_,_,_,k⟩:=h.arr m sz true rows d hc;rcases k with⟨a,k1,_⟩|⟨b',o',cap',k1,k2,k3,k4,k5,k6⟩
    ·have h3':U.ra m=(some ⟨b,o,none⟩,cap):=h3;grind
    ·have h3':U.ra m=(some ⟨b,o,none⟩,cap):=h3;grind
  rcases conv p b hp' with⟨h1,h2⟩|⟨h1,h2⟩<;>rcases conv q b hq with⟨h3,h4⟩|⟨h3,h4⟩
  ·rw[h1,h3]
  ·have:=h.lt b h4;omega
  ·have:=h.lt b h2;omega
  ·exact h.inj p q b h1 h3
 ·rcases hb with hb|hb
  ·have:=h.lt b hb;simp[Cf.newBox];omega
  ·simp[Cf.newBox];omega
 ·have:=h.ou b hb;simp[Cf.newBox];omega
 ·rcases hb with hb|hb
  ·exact h.dis b hb hO
  ·have:=h.ou b hO;omega
def NV:Loc->Bool×Nm|.c n _=>(false,n)|.a n=>(true,n)
theorem Owns.M{U:Cf}{hp:Hp}(h:HInv U hp){p:Bool×Nm}{b:Nat}(ho:Owns U hp p b):U.M b/\U.al p.2:=by
 rcases ho with⟨h1,h2,j,c,hc⟩|⟨h1,⟨sz,rows,d,hc⟩,o,cap,h3,h4⟩
 ·have:=h.cel _ j c hc;exact⟨h2▸this.2.1,this.1⟩
 ·obtain⟨g1,_,_,k⟩:=h.arr _ sz true rows d hc;grind
theorem HInv.upd{U σ':Cf}{hp hp':Hp}(h:HInv U hp)(e:Evo U σ')(p:Bool×Nm)(hM:∀x,U.M x->¬Owns U hp p x->σ'.M x/\σ'.w.heap[x]? =U.w.heap[x]?)(hkey:∀l,NV l≠p->hl hp' l=hl hp l)(hra:∀n,(true,n)≠p->U.al n->σ'.ra n=U.ra n)(hln:∀n,σ'.ln n=lenOf hp' n)(hcel:∀n j c,p=(false,n)->hl hp' (.c n j)=some c->CelF σ' n j c)(harr:∀n sz live rows d,p=(true,n)->hl hp' (.a n)=some (.sl sz live rows d)->ArrF σ' n sz live rows)(hinj:∀x,Owns σ' hp' p x->Owns U hp p x\/U.w.heap.size<=x)(hlt:∀b,σ'.M b->b<σ'.w.heap.size)(hsz:U.w.heap.size<=σ'.w.heap.size)(hdis:∀b,σ'.M b->¬U.M b->U.w.heap.size<=b):HInv σ' hp':=by
 have hother:∀q x,q≠p->Owns U hp q x->¬Owns U hp p x:=λq x hq h1 h2=>hq (h.inj q p x h1 h2)
 have hback:∀q x,q≠p->Owns σ' hp' q x->Owns U hp q x:=by
  rintro⟨k,m⟩ x hq ho;rcases ho with⟨h1,h2,j,c,hc⟩|⟨h1,⟨sz,rows,d,hc⟩,o,cap,h3,h4⟩
  ·subst h1;rw[hkey (.c m j) hq]at hc;have k:=h.cel m j c hc;exact .inl ⟨rfl,by rw[<-h2];exact(e.box m k.1).2.symm,j,c,hc⟩
  ·subst h1;rw[hkey (.a m) hq]at hc;have k:=h.arr m sz true rows d hc;rw[hra m hq k.1]at h3;exact .inr ⟨rfl,⟨sz,rows,d,hc⟩,o,cap,h3,h4⟩
 refine⟨hln,λn j c hc=>?_,λn sz live rows d hc=>?_,λq r x hq hr=>?_,hlt,λb hb=>by rw[e.out]at hb;exact A20 (h.ou b hb) hsz,λb hb hO=>?_⟩
 rotate_left 3
 ·rw[e.out]at hO;by_cases hm:U.M b
  ·exact h.dis b hm hO
  ·have:=hdis b hb hm;have:=h.ou b hO;omega
 ·by_cases hp:(false,n)=p
  ·exact hcel n j c hp.symm hc
  ·rw[hkey (.c n j) hp]at hc;have k:=h.cel n j c hc;have ho:Owns U _ (false,n) (U.rb n):=.inl ⟨rfl,rfl,j,c,hc⟩;obtain⟨g1,g2⟩:=hM _ k.2.1 (hother _ _ hp ho);exact k.keep e g1 g2
 ·by_cases hp:(true,n)=p
  ·exact harr n sz live rows d hp.symm hc
  ·rw[hkey (.a n) hp]at hc;have k:=h.arr n sz live rows d hc;refine k.keep e (hra n hp k.1) λhl b o cap h1 h2 h3=>?_
   subst hl;exact hM b h3 (hother _ _ hp (.inr ⟨rfl,⟨sz,rows,d,hc⟩,o,cap,h1,h2⟩))
 ·by_cases hqp:q=p<;>by_cases hrp:r=p
  ·rw[hqp,hrp]
  ·subst hqp;have h2:=hback r x hrp hr;rcases hinj x hq with h1|h1
   ·exact h.inj _ _ x h1 h2
   ·have:=h.lt x (h2.M h).1;omega
  ·subst hrp;have h2:=hback q x hqp hq;rcases hinj x hr with h1|h1
   ·exact h.inj _ _ x h2 h1
   ·have:=h.lt x (h2.M h).1;omega
  ·exact h.inj q r x (hback q x hqp hq) (hback r x hrp hr)
def Fr(w:World)(b:Nat):Nat->List Value->World|_,[]=>w|o,x::xs=>Fr (w.setCell ⟨b,o,none⟩ x) b (o+1) xs
theorem DP{b:Nat}:∀(xs:List Value)(o:Nat)(w:World),(Fr w b o xs).heap.size=w.heap.size
 |[],_,_=>rfl
 |x::xs,o,w=>by simp[Fr,DP xs (o+1)]
theorem NW{w:World}{a:Addr}{x:Value}{b:Nat}(h:b≠a.block):(w.setCell a x).heap[b]? =w.heap[b]? :=by simp[World.setCell,Array.getElem?_modify,Ne.symm h]
theorem C2{b c:Nat}(h:c≠b):∀(xs:List Value)(o:Nat)(w:World),(Fr w b o xs).heap[c]? =w.heap[c]?
 |[],_,_=>rfl
 |x::xs,o,w=>by rw[Fr,C2 h xs (o+1),NW h]
theorem K1{w:World}{b o:Nat}{x:Value}{cs:Array Value}{T:TypeId}{f:Nat×Nat}(h:w.heap[b]? =some (.cells cs T f)):(w.setCell ⟨b,o,none⟩ x).heap[b]? =some (.cells (cs.setIfInBounds o x) T f):=by grind[World.setCell]
theorem Gj{b:Nat}{T:TypeId}{f:Nat×Nat}:∀(xs:List Value)(o:Nat)(w:World)(cs:Array Value),w.heap[b]? =some (.cells cs T f)->∃ds:Array Value,(Fr w b o xs).heap[b]? =some (.cells ds T f)/\ds.size=cs.size/\∀j,ds[j]? =if o<=j/\j<o+xs.length/\j<cs.size then xs[j-o]? else cs[j]?
 |[],o,w,cs,h=>⟨cs,h,rfl,by grind⟩
 |x::xs,o,w,cs,h=>by obtain⟨ds,h1,h2,h3⟩:=Gj xs (o+1) (w.setCell ⟨b,o,none⟩ x) _ (K1 h);refine⟨ds,h1,by simpa using h2,λj=>?_⟩;grind
theorem GR{P:Program}{b:Nat}:∀(xs:List Value)(o i:Nat)(w:World)(cs:Array Value)(T:TypeId),w.heap[b]? =some (.cells cs T (0,0))->(∀x∈xs,Bp x=true)->o+i+xs.length<=cs.size->(storeCells ⟨b,o,none⟩ xs i).run P w=.ok () (Fr w b (o+i) xs)
 |[],o,i,w,cs,T,_,_,_=>by simp[storeCells,Fr]
 |x::xs,o,i,w,cs,T,h,h1,hl=>by
  have hadd:(⟨b,o,none⟩:Addr).add i=⟨b,o+i,none⟩:=by grind[Addr.add]
  have hlt:o+i<cs.size:=by simp at hl;omega
  have hc:w.cell? ⟨b,o+i,none⟩=some cs[o+i]:=by simp[World.cell?,h]
  have hf:w.frozen? ⟨b,o+i,none⟩=false:=by simp[World.frozen?,h]
  have hx:=h1 x (by simp);have hr:(store ⟨b,o+i,none⟩ x).run P w=.ok () (w.setCell ⟨b,o+i,none⟩ x):=by cases x<;>simp[Bp]at hx<;>simp[store,Sem.run,hc,hf]
  simp only[storeCells,Sem.run_bind,hadd,hr,Result.andThen];rw[GR xs o (i+1) _ _ T (K1 h) (by grind) (by simp at hl⊢;omega)];simp[Fr,A15]
theorem R4{hp:Hp}{n:Nm}:∀{cs:List AV}{o:Nat}{ws:Hp},KH hp n o cs=some ws->(∀l,NV l≠(false,n)->hl ws l=none)/\(∀j,hl ws (.c n j)=if o<=j then cs[j-o]? else none)/\(∀j,j<cs.length->∃c,hl hp (.c n (o+j))=some c/\isM c=false)
 |[],o,ws,h=>by simp[KH]at h;subst h;exact⟨λ_ _=>rfl,λj=>by simp[hl],by grind⟩
 |c::cs,o,ws,h=>by
  simp only[KH]at h;split at h
  ·rename_i c0 hc0;cases hm:isM c0 with
   |true=>rw[hm]at h;cases h
   |false=>
   rw[hm,A12]at h;cases hs:KH hp n (o+1) cs with
   |none=>simp[hs]at h
   |some ws'=>
    simp[hs]at h;subst h;obtain⟨h1,h2,h3⟩:=R4 hs;refine⟨λl hl'=>?_,λj=>?_,λj hj=>?_⟩
    ·simp only[hl];rw[t7]
     ·exact h1 l hl'
     ·intro e;subst e;exact hl' rfl
    ·simp only[hl,true_and];grind
    grind
  ·simp at h
theorem HC(w:World)(b:Nat):∀(o:Nat)(xs:List Value),SameO w (Fr w b o xs)
 |_,[]=>SameO.refl _
 |o,x::xs=>(show SameO w (w.setCell ⟨b,o,none⟩ x)from⟨rfl,rfl⟩).trans (HC (w.setCell ⟨b,o,none⟩ x) b (o+1) xs)
theorem HInv.store{P:Program}{U:Cf}{hp:Hp}(h:HInv U hp){n:Nm}{o:Nat}{cs:List AV}{xs:List Value}{ws:Hp}(hs:KH hp n o cs=some ws)(hx:RepL U cs xs)(h1:∀x∈xs,Bp x=true):∃w',(storeCells ⟨U.rb n,o,none⟩ xs).run P U.w=.ok () w'/\Evo U (U.at w')/\HInv (U.at w') (ws++hp):=by
 cases hcs:cs with
 |nil=>subst hcs;simp[RepL]at hx;subst hx;simp[KH]at hs;subst hs;exact⟨U.w,by simp[storeCells],Evo.refl _,h⟩
 |cons c0 cs0=>
  have hlen:=Bx hx;obtain⟨k1,k2,k3⟩:=R4 hs;obtain⟨c1,hc1⟩:=k3 0 (by simp[hcs]);obtain⟨f1,f2,ar,T,x0,f3,f4,f5,f6⟩:=(h.cel n _ c1 hc1.1).cells hc1.2;have hsz:o+xs.length<=ar.size:=by obtain⟨c2,hc2⟩:=k3 (cs.length-1) (by simp[hcs]);obtain⟨_,_,ar2,T2,x2,g3,g4,_⟩:=(h.cel n _ c2 hc2.1).cells hc2.2;grind
  refine⟨Fr U.w (U.rb n) o xs,?_,?_,?_⟩
  ·exact GR xs o 0 U.w ar T f3 h1 (by simpa using hsz)
  ·refine⟨λ_ h=>⟨h,rfl⟩,λ_ _ l h=>⟨l,h,w6 _,λ_=>rfl⟩,λb x hb hM=>⟨?_,hM⟩,rfl,by simp only[Cf.at];rw[DP];exact w6 _,HC _ _ _ _⟩;have:b≠U.rb n:=λe=>hM (e▸f2)
   simp only[Cf.at];rw[C2 this];exact hb
  ·have e:Evo U (U.at (Fr U.w (U.rb n) o xs)):=by
    refine⟨λ_ h=>⟨h,rfl⟩,λ_ _ l h=>⟨l,h,w6 _,λ_=>rfl⟩,λb x hb hM=>⟨?_,hM⟩,rfl,by simp only[Cf.at];rw[DP];exact w6 _,HC _ _ _ _⟩;have:b≠U.rb n:=λe=>hM (e▸f2)
    simp only[Cf.at];rw[C2 this];exact hb
   obtain⟨ds,d1,d2,d3⟩:=Gj xs o U.w ar f3;have hold:Owns U hp (false,n) (U.rb n):=.inl ⟨rfl,rfl,_,c1,hc1.1⟩;refine h.upd e (false,n) (λx hxM hno=>⟨hxM,?_⟩) (λl hl'=>?_) (λ_ _ _=>rfl) (λm=>?_) (λm j c hm hc=>?_) (λm sz live rows d hm hc=>?_) (λx ho=>?_) (λb hb=>?_) (by simp only[Cf.at];rw[DP];exact w6 _) (λb hb hn=>absurd hb hn)
   ·have:x≠U.rb n:=λe=>hno (e▸hold)
    simp only[Cf.at];exact C2 this _ _ _
   ·rw[I8,k1 l hl'];simp
   ·simp only[Cf.at,lenOf,I8,k1 (.a m) (by simp[NV])];simpa[lenOf]using h.ln m
   ·simp only[A57,true_and]at hm;subst hm;rw[I8,k2]at hc;by_cases hin:o<=j/\j-o<cs.length
    ·rw[t8 hin.1,t6 hin.2]at hc;simp at hc;obtain⟨x,e1,e2⟩:=C1 hx (j-o) c (by rw[t6 hin.2,hc]);refine⟨f1,f2,.inl ⟨ds,T,x,d1,?_,h1 x (A14 e1),e2.mono e⟩⟩;grind
    ·have hnone:(if o<=j then cs[j-o]? else none)=none:=by grind
     rw[hnone]at hc;obtain⟨_,_,ar2,T2,x2,g3,g4,g5,g6⟩:=(h.cel n j c hc).cells2 f3;rw[f3]at g3;cases g3
     refine⟨f1,f2,.inl ⟨ds,T,x2,d1,?_,g5,g6.mono e⟩⟩;rw[d3,t7 (by omega)];exact g4
   ·simp at hm
   ·rcases ho with⟨_,g2,_⟩|⟨g1,_⟩
    ·left;have:U.rb n=x:=g2;exact this▸hold
    ·cases g1
   ·simp only[Cf.at];rw[DP];exact h.lt b hb
def Lies(w:World)(b o:Nat)(vs:List Value):Prop:=∀j v,vs[j]? =some v->w.cell? ⟨b,o+j,none⟩=some v
theorem IA{U:Cf}{b:Nat}:∀{cs:List AV}{o:Nat},RepCells U b o cs->∃vs,RepL U cs vs/\(∀x∈vs,Bp x=true)/\Lies U.w b o vs
 |[],o,_=>⟨[],by simp[RepL],by simp,by intro j v h;simp at h⟩
 |c::cs,o,h=>by
  obtain⟨⟨x,h1,h2,h3⟩,h4⟩:=h;obtain⟨vs,g1,g2,g3⟩:=IA h4;refine⟨x::vs,⟨x,vs,rfl,h3,g1⟩,by grind,λj v hj=>?_⟩;cases j with
  |zero=>grind
  |succ j=>have:=g3 j v (by simpa using hj);grind
theorem PS{U:Cf}{b:Nat}{cs:List AV}{vs:List Value}{o:Nat}(h:RepL U cs vs)(h1:∀x∈vs,Bp x=true)(hl:Lies U.w b o vs):RepCells U b o cs:=Fi λj c hc=>by obtain⟨x,g1,g2⟩:=C1 h j c hc;exact⟨x,hl j x g1,by grind,g2⟩
theorem Lies.left{w:World}{b o:Nat}{vs us:List Value}(h:Lies w b o (vs++us)):Lies w b o vs:=λj v hj=>h j v (by grind)
theorem Lies.right{w:World}{b o:Nat}{vs us:List Value}(h:Lies w b o (vs++us)):Lies w b (o+vs.length) us:=λj v hj=>by rw[A15];exact h (vs.length+j) v (by grind)
theorem Lies.app{w:World}{b o:Nat}{vs us:List Value}(h:Lies w b o vs)(k:Lies w b (o+vs.length) us):Lies w b o (vs++us):=λj v hj=>by
 by_cases hlt:j<vs.length
 ·rw[A31 hlt]at hj;exact h j v hj
 ·rw[List.getElem?_append_right (by omega)]at hj;have:=k (j-vs.length) v hj;grind
theorem GS{U:Cf}{sz b:Nat}:∀{rs:List (List AV)}{o:Nat},RepRows U sz b o rs->∃vs,RepL U rs.flatten vs/\(∀x∈vs,Bp x=true)/\Lies U.w b o vs/\(∀r∈rs,r.length=sz)/\vs.length=rs.length*sz
 |[],o,_=>⟨[],by simp[RepL],by simp,by intro j v h;simp at h,by simp,by simp⟩
 |r::rs,o,h=>by obtain⟨h1,h2,h3⟩:=h;obtain⟨us,f1,f2,f3⟩:=IA h2;obtain⟨vs,g1,g2,g3,g4,g5⟩:=GS h3;have hl:=Bx f1;refine⟨us++vs,by simpa using Dz f1 g1,?_,f3.app (by rw[hl,h1];exact g3),?_,?_⟩;all_goals grind
theorem Ha{U:Cf}:∀{cs ds:List AV}{zs:List Value},RepL U (cs++ds) zs->∃xs ys,zs=xs++ys/\RepL U cs xs/\RepL U ds ys
 |[],ds,zs,h=>⟨[],zs,rfl,by simp[RepL],h⟩
 |c::cs,ds,zs,h=>by obtain⟨y,ys,rfl,h2,h3⟩:=h;obtain⟨xs,us,rfl,g1,g2⟩:=Ha h3;exact⟨y::xs,us,rfl,⟨y,xs,rfl,h2,g1⟩,g2⟩
theorem DQ{U:Cf}{sz b:Nat}:∀{rs:List (List AV)}{o:Nat}{vs:List Value},RepL U rs.flatten vs->(∀x∈vs,Bp x=true)->Lies U.w b o vs->(∀r∈rs,r.length=sz)->RepRows U sz b o rs
 |[],_,_,_,_,_,_=>by simp[RepRows]
 |r::rs,o,vs,h,h1,hl,hr=>by
  obtain⟨xs,ys,rfl,g1,g2⟩:=Ha h;have hx:=Bx g1;have hrl:=hr r (by simp);refine⟨hrl,by grind[PS,hl.left],DQ g2 (by grind) ?_ (by grind)⟩;have:=hl.right
  rwa [hx,hrl]at this
def NM(w:World)(base:Option Addr)(vs:List Value):Prop:=vs=[]\/∃b o,base=some ⟨b,o,none⟩/\Lies w b o vs
theorem HN(b o j:Nat):(⟨b,o,none⟩:Addr).add j=⟨b,o+j,none⟩:=by grind[Addr.add]
theorem GU{P:Program}{w:World}{base:Option Addr}{vs:List Value}(h:NM w base vs)(size n len cap:Nat)(hl:vs.length=n*size):(Builtin.firstCells size n (.slice base len cap)).run P w=.ok vs.toArray w:=by
 cases base with
 |none=>
  rcases h with rfl|⟨b,o,h,_⟩
  all_goals simp_all[Builtin.firstCells]
 |some a=>
  refine run_firstCells_some w size n a len cap vs hl λj v hj=>?_
  rcases h with rfl|⟨b,o,h,hl'⟩
  ·simp at hj
  ·cases h
   rw[HN];exact hl' j v hj
theorem Mn{U:Cf}{sz:Nat}{full:Bool}{rows:List (List AV)}{d:List AV}{v:Value}(h:Rep U (.sl sz full rows d) v):∃base cap vs,v=.slice base rows.length cap/\rows.length<=cap/\(full=true->cap=rows.length)/\RepL U rows.flatten vs/\(∀x∈vs,Bp x=true)/\NM U.w base vs/\(rows=[]\/((∀r∈rows,r.length=sz)/\vs.length=rows.length*sz))/\(rows=[]->vs=[])/\(rows=[]\/∃b o,base=some ⟨b,o,none⟩/\Fz U b/\Lies U.w b o vs)/\(∀r∈rows,AA r=true):=by
 obtain⟨base,cap,h1,h2,h3,hp,h4⟩:=h;rcases h4 with rfl|⟨b,o,h5,h6,h7⟩
 ·exact⟨base,cap,[],h1,h2,h3,by simp[RepL],by simp,.inl rfl,.inl rfl,λ_=>rfl,.inl rfl,by simp⟩
 ·obtain⟨vs,g1,g2,g3,g4,g5⟩:=GS h7;exact⟨base,cap,vs,h1,h2,h3,g1,g2,.inr ⟨b,o,h5,g3⟩,.inr ⟨g4,g5⟩,λe=>by simp_all,by grind,hp⟩
theorem IN{P:Program}{w:World}(t ty e:TypeId)(i:TypeInfo)(z:Value)(ht:P.underlying t=some (.slice e))(hi:P.info? e=some i)(hz:i.zero=some z){sb xb:Option Addr}{olds news:List Value}(ho:NM w sb olds)(hn:NM w xb news)(n m cap cx:Nat)(hlo:olds.length=n*i.size)(hln:news.length=m*i.size)(hg:cap<n+m)(hb:(n+m)*i.bytes<=140737488355328)(hb0:0<i.bytes):(Builtin.append_ #[t,t] ty #[.slice sb n cap,.slice xb m cx]).run P w=.ok (.slice (some ⟨w.heap.size,0,none⟩) (n+m) (grownCap w (n+m) cap e))
    (w.drew.alloc (.cells (olds.toArray++news.toArray++Builtin.zeroCells z.cells (grownCap w (n+m) cap e-(n+m))) e)):=by
 have h1:=by omega
 have h63:=A09 (Nat.le_mul_of_pos_right _ hb0) hb;have h63':=by omega
 have h48':=by have:=growslice_fits hg hb;omega
 have ho':NM w.drew sb olds:=by simpa[NM,Lies]using ho
 have hn':NM w.drew xb news:=by simpa[NM,Lies]using hn
 have hf:=GU (P:=P) hn' i.size m m cx hln;have hfo:=GU (P:=P) ho' i.size n n cap hlo;simp[Builtin.append_,run_underlying ht,sizeOf,typeInfo,zeroValue,hi,hz,Builtin.lenOf,Question.forced,hf,hfo,newRow,grownCap];grind
theorem Lr{P:Program}{w:World}(t ty e:TypeId)(i:TypeInfo)(ht:P.underlying t=some (.slice e))(hi:P.info? e=some i){sb xb:Option Addr}(n cap cx:Nat)(hc:n<=cap):(Builtin.append_ #[t,t] ty #[.slice sb n cap,.slice xb 0 cx]).run P w=.ok (.slice sb n cap) w:=by have hf:=GU (P:=P) (w:=w) (base:=xb) (.inl rfl) i.size 0 0 cx (by simp);cases sb<;>simp[Builtin.append_,run_underlying ht,sizeOf,typeInfo,hi,Builtin.lenOf,hc,hf,storeCells]
theorem SO{P:Program}{w:World}(t ty e:TypeId)(i:TypeInfo)(ht:P.underlying t=some (.slice e))(hi:P.info? e=some i){b o:Nat}{xb:Option Addr}{news:List Value}(hn:NM w xb news)(n m cap cx:Nat)(hln:news.length=m*i.size)(h1:∀x∈news,Bp x=true){cs:Array Value}{T:TypeId}(hcs:w.heap[b]? =some (.cells cs T (0,0)))(hfit:o+n*i.size+news.length<=cs.size)(hc:n+m<=cap):(Builtin.append_ #[t,t] ty #[.slice (some ⟨b,o,none⟩) n cap,.slice xb m cx]).run P w=.ok (.slice (some ⟨b,o,none⟩) (n+m) cap) (Fr w b (o+n*i.size) news):=by have hf:=GU (P:=P) hn i.size m m cx hln;have hst:=GR (P:=P) news (o+n*i.size) 0 w cs T hcs h1 (by simpa using hfit);simp[Builtin.append_,run_underlying ht,sizeOf,typeInfo,hi,Builtin.lenOf,hc,hf,HN,hst]
def Cf.setArr(U:Cf)(n:Nm)(a:Option Addr×Nat)(M:Nat->Prop)(len:Nat)(w:World):Cf:={U with ra:=λm=>if m=n then a else U.ra m,M:=M,ln:=λm=>if m=n then some len else U.ln m,al:=λm=>U.al m\/m=n,w:=w}
theorem Evo.setArr{U:Cf}{n:Nm}{a:Option Addr×Nat}{M:Nat->Prop}{len:Nat}{w:World}(hn:¬U.al n\/∃l,U.ln n=some l/\l<=len/\(l=len->a=U.ra n))(hw:∀(b:Nat) (o:Obj),U.w.heap[b]? =some o->¬U.M b->w.heap[b]? =some o/\¬M b)(hs:U.w.heap.size<=w.heap.size)(ho:SameO U.w w):Evo U (U.setArr n a M len w) where
 box m hm:=⟨.inl hm,rfl⟩
 arr m hm l' h:=by simp only[Cf.setArr]at h⊢;grind
 fro:=hw
 out:=rfl
 sz:=hs
 io:=ho
theorem W8(n m:Nm)(sz:Nat)(live:Bool)(rows:List (List AV))(d:List AV)(hp:Hp):lenOf ((.a n,.sl sz live rows d)::hp) m=if m=n then some rows.length else lenOf hp m:=by grind[lenOf,hl]
theorem HInv.setArr{U:Cf}{hp:Hp}(h:HInv U hp){n:Nm}{a:Option Addr×Nat}{M:Nat->Prop}{sz:Nat}{live:Bool}{rows:List (List AV)}{d:List AV}{w:World}(e:Evo U (U.setArr n a M rows.length w))(hM:∀x,U.M x->¬Owns U hp (true,n) x->M x/\w.heap[x]? =U.w.heap[x]?)(harr:ArrF (U.setArr n a M rows.length w) n sz live rows)(hinj:live=true->∀b o cap,a=(some ⟨b,o,none⟩,cap)->0<cap->Owns U hp (true,n) b\/U.w.heap.size<=b)(hlt:∀b,M b->b<w.heap.size)(hwz:U.w.heap.size<=w.heap.size)(hdis:∀b,M b->¬U.M b->U.w.heap.size<=b:=by exact λ_ h k=>absurd h k):HInv (U.setArr n a M rows.length w) ((.a n,.sl sz live rows d)::hp):=by
 refine h.upd e (true,n) hM (λl hl'=>?_) (λm hm _=>?_) (λm=>?_) (λm j c hm _=>?_) (λm sz' live' rows' d' hm hc=>?_) (λx ho=>?_) hlt hwz hdis
 ·simp only[hl];rw[t7];intro e;subst e;exact hl' rfl
 ·grind[Cf.setArr]
 ·rw[W8];simp only[Cf.setArr];rw[h.ln m]
 ·simp at hm
 ·simp_all[hl]
 ·rcases ho with⟨g1,_⟩|⟨_,⟨sz',rows',d',hc⟩,o,cap,g3,g4⟩
  all_goals simp_all[hl,Cf.setArr]
theorem HInv.newArr{U:Cf}{hp:Hp}(h:HInv U hp){n:Nm}(hn:¬U.al n){sz cap:Nat}{rows:List (List AV)}{d:List AV}{vs us:List Value}{T:TypeId}(hsz:0<sz)(hv:RepL U rows.flatten vs)(h1:∀x∈vs,Bp x=true)(hr:∀r∈rows,r.length=sz)(hpu:∀r∈rows,AA r=true)(hle:rows.length<=cap)(hcap:cap*sz<=(vs++us).length):Evo U (U.setArr n (some ⟨U.w.heap.size,0,none⟩,cap) (λb=>U.M b\/b=U.w.heap.size) rows.length (U.w.alloc (.cells (vs++us).toArray T)))/\HInv (U.setArr n (some ⟨U.w.heap.size,0,none⟩,cap) (λb=>U.M b\/b=U.w.heap.size) rows.length (U.w.alloc (.cells (vs++us).toArray T))) ((.a n,.sl sz true rows d)::hp):=by
 have e:Evo U (U.setArr n (some ⟨U.w.heap.size,0,none⟩,cap) (λb=>U.M b\/b=U.w.heap.size) rows.length (U.w.alloc (.cells (vs++us).toArray T))):=by refine Evo.setArr (.inl hn) (λb o hb hM=>?_) (by simp) ⟨rfl,rfl⟩;grind[Cd]
 refine⟨e,h.setArr e (λx hx _=>⟨.inl hx,Cd (h.lt x hx)⟩) ?_ ?_ ?_ (by simp) (by grind)⟩
 ·refine⟨.inr rfl,hsz,λ_=>hpu,?_⟩;by_cases hc:cap=0
  ·subst hc;exact .inl ⟨some ⟨U.w.heap.size,0,none⟩,by simp[Cf.setArr],by grind⟩
  ·refine .inr ⟨U.w.heap.size,0,cap,by simp[Cf.setArr],by omega,hle,?_,λ_=>⟨.inr rfl,_,T,GQ,by simpa using hcap⟩,by simp⟩;refine DQ (hv.mono e) h1 (λj v hj=>?_) hr;have hc:=World.cell?_alloc_new U.w (vs++us).toArray T (0+j);simp only[Cf.setArr];grind
 ·grind
 ·intro b hb;rcases hb with hb|hb
  ·have:=h.lt b hb;simp;omega
  ·simp;omega
structure Next(U:Cf)(nm:Nm)(hp':Hp)(w':World)(σ':Cf):Prop where
 evo:Evo U σ'
 inv:HInv σ' hp'
 w:σ'.w=w'
 al:∀m,σ'.al m->U.al m\/m=nm
theorem ArrF.vals{U:Cf}{n:Nm}{sz:Nat}{live:Bool}{rows:List (List AV)}(h:ArrF U n sz live rows):∃vs,RepL U rows.flatten vs/\(∀x∈vs,Bp x=true)/\NM U.w (U.ra n).1 vs/\(∀r∈rows,r.length=sz)/\vs.length=rows.length*sz/\rows.length<=(U.ra n).2:=by
 obtain⟨_,_,_,h3⟩:=h;rcases h3 with⟨a,h3,rfl⟩|⟨b,o,cap,h3,h4,h5,h6,_⟩
 ·exact⟨[],by simp[RepL],by simp,.inl rfl,by simp,by simp,by simp⟩
 ·obtain⟨vs,g1,g2,g3,g4,g5⟩:=GS h6;exact⟨vs,g1,g2,.inr ⟨b,o,by rw[h3],g3⟩,g4,g5,by rw[h3];exact h5⟩
theorem Hb{U:Cf}{hp:Hp}(h:HInv U hp){n:Nm}{l sz:Nat}{live:Bool}{rows:List (List AV)}{d:List AV}{v:Value}(hn:hl hp (.a n)=some (.sl sz live rows d))(hr:Rep U (.own n l) v)(hlen:l=rows.length):v=.slice (U.ra n).1 rows.length (U.ra n).2:=by simp only[Rep]at hr;have:=h.ln n;grind[lenOf]
theorem Kf{U:Cf}{hp:Hp}(h:HInv U hp){sz:Nat}{x:AV}{v:Value}{vx:Prop}{rx:List (List AV)}(hs:MU hp sz x=some (vx,rx))(hvx:vx)(hr:Rep U x v):∃xb cx news,v=.slice xb rx.length cx/\RepL U rx.flatten news/\(∀y∈news,Bp y=true)/\NM U.w xb news/\(∀r∈rx,r.length=sz)/\news.length=rx.length*sz/\(∀r∈rx,AA r=true):=by
 unfold MU at hs;split at hs
 ·grind[Mn]
 ·rename_i n l;cases hsn:GG n with
  |true=>rw[hsn]at hs;cases hs
  |false=>
  rw[hsn,A12]at hs;split at hs
  ·rename_i z f rows d hn;simp only[yE,A57]at hs;obtain⟨rfl,rfl⟩:=hs;obtain⟨hl1,rfl⟩:=hvx;obtain⟨vs,g1,g2,g3,g4,g5,g6⟩:=(h.arr n z f rows d hn).vals;exact⟨_,_,vs,Hb h hn hr hl1,g1,g2,g3,g4,g5,(h.arr n z f rows d hn).2.2.1 hsn⟩
  ·simp at hs
 ·obtain⟨_,rfl⟩:=hs;exact⟨_,_,[],hr,by simp[RepL],by simp,.inl rfl,by simp,by simp,by simp⟩
 ·simp at hs
theorem Pp(w:World)(need old:Nat)(e:TypeId):need<=grownCap w need old e:=by simp[grownCap,Question.cut]
theorem HInv.alias{U:Cf}{hp:Hp}(h:HInv U hp){nm:Nm}(hn:¬U.al nm){sz:Nat}(hsz:0<sz){rows:List (List AV)}{d:List AV}{base:Option Addr}{cap:Nat}(hfull:cap=rows.length)(hpu:∀r∈rows,AA r=true)(hrow:rows=[]\/∃b o,base=some ⟨b,o,none⟩/\Fz U b/\RepRows U sz b o rows):∃σ',Next U nm ((.a nm,.sl sz rows.isEmpty rows d)::hp) U.w σ'/\Rep σ' (.own nm rows.length) (.slice base rows.length cap):=by
 subst hfull;have e:Evo U (U.setArr nm (base,rows.length) U.M rows.length U.w):=by simp_all[Evo.setArr,SameO.refl]
 refine⟨_,⟨e,h.setArr e (by grind) ⟨.inr rfl,hsz,λ_=>hpu,?_⟩ ?_ h.lt (w6 _),rfl,λm hm=>hm⟩,?_⟩
 ·rcases hrow with rfl|⟨b,o,h1,h2,h3⟩
  ·exact .inl ⟨base,by simp[Cf.setArr],rfl⟩
  ·cases hr:rows with
   |nil=>exact .inl ⟨base,by simp[Cf.setArr],rfl⟩
   |cons r rs=>refine .inr ⟨b,o,rows.length,by simp[Cf.setArr,h1,hr],by simp[hr],by simp[hr],?_,by simp,λ_=>e.fz h2⟩;rw[<-hr];exact h3.mono e _ _ h2.1
 ·grind
 ·simp[Rep,Cf.setArr,Bp]
theorem X2{P:Program}{U:Cf}{hp:Hp}(h:HInv U hp){nm:Nm}(hnm:¬U.al nm){sz bytes:Nat}{zs:List AV}{s x:AV}{vs vx:Value}{vc:Prop}{r:AV}{ws:Hp}(t ty e:TypeId)(i:TypeInfo)(z:Value)(ht:P.underlying t=some (.slice e))(hi:P.info? e=some i)(hz:i.zero=some z)(hsz:i.size=sz)(hby:i.bytes=bytes)(hzs:z.cells.size=sz)(hs0:0<sz)(hb0:0<bytes)(hex:OY hp nm sz bytes zs s x=some (vc,r,ws))(hvc:vc)(hrs:Rep U s vs)(hrx:Rep U x vx):∃v w' σ',(Builtin.append_ #[t,t] ty #[vs,vx]).run P U.w=.ok v w'/\Next U nm (ws++hp) w' σ'/\Rep σ' r v:=by
 subst hsz hby;unfold OY at hex;split at hex
 ·simp at hex
 rename_i vx' rx hsr;have grown:∀(base:Option Addr)(cap:Nat)(rows:List (List AV))(olds:List Value)(d:List AV)(n:Nm),RepL U rows.flatten olds->(∀y∈olds,Bp y=true)->NM U.w base olds->(∀r∈rows,r.length=i.size)->(GG n=false->∀r∈rows,AA r=true)->olds.length=rows.length*i.size->rx≠[]->vx'->(rows++rx).length*i.bytes<=140737488355328->cap<rows.length+rx.length->vs=.slice base rows.length cap->(n=nm\/U.ln n=some rows.length)->∃v w' σ',(Builtin.append_ #[t,t] ty #[vs,vx]).run P U.w=.ok v w'/\Next U n ((.a n,.sl i.size true (rows++rx) d)::hp) w' σ'/\Rep σ' (.own n (rows++rx).length) v:=by
  intro base cap rows olds d n o1 o2 o3 o4 hpu o5 hne hvx hb hcap hvs hn;obtain⟨xb,cx,news,x1,x2,x3,x4,x5,x6,xpu⟩:=Kf h hsr hvx hrx;subst hvs x1;have hrun:=IN (P:=P) (w:=U.w) t ty e i z ht hi hz o3 x4 rows.length rx.length cap cx o5 x6 hcap (by simpa using hb) hb0;have hw:∀(b:Nat)(o:Obj),U.w.heap[b]? =some o->U.w.drew.heap[b]? =some o:=λb o hb=>hb
  have h':=h.at hw ⟨rfl,rfl⟩;have e':Evo U (U.at U.w.drew):=Evo.at hw ⟨rfl,rfl⟩;have hlen:(olds++news).length=(rows++rx).length*i.size:=by simp[o5,x6,Nat.add_mul]
  have hcg:=Pp U.w (rows.length+rx.length) cap e;have hrep:RepL (U.at U.w.drew) (rows++rx).flatten (olds++news):=by simpa using Dz (o1.mono e') (x2.mono e')
  have hone:∀y∈olds++news,Bp y=true:=λy hy=>(y7.1 hy).elim (o2 y) (x3 y)
  have hrl:∀r∈rows++rx,r.length=i.size:=λr hr=>(y7.1 hr).elim (o4 r) (x5 r)
  have hcapl:grownCap U.w (rows.length+rx.length) cap e*i.size<=(olds++news++(Builtin.zeroCells z.cells (grownCap U.w (rows.length+rx.length) cap e-(rows.length+rx.length))).toList).length:=by rw[w9,hlen];simp only[Array.length_toList,size_zeroCells,hzs,w9,<-Nat.add_mul];exact A46 _ (by omega)
  have hblk:(olds.toArray++news.toArray++Builtin.zeroCells z.cells (grownCap U.w (rows.length+rx.length) cap e-(rows.length+rx.length)))=(olds++news++(Builtin.zeroCells z.cells (grownCap U.w (rows.length+rx.length) cap e-(rows.length+rx.length))).toList).toArray:=by apply Array.ext';simp
  have hM:∀b,b=U.w.heap.size->¬U.M b:=λb hb hM=>by have:=h.lt b hM;omega
  let M':Nat->Prop:=λb=>U.M b\/b=U.w.heap.size
  have evo:Evo (U.at U.w.drew) ((U.at U.w.drew).setArr n (some ⟨U.w.heap.size,0,none⟩,grownCap U.w (rows.length+rx.length) cap e) M' (rows++rx).length
    (U.w.drew.alloc (.cells (olds++news++(Builtin.zeroCells z.cells (grownCap U.w (rows.length+rx.length) cap e-(rows.length+rx.length))).toList).toArray e))):=by
   refine Evo.setArr ?_ (λb o hb hMb=>?_) (by show U.w.heap.size<=(U.w.heap.push _).size;simp) ⟨rfl,rfl⟩
   ·rcases hn with rfl|hn
    ·exact .inl hnm
    ·refine .inr ⟨_,hn,by simp,λe=>?_⟩;have:rx.length=0:=by simp at e;simp[e]
     grind
   ·have hlt:=(u0.1 hb).1;refine⟨(Cd (w:=U.w.drew) hlt).trans hb,?_⟩;rintro(k|k)
    ·exact hMb k
    ·have:b<U.w.heap.size:=hlt;omega
  refine⟨_,_,_,hrun,⟨e'.trans evo,?_,by rw[hblk];rfl,λm hm=>hm⟩,?_⟩
  ·refine h'.setArr evo (λx hx _=>⟨.inl hx,Cd (h'.lt x hx)⟩) ⟨.inr rfl,hs0,λe r hr=>(y7.1 hr).elim (hpu e r) (xpu r),?_⟩ ?_ ?_ (by simp[Cf.at]) (λb hb hn=>hb.elim (λh=>absurd h hn) (λh=>by simp[Cf.at];omega))
   ·have hpos:0<rx.length:=by grind
    refine .inr ⟨U.w.heap.size,0,_,by simp[Cf.setArr];rfl,by omega,by simpa using hcg,?_,λ_=>⟨.inr rfl,_,e,GQ,by simpa using hcapl⟩,by simp⟩;refine DQ (hrep.mono evo) hone (λj v hj=>?_) hrl;have hc:=World.cell?_alloc_new U.w.drew (olds++news++(Builtin.zeroCells z.cells (grownCap U.w (rows.length+rx.length) cap e-(rows.length+rx.length))).toList).toArray e (0+j);simp only[Cf.setArr];refine hc.trans ?_;grind
   ·intro _ b o cap' hab _;right;simp at hab;simp[Cf.at];omega
   ·intro b hb;rcases hb with hb|hb
    ·have:=h.lt b hb;simp;omega
    ·simp;omega
  ·simp[Rep,Cf.setArr,Bp]
 split at hex
 ·
  rename_i n l;split at hex
  ·rename_i zz live rows d hn;simp only[yE,A57]at hex;obtain⟨rfl,rfl,rfl⟩:=hex;obtain⟨hvx,rfl,hl1,rfl,hb⟩:=hvc;have ha:=h.arr n i.size true rows d hn;obtain⟨olds,o1,o2,o3,o4,o5,o6⟩:=ha.vals;have hvs:=Hb h hn hrs hl1;have hln:U.ln n=some rows.length:=by have:=h.ln n;simpa[lenOf,hn]using this
   by_cases hrx0:rx=[]
   ·subst hrx0;obtain⟨xb,cx,news,x1,_⟩:=Kf h hsr hvx hrx;subst hvs x1;have hrun:=Lr (P:=P) (w:=U.w) (sb:=(U.ra n).1) (xb:=xb) t ty e i ht hi rows.length (U.ra n).2 cx o6;have evo:Evo U (U.setArr n (U.ra n) U.M rows.length U.w):=Evo.setArr (.inr ⟨_,hln,w6 _,λ_=>rfl⟩) (λb o hb hM=>⟨hb,hM⟩) (w6 _) (SameO.refl _);refine⟨_,_,U.setArr n (U.ra n) U.M rows.length U.w,hrun,⟨evo,?_,rfl,λm hm=>hm.elim .inl (λe=>.inl (e▸ha.1))⟩,?_⟩
    ·simp only[A05,A10,A02];refine h.setArr evo (λx hx _=>⟨hx,rfl⟩) (ha.keep evo (by simp[Cf.setArr]) λ_ _ _ _ _ _ hM=>⟨hM,rfl⟩) (λ_ b o cap h1 h2=>.inl (.inr ⟨rfl,⟨_,_,_,hn⟩,o,cap,h1,h2⟩)) h.lt (w6 _)
    ·simp[Rep,Cf.setArr,Bp]
   ·by_cases hcap:rows.length+rx.length<=(U.ra n).2
    ·
     obtain⟨xb,cx,news,x1,x2,x3,x4,x5,x6,xpu⟩:=Kf h hsr hvx hrx;have hpos:0<rx.length:=by grind
     obtain⟨a1,a2,hpu,a3⟩:=ha;rcases a3 with⟨a,a3,_⟩|⟨b,o,cap,a3,a4,a5,a6,a7,_⟩
     ·grind
     obtain⟨hMb,cs,T,hcs,hfit⟩:=a7 rfl;rw[a3]at hcap hvs o3 o6;simp only at hcap hvs o3 o6;subst hvs x1;have hfit':o+rows.length*i.size+news.length<=cs.size:=by rw[x6];have:(rows.length+rx.length)*i.size<=cap*i.size:=A46 _ hcap;rw[Nat.add_mul]at this;omega
     have hrun:=SO (P:=P) (w:=U.w) t ty e i ht hi (b:=b) (o:=o) x4 rows.length rx.length cap cx x6 x3 hcs hfit' hcap;have evo:Evo U (U.setArr n (some ⟨b,o,none⟩,cap) U.M (rows++rx).length (Fr U.w b (o+rows.length*i.size) news)):=by
      refine Evo.setArr (.inr ⟨_,hln,by simp,λe=>?_⟩) (λc ob hb hM=>⟨?_,hM⟩) (by rw[DP];exact w6 _) (HC _ _ _ _)
      ·simp at e;exact absurd (by simp[e]) hrx0
      ·rw[C2 (λ(e:c=b)=>hM (by rw[e];exact hMb))];exact hb
     obtain⟨ds,d1,d2,d3⟩:=Gj news (o+rows.length*i.size) U.w cs hcs;have hown:Owns U hp (true,n) b:=.inr ⟨rfl,⟨_,_,_,hn⟩,o,cap,a3,a4⟩;refine⟨_,_,U.setArr n (some ⟨b,o,none⟩,cap) U.M (rows++rx).length (Fr U.w b (o+rows.length*i.size) news),hrun,⟨evo,?_,rfl,λm hm=>hm.elim .inl (λe=>.inl (e▸a1))⟩,by simp[Rep,Cf.setArr,Bp]⟩;refine h.setArr evo (λx hx hno=>⟨hx,C2 (λ(e:x=b)=>hno (by rw[e];exact hown)) _ _ _⟩) ⟨.inr rfl,a2,λe r hr=>(y7.1 hr).elim (hpu e r) (xpu r),.inr ⟨b,o,cap,by simp[Cf.setArr],a4,by simpa using hcap,?_,λ_=>⟨hMb,ds,T,d1,by rw[d2];exact hfit⟩,by simp⟩⟩
      (λ_ b' o' cap' h1 h2=>.inl (by grind)) (λc hc=>by rw[DP];exact h.lt c hc) (by rw[DP];exact w6 _)
     obtain⟨olds',p1,p2,p3,p4,p5⟩:=GS a6;have hlen:=p5;refine DQ (vs:=olds'++news) (by simpa using Dz (p1.mono evo) (x2.mono evo)) (λy hy=>(y7.1 hy).elim (p2 y) (x3 y)) (λj v hj=>?_) (λr hr=>(y7.1 hr).elim (p4 r) (x5 r));have hjl:=(y5.1 hj).1;simp only[w9]at hjl;simp only[Cf.setArr,World.cell?,d1,A50,if_false,yF];rw[d3];by_cases hjo:j<olds'.length
     ·rw[t7 (by omega)];rw[A31 hjo]at hj;have:=p3 j v hj;simpa[World.cell?,hcs]using this
     grind
    ·obtain⟨v,w',σ',g1,g2,g3⟩:=grown (U.ra n).1 (U.ra n).2 rows olds d n o1 o2 o3 o4 ha.2.2.1 o5 hrx0 hvx hb (by omega) hvs (.inr hln);exact⟨v,w',σ',g1,⟨g2.evo,g2.inv,g2.w,λm hm=>(g2.al m hm).elim .inl (λe=>.inl (e▸ha.1))⟩,g3⟩
  ·simp at hex
 ·
  rename_i zz full rows d;simp only[yE,A57]at hex;obtain⟨rfl,rfl,rfl⟩:=hex;obtain⟨hvx,hzz,rfl,hb⟩:=hvc;obtain⟨base,cap,olds,h1,h2,h3,h4,h5,h6,h7,h8,h9,hpu⟩:=Mn hrs;have hcap:=h3 rfl;have hrl:∀r∈rows,r.length=i.size:=by grind
  have hol:olds.length=rows.length*i.size:=by grind
  by_cases hrx0:rx=[]
  ·obtain⟨xb,cx,news,x1,_⟩:=Kf h hsr hvx hrx;have hrun:=Lr (P:=P) (w:=U.w) (sb:=base) (xb:=xb) t ty e i ht hi rows.length cap cx h2;obtain⟨σ',g1,g2⟩:=h.alias hnm hs0 (rows:=rows) (d:=bif d.isEmpty then zs else d) (base:=base) hcap hpu (by
    rcases h9 with h9|⟨b,o,k1,k2,k3⟩
    ·exact .inl h9
    ·exact .inr ⟨b,o,k1,k2,DQ h4 h5 k3 hrl⟩)
   grind
  ·have hpos:0<rx.length:=by grind
   obtain⟨v,w',σ',g1,g2,g3⟩:=grown base cap rows olds (bif d.isEmpty then zs else d) nm h4 h5 h6 hrl (λ_=>hpu) hol hrx0 hvx hb (by omega) h1 (.inl rfl);grind
 ·simp at hex
theorem HInv.frz1{U:Cf}{hp:Hp}(h:HInv U hp){n:Nm}{sz:Nat}{live:Bool}{rows:List (List AV)}{d:List AV}(hn:hl hp (.a n)=some (.sl sz live rows d)):Evo U (U.setArr n (U.ra n) (λb=>U.M b/\¬Owns U hp (true,n) b) rows.length U.w)/\HInv (U.setArr n (U.ra n) (λb=>U.M b/\¬Owns U hp (true,n) b) rows.length U.w) ((.a n,.sl sz false rows d)::hp):=by
 have hln:=by have:=h.ln n;simpa[lenOf,hn]using this
 have e:Evo U (U.setArr n (U.ra n) (λb=>U.M b/\¬Owns U hp (true,n) b) rows.length U.w):=Evo.setArr (by grind) (by grind) (w6 _) (SameO.refl _);refine⟨e,h.setArr e (by grind) ?_ (by simp) (λb hb=>h.lt b hb.1) (w6 _) (by grind)⟩;obtain⟨h1,h2,hp',h3⟩:=h.arr n sz live rows d hn;refine⟨.inr rfl,h2,hp',?_⟩;rcases h3 with⟨a,h3,h4⟩|⟨b,o,cap,h3,h4,h5,h6,h7,h8⟩
 ·simp_all[Cf.setArr]
 ·refine .inr ⟨b,o,cap,by simp[Cf.setArr,h3],h4,h5,h6.keep e λ_ _ _ hx=>hx,by simp,λ_=>?_⟩;cases live with
  |true=>obtain⟨g1,cs,T,g2,_⟩:=h7 rfl;refine⟨λk=>k.2 (.inr ⟨rfl,⟨sz,rows,d,hn⟩,o,cap,h3,h4⟩),?_,(u0.1 g2).1⟩;exact λhO=>h.dis b g1 hO
  |false=>exact e.fz (h8 rfl)
theorem HInv.frz{U:Cf}{hp:Hp}(h:HInv U hp):∀ns:List Nm,∃σ',Evo U σ'/\HInv σ' (frz hp ns++hp)/\σ'.w=U.w/\(∀m,σ'.al m->U.al m)/\(∀b,σ'.M b->U.M b)/\(∀m,σ'.ra m=U.ra m)/\(∀n∈ns,∀b,Owns U hp (true,n) b->¬σ'.M b)/\(∀n sz live rows d,hl hp (.a n)=some (.sl sz live rows d)->∃live',hl (frz hp ns++hp) (.a n)=some (.sl sz live' rows d)/\(n∈ns->live'=false))
 |[]=>⟨U,Evo.refl U,by simpa[Am.frz]using h,rfl,λ_ h=>h,λ_ h=>h,λ_=>rfl,by simp,λn sz live rows d hn=>⟨live,by simpa[Am.frz]using hn,by simp⟩⟩
 |n::ns=>by
  obtain⟨σ1,e1,h1,w1,a1,m1,r1,o1,l1⟩:=HInv.frz h ns;simp only[Am.frz];split
  ·rename_i sz live rows d hn;obtain⟨live',hn',_⟩:=l1 n sz live rows d hn;obtain⟨e2,h2⟩:=h1.frz1 hn';refine⟨_,e1.trans e2,h2,w1,λm hm=>?_,λb hb=>m1 b hb.1,λm=>?_,λm hm b hb=>?_,λm sz2 live2 rows2 d2 hm=>?_⟩
   ·rcases hm with hm|rfl
    ·exact a1 m hm
    ·exact(h.arr m sz live rows d hn).1
   ·simp only[Cf.setArr];grind
   ·rintro⟨k1,k2⟩;rcases y6.1 hm with rfl|hm
    ·rcases hb with⟨c,_⟩|⟨_,⟨sz3,rows3,d3,hb1⟩,o3,cap3,hb2,hb3⟩
     ·cases c
     ·cases live' with
      |true=>exact k2 (.inr ⟨rfl,⟨_,_,_,hn'⟩,o3,cap3,by rw[r1];exact hb2,hb3⟩)
      |false=>
       obtain⟨_,_,_,k⟩:=h1.arr m sz false rows d hn';rcases k with⟨a,k,_⟩|⟨b4,o4,cap4,k,_,_,_,_,k8⟩
       ·grind
       ·rw[r1,hb2]at k;have:=congrArg Prod.fst k;simp at this;rw[this.1]at k1;exact(k8 rfl).1 k1
    ·exact o1 m hm b hb k1
   ·by_cases e:n=m
    ·subst e;rw[hn]at hm;obtain⟨rfl,rfl,rfl,rfl⟩:=hm;exact⟨false,by simp[hl],λ_=>rfl⟩
    ·obtain⟨live3,hm3,hm4⟩:=l1 m sz2 live2 rows2 d2 hm;refine⟨live3,?_,λhmem=>hm4 ?_⟩
     ·simp only[A10,hl,Loc.a.injEq,t7 e];exact hm3
     grind
  ·rename_i hno;refine⟨σ1,e1,h1,w1,a1,m1,r1,λm hm b hb=>?_,λm sz2 live2 rows2 d2 hm=>?_⟩
   ·rcases y6.1 hm with rfl|hm
    ·rcases hb with⟨c,_⟩|⟨_,⟨sz3,rows3,d3,hb1⟩,_⟩
     ·cases c
     ·exact absurd hb1 (hno _ _ _ _)
    ·exact o1 m hm b hb
   grind
theorem O3{U Z:Cf}{hp:Hp}(h:HInv U hp)(e:Evo U Z)(hw:Z.w=U.w){n:Nm}{l sz:Nat}{live:Bool}{rows:List (List AV)}{d:List AV}{v:Value}(hs:GG n=false)(hn:hl hp (.a n)=some (.sl sz live rows d))(hlen:l=rows.length)(hr:Rep U (.own n l) v)(hM:∀b,Owns U hp (true,n) b->¬Z.M b):Rep Z (.sl sz false rows d) v:=by
 have hv:=Hb h hn hr hlen;subst hv;obtain⟨h1,h2,hpu,h3⟩:=h.arr n sz live rows d hn;have hpu:=hpu hs;simp only[Rep];rcases h3 with⟨a,h3,h4⟩|⟨b,o,cap,h3,h4,h5,h6,h7,h8⟩
 ·grind
 ·refine⟨_,cap,by rw[h3],h5,by simp,hpu,.inr ⟨b,o,rfl,?_,h6.keep e λ_ _ _ hx=>by rw[hw];exact hx⟩⟩;cases live with
  |true=>obtain⟨g1,cs,T,g2,_⟩:=h7 rfl;refine⟨hM b (.inr ⟨rfl,⟨sz,rows,d,hn⟩,o,cap,h3,h4⟩),?_,by grind⟩;rw[e.out];exact λhO=>h.dis b g1 hO
  |false=>exact e.fz (h8 rfl)
theorem HD{hp:Hp}{n:Nm}:∀(k o j:Nat)(c:AV),(CF hp n o k)[j]? =some c->hl hp (.c n (o+j))=some c/\isM c=false
 |0,o,j,c,h=>by simp[CF]at h
 |k+1,o,j,c,h=>by
  simp only[CF]at h;split at h
  ·rename_i c0 hc0;cases hm:isM c0 with
   |true=>rw[hm]at h;simp at h
   |false=>
    rw[hm,A12]at h;cases j with
    |zero=>grind
    |succ j=>have:=HD k (o+1) j c (by simpa using h);grind
  ·simp at h
theorem Qo{hp:Hp}{n:Nm}(k o j:Nat)(c:AV)(h:(CF hp n o k)[j]? =some c):hl hp (.c n (o+j))=some c:=(HD k o j c h).1
theorem R5{hp:Hp}:∀{cs:List AV}(_:LX hp cs)(j:Nat)(c:AV),cs[j]? =some c->PR hp c
 |[],_,j,c,h=>by simp at h
 |c0::cs,hv,j,c,h=>by
  simp only[LX]at hv;cases j with
  |zero=>grind
  |succ j=>exact R5 hv.2 j c (by simpa using h)
mutual
theorem L0{U Z:Cf}{hp:Hp}(h:HInv U hp)(e:Evo U Z)(hw:Z.w=U.w)(hM:∀b,¬Z.M b):∀(x:AV)(v:Value),FI hp x->Rep U x v->Rep Z (res hp x) v
 |.own n l,v,hv,hr=>by
  simp only[FI]at hv;simp only[res];cases hs:GG n with
  |true=>simp[Rep]
  |false=>
  rw[A12];split at hv
  ·rename_i sz live rows d hn;exact O3 h e hw hs hn hv hr λb _=>hM b
  ·exact hv.elim
 |.box n o,v,hv,hr=>by
  simp only[FI]at hv;obtain⟨hv1,hv2,hv3⟩:=hv;simp only[Rep]at hr;simp only[res,Rep];have hne:∃c,hl hp (.c n 0)=some c/\isM c=false:=by
   cases hb:CF hp n 0 40 with
   |nil=>simp[hb]at hv3
   |cons c cs=>exact⟨c,by simpa using HD 40 0 0 c (by simp[hb])⟩
  obtain⟨c0,hc0,hm0⟩:=hne;obtain⟨k1,k2,cs0,T0,x0,k3,k4,_⟩:=(h.cel n 0 c0 hc0).cells hm0;refine⟨U.rb n,0,by rw[hr.2];simp,⟨hM _,by rw[e.out];exact h.dis _ k2,by rw[hw];exact h.lt _ k2⟩,hv2,?_⟩;refine Fi λj c hc=>?_
  rw[A07]at hc;cases hb:(CF hp n 0 40)[j]? with
  |none=>simp[hb]at hc
  |some c'=>
   simp[hb]at hc;have hlc:=Qo 40 0 j c' hb;obtain⟨g1,g2,cs,T,x,g3,g4,g5,g6⟩:=(h.cel n _ c' hlc).cells2 k3;refine⟨x,by rw[hw];simp[World.cell?,g3];simpa using g4,g5,?_⟩;subst hc;have hrv:=R5 hv1 j c' hb;cases c' with
   |own m l=>
    simp only[PR]at hrv;simp only[MT];cases hs:GG m with
    |true=>simp[Rep]
    |false=>
    rw[A12];split at hrv
    ·rename_i sz live rows d hn;exact O3 h e hw hs hn hrv g6 λb _=>hM b
    ·exact hrv.elim
   |_=>exact g6.mono e
 |.agg cs,v,hv,hr=>by simp only[FI]at hv;simp only[Rep,res]at hr⊢;obtain⟨xs,h1,h2,h3⟩:=hr;exact⟨xs,h1,h2,Hc h e hw hM cs xs hv h3⟩
 |.tup cs,v,hv,hr=>by simp only[FI]at hv;simp only[Rep,res]at hr⊢;obtain⟨xs,h1,h3⟩:=hr;exact⟨xs,h1,Hc h e hw hM cs xs hv h3⟩
 |.clo f as bs,v,hv,hr=>by simp only[FI]at hv;simp only[Rep,res]at hr⊢;obtain⟨xs,ys,h1,h2,h3⟩:=hr;exact⟨xs,ys,h1,Hc h e hw hM as xs hv.1 h2,Hc h e hw hM bs ys hv.2 h3⟩
 |.v x,v,_,hr=>by simp only[res];exact hr.mono e
 |.sl a b c d,v,_,hr=>by simp only[res];exact hr.mono e
 |.ro a b,v,_,hr=>by simp only[res];exact hr.mono e
 |.elem a b c d x,v,_,hr=>by simp only[res];exact hr.mono e
 |.gd a b,v,_,hr=>by simp only[res];exact hr.mono e
 |.mp n,v,_,_=>by simp[res,Rep]
 |.un,v,_,_=>by simp[res,Rep]
theorem Hc{U Z:Cf}{hp:Hp}(h:HInv U hp)(e:Evo U Z)(hw:Z.w=U.w)(hM:∀b,¬Z.M b):∀(xs:List AV)(vs:List Value),E2 hp xs->RepL U xs vs->RepL Z (EP hp xs) vs
 |[],vs,_,hr=>by simpa[RepL,EP]using hr
 |x::xs,vs,hv,hr=>by simp only[E2]at hv;simp only[RepL,EP]at hr⊢;obtain⟨y,ys,h1,h2,h3⟩:=hr;exact⟨y,ys,h1,L0 h e hw hM x y hv.1 h2,Hc h e hw hM xs ys hv.2 h3⟩
end
mutual
theorem O4{U Z:Cf}{hp:Hp}(h:HInv U hp)(e:Evo U Z)(hw:Z.w=U.w)(L:List Nm)(hM:∀n∈L,∀b,Owns U hp (true,n) b->¬Z.M b):∀(x:AV)(v:Value),FI hp x->Km x=true->(∀n∈Fl x,n∈L)->Rep U x v->Rep Z (res hp x) v
 |.own n l,v,hv,_,hL,hr=>by
  simp only[FI]at hv;simp only[res];cases hs:GG n with
  |true=>simp[Rep]
  |false=>
  rw[A12];split at hv
  ·rename_i sz live rows d hn;exact O3 h e hw hs hn hv hr λb hb=>hM n (hL n (by simp[Fl])) b hb
  ·exact hv.elim
 |.box n o,v,_,hb,_,_=>by simp[Km]at hb
 |.agg cs,v,hv,hb,hL,hr=>by simp only[FI]at hv;simp only[Rep,res]at hr⊢;obtain⟨xs,h1,h2,h3⟩:=hr;exact⟨xs,h1,h2,Hd h e hw L hM cs xs hv (by simpa[Km]using hb) (by simpa[Fl]using hL) h3⟩
 |.tup cs,v,hv,hb,hL,hr=>by simp only[FI]at hv;simp only[Rep,res]at hr⊢;obtain⟨xs,h1,h3⟩:=hr;exact⟨xs,h1,Hd h e hw L hM cs xs hv (by simpa[Km]using hb) (by simpa[Fl]using hL) h3⟩
 |.clo f as bs,v,hv,hb,hL,hr=>by simp only[FI]at hv;simp only[Km,y8]at hb;simp only[Rep,res]at hr⊢;obtain⟨xs,ys,h1,h2,h3⟩:=hr;exact⟨xs,ys,h1,Hd h e hw L hM as xs hv.1 hb.1 (λn hn=>hL n (by simp[Fl,hn])) h2,Hd h e hw L hM bs ys hv.2 hb.2 (λn hn=>hL n (by simp[Fl,hn])) h3⟩
 |.v x,v,_,_,_,hr=>by simp only[res];exact hr.mono e
 |.sl a b c d,v,_,_,_,hr=>by simp only[res];exact hr.mono e
 |.ro a b,v,_,_,_,hr=>by simp only[res];exact hr.mono e
 |.elem a b c d x,v,_,_,_,hr=>by simp only[res];exact hr.mono e
 |.gd a b,v,_,_,_,hr=>by simp only[res];exact hr.mono e
 |.mp n,v,_,hb,_,_=>by simp[Km]at hb
 |.un,v,_,_,_,_=>by simp[res,Rep]
theorem Hd{U Z:Cf}{hp:Hp}(h:HInv U hp)(e:Evo U Z)(hw:Z.w=U.w)(L:List Nm)(hM:∀n∈L,∀b,Owns U hp (true,n) b->¬Z.M b):∀(xs:List AV)(vs:List Value),E2 hp xs->F0 xs=true->(∀n∈Dy xs,n∈L)->RepL U xs vs->RepL Z (EP hp xs) vs
 |[],vs,_,_,_,hr=>by simpa[RepL,EP]using hr
 |x::xs,vs,hv,hb,hL,hr=>by simp only[E2]at hv;simp only[F0,y8]at hb;simp only[RepL,EP]at hr⊢;obtain⟨y,ys,h1,h2,h3⟩:=hr;exact⟨y,ys,h1,O4 h e hw L hM x y hv.1 hb.1 (λn hn=>hL n (by simp[Dy,hn])) h2,Hd h e hw L hM xs ys hv.2 hb.2 (λn hn=>hL n (by simp[Dy,hn])) h3⟩
end
def Gl(U:Cf):Prop:=∀b j,j<(GT b).length->Fz U b/\U.w.cell? ⟨b,j,none⟩=some (.int .i64 ((GT b).getD j 0))
theorem Gl.mono{U σ':Cf}(h:Gl U)(e:Evo U σ'):Gl σ':=λb j hj=>⟨e.fz (h b j hj).1,e.cell (h b j hj).1.1 (h b j hj).2⟩
theorem M0{b:Nat}:∀(k o:Nat),(It b o k).length=k
 |0,_=>rfl
 |k+1,o=>by simp[It,M0 k]
theorem Qp{b:Nat}:∀(k o j:Nat),j<k->(It b o k)[j]? =some (.i ((GT b).getD (o+j) 0))
 |0,_,_,h=>by omega
 |k+1,o,0,_=>by simp[It]
 |k+1,o,j+1,h=>by simp only[It,List.getElem?_cons_succ];rw[Qp k (o+1) j (by omega),show o+1+j=o+(j+1) by omega]
theorem Gl.cells{U:Cf}(h:Gl U){b o k:Nat}(hl:o+k<=(GT b).length):RepCells U b o (It b o k):=Fi λj c hc=>by
 have hj:j<k:=by have:=(y5.1 hc).1;rwa [M0]at this
 rw[Qp k o j hj]at hc;cases hc
 exact⟨_,(h b (o+j) (by omega)).2,rfl,by simp[Rep]⟩
def PCall(P:Program)(f:Nat)(args:List AV)(r:AV):Prop:=∀(U:Cf)(vs:List Value),Gl U->(∀b,U.M b\/U.O b->b<U.w.heap.size)->AA args=true->RepL U args vs->Calls P f vs.toArray U.w λe w'=>∃v,e=.returned v/\(∀(b:Nat)(o:Obj),U.w.heap[b]? =some o->w'.heap[b]? =some o)/\SameO U.w w'/\BN r=true/\Rep (U.at w') r v
def C0(P:Program)(f:Nat):Prop:=∃fn,P.funcs[f]? =some fn/\fn.body.isNone=false/\(fn.name== "runtime.NumGoroutine")=false
def S0(P:Program)(f:Nat)(n:Nm)(args cells:List AV)(r:AV)(us:List (Nat×AV)):Prop:=∀(U:Cf)(vs:List Value),Gl U->HInv U (D6 n 0 cells)->(∀m,U.al m->m=n)->RepL U args vs->Calls P f vs.toArray U.w λe w'=>∃v σ',e=.returned v/\σ'.w=w'/\Evo U σ'/\(∀j c,hl (I1 n us++D6 n 0 cells) (.c n j)=some c->CelF σ' n j c)/\Rep σ' r v
def Qq(P:Program)(f:Nat)(n:Nm)(args cells:List AV)(p:Value):Prop:=∀(U:Cf)(vs:List Value),Gl U->HInv U (D6 n 0 cells)->(∀m,U.al m->m=n)->RepL U args vs->Calls P f vs.toArray U.w λe w'=>∃σ',e=.panicked [⟨p,false,false⟩]/\σ'.w=w'/\Evo U σ'/\(∀j c,hl (D6 n 0 cells) (.c n j)=some c->CelF σ' n j c)
def H7(P:Program)(f:Nat)(args vs:List AV)(r:AV):Prop:=∀(U:Cf)(hp:Hp)(xs:List Value),Gl U->HInv U hp->(∃c,∀m,U.al m->m.2<=c)->RepL U args xs->args.map (qv hp)=vs->Calls P f xs.toArray U.w λe w'=>∃v σ',e=.returned v/\σ'.w=w'/\Evo U σ'/\HInv σ' hp/\(∀m,σ'.al m->U.al m)/\Rep σ' r v
structure KeptB(b:Nat)(w w':World):Prop where
 heap:∀x,x<w.heap.size->x≠b->w'.heap[x]? =w.heap[x]?
 sz:w.heap.size<=w'.heap.size
 io:SameO w w'
theorem KeptB.trans{b:Nat}{u v w:World}(h:KeptB b u v)(k:KeptB b v w):KeptB b u w:=⟨λx hx hb=>(k.heap x (A20 hx h.sz) hb).trans (h.heap x hx hb),A09 h.sz k.sz,h.io.trans k.io⟩
theorem KeptB.drew(b:Nat)(w:World):KeptB b w w.drew:=⟨λ_ _ _=>rfl,w6 _,⟨rfl,rfl⟩⟩
theorem KeptB.cells(b:Nat):∀(vs:List Value)(o:Nat)(w:World),KeptB b w (w.setCells b o vs)/\(w.setCells b o vs).heap.size=w.heap.size
 |[],o,w=>⟨⟨λ_ _ _=>rfl,w6 _,⟨rfl,rfl⟩⟩,rfl⟩
 |v::vs,o,w=>by
  have h0:KeptB b w (w.setCell ⟨b,o,none⟩ v):=⟨λx _ hb=>by simp[World.setCell,Array.getElem?_modify,Ne.symm hb],by simp[World.setCell],⟨rfl,rfl⟩⟩
  obtain⟨h1,h2⟩:=KeptB.cells b vs (o+1) (w.setCell ⟨b,o,none⟩ v);rw[World.setCells];exact⟨h0.trans h1,by rw[h2];simp[World.setCell]⟩
def Kg(P:Program)(f sz:Nat)(rows:List (List AV))(ax:List AV)(rows':List (List AV)):Prop:=∀(U:Cf)(vs vals:List Value)(base:Option Addr)(b o cap:Nat),Gl U->(∀x,U.M x\/U.O x->x<U.w.heap.size)->RepL U ax vs->RepL U rows.flatten vals->(∀x∈vals,Bp x=true)->vals.length=rows.length*sz->rows.length<=cap->(base=some ⟨b,o,none⟩/\0<cap/\Lies U.w b o vals/\U.M b/\(∃cs T,U.w.heap[b]? =some (.cells cs T (0,0))/\o+cap*sz<=cs.size)\/cap=0/\U.w.heap.size<=b)->Calls P f (.slice base rows.length cap::vs).toArray U.w λe w'=>∃(b' o' cap':Nat)(vals':List Value),e=.returned (.slice (some ⟨b',o',none⟩) rows'.length cap')/\rows'.length<=cap'/\KeptB b U.w w'/\(b'=b\/U.w.heap.size<=b')/\b'<w'.heap.size/\Lies w' b' o' vals'/\RepL U rows'.flatten vals'/\∀x∈vals',Bp x=true
def GCall(P:Program)(f:Nat)(args:List AV)(ws:Nm->Hp)(g:Nm->AV):Prop:=∀(U:Cf)(hp:Hp)(vs:List Value)(nm:Nm),Gl U->HInv U hp->¬U.al nm->AA args=true->RepL U args vs->Calls P f vs.toArray U.w λe w'=>∃v σ',e=.returned v/\Next U nm (ws nm++hp) w' σ'/\Rep σ' (g nm) v
def O5(P:Program)(f:Nat)(args vs:List AV)(p:Value):Prop:=∀(U:Cf)(hp:Hp)(xs:List Value),Gl U->HInv U hp->(∃c,∀m,U.al m->m.2<=c)->RepL U args xs->args.map (qv hp)=vs->Calls P f xs.toArray U.w λe w'=>∃σ',e=.panicked [⟨p,false,false⟩]/\σ'.w=w'/\Evo U σ'/\HInv σ' hp/\∀m,σ'.al m->U.al m
structure TabOK(P:Program)(S:Tab):Prop where
 f:∀f args vc r,S f args=some (vc,r)->vc->C0 P f/\PCall P f args r
 e:∀f args cells vc r us n,S.e f args cells=some (vc,r,us)->vc->Fh args=some n->C0 P f/\S0 P f n args cells r us
 p:∀f args cells vc v n,S.p f args cells=some (vc,v)->vc->Fh args=some n->C0 P f/\Qq P f n args cells v
 q:∀f args vs vc r,S.q f args vs=some (vc,r)->vc->C0 P f/\H7 P f args vs r
 k:∀f args vc ws g,S.k f args=some (vc,ws,g)->vc->C0 P f/\GCall P f args ws g
 y:∀f args vs vc v,S.y f args vs=some (vc,v)->vc->C0 P f/\O5 P f args vs v
 o:∀f sz rows ax vc rows',S.o f sz rows ax=some (vc,rows')->vc->C0 P f/\Kg P f sz rows ax rows'/\∀r∈rows',r.length=sz/\AA r=true
def TInv(U:Cf)(env:Ar)(a:Act):Prop:=∀t,Rep U (lk env t) (a.tmps.getD t undef)
def Step(P:Program)(o:Oper)(a:Act)(U:Cf)(nm:Nm)(hp':Hp)(r:AV):Prop:=(∃v w' σ',((execOp a.eval o).run P U.w=.ok (.value v) w'\/((execOp a.eval o).run P U.w=.ok .skip w'/\v=undef))/\Next U nm hp' w' σ'/\Rep σ' r v)\/(∃f args,(execOp a.eval o).run P U.w=.ok (.enter f args) U.w/\Calls P f args U.w λe w'=>∃v σ',e=.returned v/\Next U nm hp' w' σ'/\Rep σ' r v)
theorem Next.same{U:Cf}{nm:Nm}{hp:Hp}(h:HInv U hp):Next U nm ([]++hp) U.w U:=⟨Evo.refl U,h,rfl,λ_ h=>.inl h⟩
theorem Step.quiet{P:Program}{o:Oper}{a:Act}{U:Cf}{nm:Nm}{hp:Hp}{r:AV}{v:Value}(h:HInv U hp)(hr:(execOp a.eval o).run P U.w=.ok (.value v) U.w)(hv:Rep U r v):Step P o a U nm ([]++hp) r:=.inl ⟨v,U.w,U,.inl hr,Next.same h,hv⟩
theorem IT{U:Cf}{g:Bool}(hg:g=true){x:AV}{v:Value}(h:Rep U x v):Rep U (Ay g x) v:=by
 unfold Ay;split
 ·rename_i b y;simp only[Rep]at h;cases hb:imp g b with
  |true=>simp_all
  |false=>simp[Rep]
 ·exact h
def IU:Value->AV|.slice none 0 0=>.sl 0 true [] []|v=>.v v
def Tk:Value->AV|.agg cs=>if cs.toList.all Bp=true then .agg (cs.toList.map IU)else .v (.agg cs)|v=>IU v
theorem MA(U:Cf)(v:Value):Rep U (IU v) v:=by
 unfold IU;split
 ·simp[Rep]
 ·simp[Rep]
theorem Lt(U:Cf):∀xs:List Value,RepL U (xs.map IU) xs
 |[]=>by simp[RepL]
 |x::xs=>⟨x,xs,rfl,MA U x,Lt U xs⟩
theorem kS(U:Cf)(v:Value):Rep U (Tk v) v:=by
 unfold Tk;split
 ·split
  ·rename_i cs h;simp only[Rep];exact⟨cs.toList,by simp,List.all_eq_true.1 h,Lt U _⟩
  ·simp[Rep]
 ·exact MA U v
def Al:Operand->Opd|.tmp t=>.t t|.const v=>.k (Tk v)|.global g=>.k (.v (.pointer (some ⟨g,0,none⟩)))|.func f=>.k (.clo (.func f) [] [])
theorem O6{U:Cf}{env:Ar}{a:Act}(h:TInv U env a)(x:Operand):Rep U (Ax env (Al x)) (a.eval x):=by
 cases x with
 |tmp t=>exact h t
 |const v=>exact kS U v
 |global g=>simp[Al,Ax,Act.eval,Rep]
 |func f=>simp[Al,Ax,Act.eval,Rep,RepL]
theorem EZ{U:Cf}{env:Ar}{a:Act}{g:Bool}(hg:g=true)(h:TInv U env a)(x:Operand):Rep U (Ay g (Ax env (Al x))) (a.eval x):=IT hg (O6 h x)
theorem F2{U:Cf}{env:Ar}{a:Act}{g:Bool}(hg:g=true)(h:TInv U env a):∀xs:List Operand,RepL U ((xs.map Al).map λx=>Ay g (Ax env x)) (xs.map a.eval)
 |[]=>by simp[RepL]
 |x::xs=>⟨_,_,rfl,EZ hg h x,F2 hg h xs⟩
theorem M1{k:IntKind}{n:Int}(h:R2 k n):k.wrap n=n:=by cases k<;>first|exact IntWalk.i64_in n h|exact h
theorem NX{U:Cf}{x:AV}{cs:List AV}{v:Value}(hc:x.cells=some cs)(hr:Rep U x v):RepL U cs v.cells.toList/\∀y∈v.cells.toList,Bp y=true:=by
 have one:∀(y:AV),Rep U y v->Bp v=true->RepL U [y] v.cells.toList/\∀z∈v.cells.toList,Bp z=true:=by
  intro y hy h1;have:v.cells.toList=[v]:=by cases v<;>simp_all [Value.cells,Bp]
  rw[this];exact⟨⟨v,[],rfl,hy,rfl⟩,by simpa using h1⟩
 cases x with
 |agg ds=>simp only[AV.cells,yE]at hc;subst hc;simp only[Rep]at hr;obtain⟨xs,rfl,h1,h2⟩:=hr;exact⟨by simpa[Value.cells]using h2,by simpa[Value.cells]using h1⟩
 |v y=>
  simp only[AV.cells]at hc;split at hc
  ·rename_i h1;simp at hc;subst hc;have:v=y:=by simpa[Rep]using hr
   subst this;exact one _ hr h1
  ·simp at hc
 |sl a b c d=>simp only[AV.cells,yE]at hc;subst hc;refine one _ hr ?_;simp only[Rep]at hr;obtain⟨_,_,rfl,_⟩:=hr;rfl
 |ro a b=>simp only[AV.cells,yE]at hc;subst hc;refine one _ hr ?_;simp only[Rep]at hr;obtain⟨_,_,rfl,_⟩:=hr;rfl
 |clo a b c=>simp only[AV.cells,yE]at hc;subst hc;refine one _ hr ?_;simp only[Rep]at hr;obtain⟨_,_,rfl,_⟩:=hr;rfl
 |box a b=>simp only[AV.cells,yE]at hc;subst hc;refine one _ hr ?_;simp only[Rep]at hr;obtain⟨_,rfl⟩:=hr;rfl
 |own a b=>simp only[AV.cells,yE]at hc;subst hc;refine one _ hr ?_;simp only[Rep]at hr;exact hr.2.1
 |tup _=>simp[AV.cells]at hc
 |elem _ _ _ _ _=>simp[AV.cells]at hc
 |mp n=>simp only[AV.cells,yE]at hc;subst hc;refine one _ hr ?_;simp only[Rep]at hr;obtain⟨_,rfl⟩:=hr;rfl
 |gd _ _=>simp[AV.cells]at hc
 |un=>simp[AV.cells]at hc
theorem PT{hp:Hp}{n:Nm}:∀{k o:Nat}{cs:List AV},G8 hp n o k=some cs->∀(j:Nat)(c:AV),cs[j]? =some c->isM c=false
 |0,o,cs,hc,j,c,hj=>by simp[G8]at hc;subst hc;simp at hj
 |k+1,o,cs,hc,j,c,hj=>by
  simp only[G8]at hc;split at hc
  ·rename_i c' hl';cases hm:isM c' with
   |true=>rw[hm]at hc;cases hc
   |false=>
    rw[hm,A12]at hc;cases hk:G8 hp n (o+1) k with
    |none=>simp[hk]at hc
    |some ds=>
     simp[hk]at hc;subst hc;cases j with
     |zero=>simp at hj;subst hj;exact hm
     |succ j=>exact PT hk j c (by simpa using hj)
  ·simp at hc
theorem R6{U:Cf}{hp:Hp}(h:HInv U hp){n:Nm}:∀{k o:Nat}{cs:List AV},G8 hp n o k=some cs->∃vs,RepL U cs vs/\(∀x∈vs,Bp x=true)/\Lies U.w (U.rb n) o vs/\vs.length=k
 |0,o,cs,hc=>by simp[G8]at hc;subst hc;exact⟨[],by simp[RepL],by simp,by intro j v hj;simp at hj,rfl⟩
 |k+1,o,cs,hc=>by
  simp only[G8]at hc;split at hc
  ·rename_i c hl';cases hm:isM c with
   |true=>rw[hm]at hc;cases hc
   |false=>
   rw[hm,A12]at hc;cases hk:G8 hp n (o+1) k with
   |none=>simp[hk]at hc
   |some ds=>
    simp[hk]at hc;subst hc;obtain⟨vs,h1,h2,h3,h4⟩:=R6 h hk;obtain⟨_,_,ar,T,x,g3,g4,g5,g6⟩:=(h.cel n o c hl').cells hm;refine⟨x::vs,⟨x,vs,rfl,g6,h1⟩,λy hy=>(y6.1 hy).elim (λe=>e▸g5) (h2 y),λj v hj=>?_,by simp[h4]⟩;cases j with
    |zero=>simp at hj;subst hj;simp[World.cell?,g3,g4]
    |succ j=>have:=h3 j v (by simpa using hj);grind
  ·simp at hc
theorem PU:∀{o k:Nat}{cs ds:List AV},cut o k cs=some ds->(∀j,j<k->ds[j]? =cs[o+j]?)/\ds.length=k/\o+k<=cs.length
 |0,0,cs,ds,h=>by simp[cut]at h;subst h;simp
 |0,k+1,[],ds,h=>by simp[cut]at h
 |0,k+1,c::cs,ds,h=>by
  simp only[cut]at h;cases hk:cut 0 k cs with
  |none=>simp[hk]at h
  |some es=>simp[hk]at h;subst h;obtain⟨h1,h2,h3⟩:=PU hk;grind
 |o+1,k,[],ds,h=>by cases k<;>simp[cut]at h
 |o+1,k,c::cs,ds,h=>by simp only[cut]at h;obtain⟨h1,h2,h3⟩:=PU h;grind
theorem Tl{U:Cf}{cs ds:List AV}{xs:List Value}{o k:Nat}(hc:cut o k cs=some ds)(h:RepL U cs xs):∃vs,vs=(xs.drop o).take k/\RepL U ds vs/\vs.length=k:=by
 obtain⟨h1,h2,h3⟩:=PU hc;have hl:=Bx h;refine⟨_,rfl,My (by simp;omega) λi c hi=>?_,by simp;omega⟩;have hlt:i<k:=by grind
 rw[h1 i hlt]at hi;obtain⟨x,g1,g2⟩:=C1 h _ c hi;grind
def B8:TypeDesc->Bool|.struct _=>true|.array _ _=>true|_=>false
theorem L1{P:Program}{t:TypeId}{d:TypeDesc}(h:P.underlying t=some d)(w:World):(isAgg t).run P w=.ok (B8 d) w:=by unfold isAgg;simp only[Sem.run_bind,run_underlying h,Result.andThen];cases d<;>simp[B8]
theorem Ed{P:Program}{t:TypeId}{i:TypeInfo}(h:P.info? t=some i)(w:World):(sizeOf t).run P w=.ok i.size w:=by simp[sizeOf,typeInfo,h]
theorem aY{P:Program}{w:World}{a:Addr}{v:Value}(h:w.cell? a=some v):(load a).run P w=.ok v w:=by simp[load,Sem.run,h]
theorem Vh{P:Program}{t:TypeId}{d:TypeDesc}{i:TypeInfo}(hd:P.underlying t=some d)(hi:P.info? t=some i){w:World}{b o:Nat}{vs:List Value}(hl:Lies w b o vs)(hn:vs.length=i.size){U:Cf}{cs:List AV}{r:AV}(hr:RepL U cs vs)(h1:∀x∈vs,Bp x=true)(hm:FH (B8 d) cs=some r):∃v,(loadVar t ⟨b,o,none⟩).run P w=.ok v w/\Rep U r v:=by
 unfold loadVar;cases ha:B8 d with
 |true=>rw[ha]at hm;simp[FH]at hm;subst hm;refine⟨.agg vs.toArray,?_,by simp only[Rep];exact⟨vs,rfl,h1,hr⟩⟩;have hlc:=run_loadCells_list (P:=P) w ⟨b,o,none⟩ vs (λj v hj=>by rw[HN];exact hl j v hj);simp[L1 hd,ha,Ed hi,<-hn,hlc]
 |false=>
  rw[ha]at hm;cases cs with
  |nil=>simp[FH]at hm
  |cons c cs=>
   cases cs with
   |cons _ _=>simp[FH]at hm
   |nil=>simp[FH]at hm;subst hm;simp only[RepL]at hr;obtain⟨v,ys,rfl,hv,rfl⟩:=hr;refine⟨v,?_,hv⟩;have:=aY (P:=P) (hl 0 v (by simp));simp at this;simp[L1 hd,ha,this]
theorem L2{rows:List (List AV)}{d:List AV}{i:Nat}(h:i<rows.length):rows[i]? =some (DJ rows d i):=by simp[DJ,h]
