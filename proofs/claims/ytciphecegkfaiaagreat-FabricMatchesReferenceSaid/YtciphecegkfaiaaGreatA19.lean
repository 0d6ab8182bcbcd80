import Derived.Test.YtciphecegkfaiaaGreatProg
import Derived.Lib.Builder
import Derived.Lib.AppendZeros
import Derived.Lib.UnsafeStr
import Derived.Lib.Strings
import Derived.Lib.Walk
import Derived.Shelf.RegionOpenPlain
import Derived.Test.YtciphecegkfaiaaGreatA15
set_option linter.unusedVariables false
set_option linter.unusedSimpArgs false
namespace Go.Proofs.YtciphecegkfaiaaGreat.Am
section
open Go Go.RowKit
set_option maxHeartbeats 2000000
set_option maxRecDepth 100000
theorem XW:∃j,Tryz.prog.info? 172=some j/\j.size=2:=L9.1 (show(Tryz.prog.info? 172).map (·.size)=some 2 by kernel_rfl)
theorem tK:∃i,Tryz.prog.info? 5=some i/\i.zero=some (.int .u8 0)/\i.size=1/\i.bytes=1:=by
 have h:(Tryz.prog.info? 5).map (λi=>(i.zero,i.size,i.bytes))=some (some (.int .u8 0),1,1):=by kernel_rfl
 obtain⟨i,hi,h2⟩:=L9.1 h;simp only[Wt]at h2;exact⟨i,hi,h2⟩
theorem tL(b:Nat)(w:World)(h0:w.cell? ⟨b,0,none⟩=some (.pointer (some ⟨b,0,none⟩))):Calls Tryz.prog 186 #[.pointer (some ⟨b,0,none⟩)] w λe w'=>e=.returned (.tuple #[])/\w'=w:=by
 obtain⟨j,hj,_⟩:=XW
 go_enter Tryz.func186,Tryz.ntmps186
 go_wp2
 rw[Lib.run_neq_ptr_same w _ Tryz.underlying170 hj]
 go_wp2
 go_end0
 exact⟨rfl,rfl⟩
structure BT(T:TypeId):Prop where
 lies:liesAt Tryz.prog Tryz.prog.depth T (2/Tryz.prog.cellsOf T) 0 172 1=true
 ne:T≠5
theorem lE{T:TypeId}(hT:BT T)(b:Nat)(w:World)(h0:w.cell? ⟨b,0,none⟩=some (.pointer none))(hsh:w.shape? b=some (T,2))(hfz:w.frozen? ⟨b,0,none⟩=false):Calls Tryz.prog 186 #[.pointer (some ⟨b,0,none⟩)] w λe w'=>e=.returned (.tuple #[])/\w'=w.setCell ⟨b,0,none⟩ (.pointer (some ⟨b,0,none⟩)):=by
 obtain⟨j,hj,hjs⟩:=XW
 go_enter Tryz.func186,Tryz.ntmps186
 go_wp2
 rw[Lib.run_to_unsafe w ⟨b,0,none⟩ Tryz.underlying170 Tryz.underlying234 hj (by rw[hjs];decide) hsh (Nat.zero_lt_succ 1)];simp only[Result.andThen];rw[Oper.upon_value]
 go_wp2
 rw[run_callFunc_extern Tryz.func199 (by kernel_rfl) (by kernel_rfl) (by kernel_rfl) (e:=Extern.AbiNoEscape.same) (by kernel_rfl)];rw[Lib.run_noEscape];simp only[Result.andThen];rw[Oper.upon_value]
 go_wp2
 rw[Lib.run_from_unsafe w ⟨b,0,none⟩ Tryz.underlying234 Tryz.underlying170 hj hsh hT.lies];simp only[Result.andThen];rw[Oper.upon_value]
 go_wp2
 go_end0
 exact⟨rfl,rfl⟩
theorem zG{P:Program}(w:World)(t u ty e:TypeId)(i:TypeInfo)(ht:P.underlying t=some (.slice e))(hu:P.underlying u=some .string)(hi:P.info? e=some i)(hz:i.zero=some (.int .u8 0))(hsize:i.size=1)(hby:i.bytes=1)(v:Value)(n:Nat)(xs:List Value)(hown:w.ownsRow 0 e 1 v n xs)(s:ByteArray)(h63:n+s.size<=maxLen)(hbytes:n+s.size<=140737488355328):∃v' w',(Builtin.append_ #[t,u] ty #[v,.string s]).run P w=.ok v' w'/\w'.ownsRow 0 e 1 v' (n+s.size) (xs++Lib.strCells s)/\w.grownBy w' v.ownBlock/\(∀k,v'.ownBlock=some k->v.ownBlock=some k\/w.heap.size<=k):=by
 obtain⟨v',w',h1,h2,h3,h4⟩:=Lib.run_append_own_string (P:=P) w 0 t u ty e i ht hu hi hz hsize hby v n xs hown s h63 hbytes (t7 _);refine⟨v',w',h1,h2,h3,λk hk=>?_⟩;simp only[maxLen]at h63;rcases hown.2 with⟨rfl,rfl⟩|⟨g,cap,cur,rfl,hbg,hg,hnc,hcm,hcs,htake⟩
 ·have hx:xs=[]:=zY (by simpa using hown.1);subst hx;obtain⟨v2,w2,g1,g2,_⟩:=Lib.run_append_own_string (P:=P) w w.heap.size t u ty e i ht hu hi hz hsize hby _ 0 [] (World.ownsRow_nil w _ e 1) s h63 hbytes (fA _);rw[h1]at g1;cases g1
  exact .inr (g2.lt k hk).1
 ·by_cases hroom:n+s.size<=cap
  ·have hr:=Lib.run_append_room_string (P:=P) w t u ty e i ht hu hi hsize g n cap cur hg s hroom (by omega);rw[h1]at hr;cases hr
   exact .inl hk
  ·have holds:∀j u,xs[j]? =some u->w.cell? ((⟨g,0,none⟩:Addr).add j)=some u:=hown.cells (g:=g) rfl;have hr:=Lib.run_append_grow_string (P:=P) w t u ty e i (.int .u8 0) ht hu hi hz ⟨g,0,none⟩ n cap xs (by rw[hsize];simpa using hown.1) holds s (by omega) (by omega) (by rw[hby];exact growslice_fits (by omega) (by omega));rw[h1]at hr;cases hr
   simp only[Value.ownBlock,yE]at hk;exact .inr (by omega)
def F0(w:World)(b:Nat):Option Nat:=(w.cell? ⟨b,1,none⟩).bind Value.ownBlock
def KB(T:TypeId)(w:World)(b:Nat)(l:List UInt8):Prop:=Lib.IsBuilder T 5 0 b (Lib.byteCells l) w
structure KStep(w w':World)(b:Nat):Prop where
 old:∀x,x<w.heap.size->x≠b->F0 w b≠some x->w'.heap[x]? =w.heap[x]?
 row:∀g,F0 w' b=some g->F0 w b=some g\/w.heap.size<=g
 sz:w.heap.size<=w'.heap.size
 io:w'.os=w.os/\w'.output=w.output
theorem KStep.refl(w:World)(b:Nat):KStep w w b:=⟨λ_ _ _ _=>rfl,λ_ h=>.inl h,fA _,rfl,rfl⟩
theorem kb_row{T:TypeId}{w:World}{b:Nat}{p v:Value}{f:Nat×Nat}(hb:w.heap[b]? =some (.cells #[p,v] T f)):F0 w b=v.ownBlock:=by unfold F0;rw[Lib.cell_of_heap hb];rfl
theorem KStep.trans{w w1 w2:World}{b:Nat}(h:KStep w w1 b)(k:KStep w1 w2 b):KStep w w2 b where
 old x hx h1 h2:=by
  rw[k.old x (u9 hx h.sz) h1 λe=>?_,h.old x hx h1 h2];rcases h.row x e with e|e
  ·exact h2 e
  ·omega
 row g hg:=by
  rcases k.row g hg with e|e
  ·exact h.row g e
  ·exact .inr (s7 h.sz e)
 sz:=s7 h.sz k.sz
 io:=⟨k.io.1.trans h.io.1,k.io.2.trans h.io.2⟩
theorem KStep.set{T:TypeId}{w:World}{b:Nat}{l:List UInt8}{p:Value}(h:Lib.BuilderAt T 5 0 b p (Lib.byteCells l) w)(q:Value):KStep w (w.setCell ⟨b,0,none⟩ q) b:=by
 obtain⟨_,v,hb,_⟩:=h;refine⟨λx _ h1 _=>?_,λg hg=>.inl ?_,by simp[World.setCell],rfl,rfl⟩
 ·simp[World.setCell,C8,Ss h1]
 ·rw[kb_row hb];have hb':(w.setCell ⟨b,0,none⟩ q).heap[b]? =some (.cells #[q,v] T (0,0)):=by simp[World.setCell,C8,hb]
  rw[kb_row hb']at hg;exact hg
theorem zH{T:TypeId}(hT:BT T)(b:Nat)(l:List UInt8)(w:World)(h:KB T w b l):Calls Tryz.prog 186 #[.pointer (some ⟨b,0,none⟩)] w λe w'=>e=.returned (.tuple #[])/\Lib.BuilderAt T 5 0 b (.pointer (some ⟨b,0,none⟩)) (Lib.byteCells l) w'/\KStep w w' b:=by
 rcases h with h|h
 ·refine(lE hT b w h.cell0 h.shape h.frozen0).mono ?_;rintro e w' ⟨rfl,rfl⟩;exact⟨rfl,h.used _,KStep.set h _⟩
 ·refine(tL b w h.cell0).mono ?_;rintro e w' ⟨rfl,rfl⟩;exact⟨rfl,h,KStep.refl _ _⟩
theorem lF{T:TypeId}(hT:BT T)(b:Nat)(l m:List UInt8)(w:World)(h:KB T w b l)(hl:l.length+m.length<=140737488355328):Calls Tryz.prog 166 #[.pointer (some ⟨b,0,none⟩),.string ⟨m.toArray⟩] w λe w'=>e=.returned (.tuple #[.int .i64 m.length,.nilIface])/\KB T w' b (l++m)/\KStep w w' b:=by
 obtain⟨i0,hi,hz0,hz1,hz2⟩:=tK
 go_enter Tryz.func166,Tryz.ntmps166
 go_wp2_with (go_at_call 186;refine(zH hT b l _ h).mono ?_)
 rintro e w1 ⟨rfl,h1,hb1⟩;obtain⟨hB,v,hbk,hown,hne⟩:=h1;have c0:w1.cell? ⟨b,0,none⟩=some (.pointer (some ⟨b,0,none⟩)):=by rw[Lib.cell_of_heap hbk];rfl
 have c1:w1.cell? ⟨b,1,none⟩=some v:=by rw[Lib.cell_of_heap hbk];rfl
 have hs:(⟨m.toArray⟩:ByteArray).size=m.length:=by simp[ByteArray.size]
 have hbl:(Lib.byteCells l).length=l.length:=Lib.byteCells_length l;have hst:Lib.strCells ⟨m.toArray⟩=Lib.byteCells m:=by simp[Lib.strCells,Lib.byteCells]
 obtain⟨v',w2,hr,hown',hgrow,hrow⟩:=zG (P:=Tryz.prog) w1 40 9 40 5 i0 Tryz.underlying40 Tryz.underlying9 hi hz0 hz1 hz2 v _ _ hown ⟨m.toArray⟩ (by rw[hs,hbl];unfold maxLen;omega) (by rw[hs,hbl];omega);have hlt:b<w1.heap.size:=by
  rcases VN b w1.heap.size with h'|h'
  ·exact h'
  ·simp[Array.getElem?_eq_none h']at hbk
 have hb2:w2.heap[b]? =some (.cells #[.pointer (some ⟨b,0,none⟩),v] T (0,0)):=by rw[hgrow.block b hlt (λe=>hne e.symm)];exact hbk
 have d0:w2.cell? ⟨b,0,none⟩=some (.pointer (some ⟨b,0,none⟩)):=by rw[Lib.cell_of_heap hb2];rfl
 have d1:w2.cell? ⟨b,1,none⟩=some v:=by rw[Lib.cell_of_heap hb2];rfl
 have f1:w2.frozen? ⟨b,1,none⟩=false:=Lib.frozen_of_heap hb2 1;obtain⟨ao,n',cap,rfl⟩:∃ao n' cap,v'=.slice ao n' cap:=by
  rcases hown'.2 with⟨hv,_⟩|⟨g,cap,cur,hv,_⟩
  ·exact⟨_,_,_,hv⟩
  ·exact⟨_,_,_,hv⟩
 go_wp2_with (at_builtin;refine Lib.wpList_append_run _ rfl _ _ _ _ rfl _ _ rfl rfl _ _ hr ?_)
 go_ret2
 have hbs:∀b2:Nat,b2=b->(w2.setCell ⟨b,1,none⟩ (.slice ao n' cap)).heap[b2]? =some (.cells #[.pointer (some ⟨b,0,none⟩),.slice ao n' cap] T (0,0)):=by rintro _ rfl;simp[World.setCell,C8,hb2]
 refine⟨rfl,.inr ?_,hb1.trans ⟨λx hx h1 h2=>?_,λg hg=>?_,?_,?_⟩⟩
 ·refine Lib.BuilderAt.put (T:=T) (e:=5) hB hb2 ?_ hT.ne;have e1:Lib.byteCells (l++m)=Lib.byteCells l++Lib.strCells ⟨m.toArray⟩:=by rw[hst];simp[Lib.byteCells]
  rw[e1,fF,Lib.strCells_length];exact hown'
 ·rw[kb_row hbk]at h2;have:(w2.setCell ⟨b,1,none⟩ (.slice ao n' cap)).heap[x]? =w2.heap[x]? :=by simp[World.setCell,C8,Ss h1]
  rw[this];exact hgrow.block x hx (λe=>h2 e.symm)
 ·rw[kb_row (hbs b rfl)]at hg;rw[kb_row hbk];exact hrow g hg
 ·show w1.heap.size<=(w2.setCell _ _).heap.size;have:(w2.setCell ⟨b,1,none⟩ (.slice ao n' cap)).heap.size=w2.heap.size:=by simp[World.setCell]
  rw[this];exact hgrow.size
 ·exact⟨hgrow.os,hgrow.output⟩
theorem dA{T:TypeId}(b:Nat)(l:List UInt8)(w:World)(h:KB T w b l)(h0:l≠[]):Calls Tryz.prog 137 #[.pointer (some ⟨b,0,none⟩)] w λe w'=>e=.returned (.string ⟨l.toArray⟩)/\KStep w w' b:=by
 obtain⟨p,hB,v,hbk,hown,hne⟩:∃p,Lib.BuilderAt T 5 0 b p (Lib.byteCells l) w:=by
  rcases h with h|h
  ·exact⟨_,h⟩
  ·exact⟨_,h⟩
 have hl0:l.length≠0:=by simpa using h0
 rw[Lib.byteCells_length]at hown;obtain⟨g,cap,cur,rfl,hbg,hg,hnc,hcm,hcs,htake⟩:∃g cap cur,v=.slice (some ⟨g,0,none⟩) l.length cap/\0<=g/\w.heap[g]? =some (.cells cur 5 (0,0))/\l.length<=cap/\cap<=maxLen/\cur.size=cap*1/\cur.toList.take (l.length*1)=Lib.byteCells l:=by
  rcases hown.2 with⟨_,hz⟩|⟨g,cap,cur,hv,r⟩
  ·exact absurd hz hl0
  ·exact⟨g,cap,cur,hv,r⟩
 have hrow:F0 w b=some g:=by rw[kb_row hbk];rfl
 have c1:w.drew.cell? ⟨b,1,none⟩=some (.slice (some ⟨g,0,none⟩) l.length cap):=by have:w.drew.heap[b]? =some (.cells #[p,.slice (some ⟨g,0,none⟩) l.length cap] T (0,0)):=hbk;rw[Lib.cell_of_heap this];rfl
 have hSD:(Builtin.unsafeSliceData_ #[40] 203 #[.slice (some ⟨g,0,none⟩) l.length cap]).run Tryz.prog w.drew=.ok (.pointer (some ⟨g,0,none⟩)) w.drew:=Lib.run_unsafeSliceData_row _ _ _ _ _ _ (by omega);have hUS:(Builtin.unsafeString_ #[203,3] 9 #[.pointer (some ⟨g,0,none⟩),.int .i64 l.length]).run Tryz.prog w.drew=.ok (.string ⟨l.toArray⟩) (w.drew.freeze ⟨g,0,none⟩ l.length):=by refine Lib.run_unsafeString_row w.drew 203 3 9 5 Tryz.underlying203 (by kernel_rfl) g cur.size (by have hg':w.drew.heap[g]? =some (.cells cur 5 (0,0)):=hg;simp[World.shape?,hg']) l h0 (by omega) (by unfold maxLen at hcm;omega) ?_;intro j x hx;have:=hown.cells (g:=g) rfl j (.int .u8 x.toNat) (by simp[Lib.byteCells,hx]);exact this
 have hfin:KStep w (w.drew.freeze ⟨g,0,none⟩ l.length) b:=by
  have hh:∀x,x≠g->(w.drew.freeze ⟨g,0,none⟩ l.length).heap[x]? =w.heap[x]? :=λx hx=>by simp only[World.freeze,eW hl0];rw[C8,eW (Ss hx)];rfl
  have hgb:b≠g:=λe=>hne (by rw[e];rfl)
  refine⟨λx _ _ h2=>hh x (λe=>h2 (by rw[hrow,e])),λk hk=>.inl ?_,?_,?_⟩
  ·have hb':=(hh b hgb).trans hbk;rw[kb_row hb']at hk;rw[kb_row hbk];exact hk
  ·simp only[World.freeze,eW hl0,Array.size_modify];exact fA _
  ·simp only[World.freeze,eW hl0];exact⟨rfl,rfl⟩
 go_enter Tryz.func137,Tryz.ntmps137
 go_wp2
 go_region
 all_goals (go_wp2;go_ret;exact⟨rfl,hfin⟩)
end
section
open Go
def bk:Nat:=1500000
@[reducible] def gB(b:Nat)(l:List UInt8):AV:=.gd false (.agg [.v (.int .i64 b),.v (.string (sB l))])
theorem UZ{b b':Nat}{l l':List UInt8}(h:gB b l=gB b' l'):b=b'/\l=l':=by
 unfold gB at h;injection h with _ h
 injection h with h
 injection h with h1 h2
 injection h1 with h1
 injection h1 with _ h1
 injection h2 with h2 _
 injection h2 with h2
 injection h2 with h2
 refine⟨by omega,?_⟩;have:=congrArg bL h2;simpa using this
structure BI(N:Nat)(X:Nat->Prop)(U:Cf)(b:Nat)(l:List UInt8):Prop where
 kb:∃T,BT T/\KB T U.w b l
 o:U.O b/\¬U.M b/\(N<=b\/X b)
 r:∀g,F0 U.w b=some g->U.O g/\¬U.M g/\(N<=g\/X g)
theorem KB.lt{T:TypeId}{w:World}{b:Nat}{l:List UInt8}(h:KB T w b l):b<w.heap.size:=by rcases h with h|h<;>exact h.lt
theorem KB.cells{T:TypeId}{w:World}{b:Nat}{l:List UInt8}(h:KB T w b l):∃p v,w.heap[b]? =some (.cells #[p,v] T (0,0))/\F0 w b=v.ownBlock/\∀g,v.ownBlock=some g->g<w.heap.size/\∃cs σ f,w.heap[g]? =some (.cells cs σ f):=by
 have key:∀p,Lib.BuilderAt T 5 0 b p (Lib.byteCells l) w->∃p v,w.heap[b]? =some (.cells #[p,v] T (0,0))/\F0 w b=v.ownBlock/\∀g,v.ownBlock=some g->g<w.heap.size/\∃cs σ f,w.heap[g]? =some (.cells cs σ f):=by
  rintro p ⟨_,v,hb,hown,_⟩;refine⟨p,v,hb,kb_row hb,λg hg=>⟨(hown.lt g hg).2,?_⟩⟩;rcases hown.2 with⟨rfl,_⟩|⟨g',cap,cur,rfl,_,hgg,_⟩
  ·simp[Value.ownBlock]at hg
  ·simp[Value.ownBlock]at hg;subst hg;exact⟨_,_,_,hgg⟩
 rcases h with h|h<;>exact key _ h
theorem KB.ne_row{T:TypeId}{w:World}{b:Nat}{l:List UInt8}(h:KB T w b l):¬F0 w b=some b:=by
 have key:∀p,Lib.BuilderAt T 5 0 b p (Lib.byteCells l) w->¬F0 w b=some b:=by rintro p ⟨h0,v,h1,h2,h3⟩ h;rw[kb_row h1]at h;exact h3 h
 rcases h with h|h<;>exact key _ h
theorem KB.keep{T:TypeId}{w w':World}{b:Nat}{l:List UInt8}(h:KB T w b l)(hb:w'.heap[b]? =w.heap[b]?)(hg:∀g,F0 w b=some g->w'.heap[g]? =w.heap[g]?):KB T w' b l/\F0 w' b=F0 w b:=by
 have key:∀p,Lib.BuilderAt T 5 0 b p (Lib.byteCells l) w->Lib.BuilderAt T 5 0 b p (Lib.byteCells l) w'/\F0 w' b=F0 w b:=by
  rintro p ⟨h0,v,h1,h2,h3⟩;have e:=kb_row h1;refine⟨⟨h0,v,hb.trans h1,⟨h2.1,?_⟩,h3⟩,by rw[kb_row h1,kb_row (hb.trans h1)]⟩;rcases h2.2 with h4|⟨g,cap,cur,rfl,q1,q2,q3⟩
  ·exact .inl h4
  ·refine .inr ⟨g,cap,cur,rfl,q1,?_,q3⟩;rw[hg g e];exact q2
 rcases h with h|h
 ·exact⟨.inl (key _ h).1,(key _ h).2⟩
 ·exact⟨.inr (key _ h).1,(key _ h).2⟩
theorem BI.mono{N:Nat}{X:Nat->Prop}{U σ':Cf}{b:Nat}{l:List UInt8}(h:BI N X U b l)(e:Evo U σ'):BI N X σ' b l:=by
 obtain⟨⟨T,hT,hk⟩,o,r⟩:=h;have hb:∀x,x<U.w.heap.size->¬U.M x->σ'.w.heap[x]? =U.w.heap[x]?/\¬σ'.M x:=λx hx hM=>by obtain⟨g1,g2⟩:=e.fro x _ (fC hx) hM;exact⟨g1.trans (fC hx).symm,g2⟩
 obtain⟨p,v,c1,c2,c3⟩:=hk.cells;obtain⟨k1,k2⟩:=hk.keep (w':=σ'.w) (hb b hk.lt o.2.1).1 λg hg=>(hb g (c3 g (c2▸hg)).1 (r g hg).2.1).1
 refine⟨⟨T,hT,k1⟩,⟨by rw[e.out];exact o.1,(hb b hk.lt o.2.1).2,o.2.2⟩,λg hg=>?_⟩;rw[k2]at hg;exact⟨by rw[e.out];exact(r g hg).1,(hb g (c3 g (c2▸hg)).1 (r g hg).2.1).2,(r g hg).2.2⟩
structure EvoB(N:Nat)(X:Nat->Prop)(U σ':Cf):Prop where
 ev:Ev U σ'
 old:∀x,x<N->¬X x->∀o,U.w.heap[x]? =some o->¬U.M x->σ'.w.heap[x]? =some o/\¬σ'.M x
 out:∀x,U.O x->σ'.O x
 sz:U.w.heap.size<=σ'.w.heap.size
 io:SameO U.w σ'.w
theorem Evo.evoB{N:Nat}{X:Nat->Prop}{U σ':Cf}(h:Evo U σ'):EvoB N X U σ':=⟨h.ev,λx _ _ o ho hM=>h.fro x o ho hM,λx hx=>by rw[h.out];exact hx,h.sz,h.io⟩
theorem EvoB.trans{N:Nat}{X:Nat->Prop}{a b c:Cf}(h:EvoB N X a b)(k:EvoB N X b c):EvoB N X a c where
 ev:=h.ev.trans k.ev
 old x hx h1 o ho hM:=by obtain⟨g1,g2⟩:=h.old x hx h1 o ho hM;exact k.old x hx h1 o g1 g2
 out x hx:=k.out x (h.out x hx)
 sz:=s7 h.sz k.sz
 io:=h.io.trans k.io
def Ctx.bd(P:Program)(S:Tab)(nt hb N:Nat)(X:Nat->Prop)(hnt:nt<=bk):Ctx:={P:=P,F:=Fence.wide,S:=S,nt:=nt,hb:=(hb,false),R:=EvoB N X,G:=λe U=>(N<=U.w.heap.size)/\∀b l,lk e bk=gB b l->BI N X U b l,ofE:=Evo.evoB,tr:=EvoB.trans,g:=λ{U σ' e e'} h ev hl=>⟨s7 h.1 ev.sz,λb l hb=>by
  rcases hl bk hnt with h1|h1
  ·rw[h1]at hb;cases hb
  ·exact(h.2 b l (h1.symm.trans hb)).mono ev⟩}
theorem Ctx.bd_ok{P:Program}{S:Tab}{nt hb N:Nat}{X:Nat->Prop}{hnt:nt<=bk}(h:TabOK P S):(Ctx.bd P S nt hb N X hnt).OK:=⟨h,.inl (Eq.refl _)⟩
theorem vZ{P:Program}{S:Tab}{nt hb N:Nat}{X:Nat->Prop}{hnt:nt<=bk}:(Ctx.bd P S nt hb N X hnt).S=S:=rfl
def Aa5(P:Program)(o:Oper)(a:Act)(w:World)(R:Value->World->Prop):Prop:=(∃v w',(execOp a.eval o).run P w=.ok (.value v) w'/\R v w')\/(∃f args,(execOp a.eval o).run P w=.ok (.enter f args) w/\Calls P f args w λe w'=>∃v,e=.returned v/\R v w')
def Ctx.from(V:Ctx)(U:Cf):Ctx:={V with R:=λa b=>V.R U a->V.R U b,ofE:=λe h=>V.tr h (V.ofE e),tr:=λh k r=>k (h r)}
theorem No{V:Ctx}(hΓ:V.OK)(hnb:V.hb.2=false){gk:Nat}(hgk:V.nt<=gk)(hgd:gk≠dk V.nt)(i:Nat){rid:Nat}{ops:List AOp}{yo:AOp}{Q:AE->St->Prop}{e e1:Au}{h h1:Hp}{c:Nat}{vc:Prop}(hyo:ops[i]? =some yo)(hex:Bm V.S (c+1) (100*rid) (ops.take i) e h=some (vc,e1,h1))(hvc:vc)(hg:Fx e1 yo.g=some true)(hnd:∀x,yo.k≠.dfr x)(hnb2:yo.k≠.bad)(hst:∀(o:Oper) (a1:Act) (σ1:Cf),yo.k=cK V.P o.op->Inv σ1 e1 h1 a1 V.nt V.hb->V.G e1 σ1->Aa5 V.P o a1 σ1.w λv w'=>∃(σ2:Cf) (x r:AV) (vc2:Prop) (e2:Au) (h2:Hp),σ2.w=w'/\Oth σ1 σ2/\(∀(m:Nat),σ1.w.heap[m]? =some (.deferred (some []))->¬σ1.O m->σ2.w.heap[m]? =some (.deferred (some []))/\¬σ2.O m)/\V.R σ1 σ2/\V.G ((gk,.gd false x)::e1) σ2/\Rep σ2 r v/\Bm V.S (c+1) (100*rid+(i+1)) (ops.drop (i+1)) (Ca yo.d r ((gk,.gd false x)::e1)) h1=some (vc2,e2,h2)/\vc2/\Q .n ⟨e2,h2,c+1⟩):As V (.reg rid ops) Q ⟨e,h,c⟩:=by
 intro code hc U a hA;cases code with
 |region id ops' d=>
  simp only[cCode]at hc;obtain⟨l0,hx0,⟨rfl,e0⟩|⟨_,_,_,_,e0⟩⟩:=Cz hc
  ·cases e0
   refine wpIn_region ?_;obtain⟨c1,c2⟩:=E5 hx0;obtain⟨t1,t2⟩:=Em i hx0;obtain⟨_,t3⟩:=Em (i+1) hx0;have hi:i<ops.length:=(i5.1 hyo).1;have hsz:ops.length=ops'.size:=c1.trans (by simp);have hi':i<ops'.size:=by omega
   have ho:ops'[i]? =some ops'[i]:=fC hi';obtain⟨yo',g1,g2⟩:=c2 i ops'[i] (by simp);rw[hyo]at g1;cases g1
   obtain⟨k1,k3,k4⟩:=Uz g2;have hr:List.range ops'.size=List.range' 0 (ops'.toList.take i).length++(i::List.range' (i+1) (ops'.toList.drop (i+1)).length):=by
    have e1:(ops'.toList.take i).length=i:=by simp;omega
    have e2:(ops'.toList.drop (i+1)).length=ops'.size-(i+1):=by simp
    rw[e1,e2,CY,<-L8];have:=List.range'_append_1 (s:=0) (m:=i) (n:=ops'.size-(i+1)+1);rw[s6]at this;rw[this];congr 1;omega
   rw[hr];refine Ij hΓ (cnt:=c) (100*rid) e _ (ops'.toList.take i) 0 (ops.take i) U e e1 h h1 a vc (λ_ _=>rfl) (λj hj=>?_) t1 hex hvc hA.1 (λm hm=>.inl (hA.2.1 m hm)) λa1 σ1 ev1 hI1 hal1 hfar1=>?_
   ·have:j<i:=by simp at hj;omega
    simp[zQ,this]
   rw[wpOpsIn_cons];unfold wpOpIn;simp only[ho];have hw:=Gb hI1.t k4 hg;simp only[hw,if_true];refine⟨λf _=>hΓ.F.fn f,?_⟩;have hno:∀c,ops'[i].op≠.defer c:=λc hd=>by
    rw[hd]at k1;simp only[cK]at k1;split at k1
    ·exact hnd _ k1
    ·exact hnb2 k1
   rw[Oper.semAt_eq _ a1.eval _ hno];have hG1:V.G e1 σ1:=V.g hA.2.2 ev1 λt ht=>.inr (hfar1 t ht)
   have hd:∀k,ops'[i].dst=some k->k<a1.tmps.size:=by rw[k3];intro d hd;rw[hI1.sz];exact Gp g2 d hd
   have fin:∀v w',(∃(σ2:Cf)(x r:AV)(vc2:Prop)(e2:Au)(h2:Hp),σ2.w=w'/\Oth σ1 σ2/\(∀(m:Nat),σ1.w.heap[m]? =some (.deferred (some []))->¬σ1.O m->σ2.w.heap[m]? =some (.deferred (some []))/\¬σ2.O m)/\V.R σ1 σ2/\V.G ((gk,.gd false x)::e1) σ2/\Rep σ2 r v/\Bm V.S (c+1) (100*rid+(i+1)) (ops.drop (i+1)) (Ca yo.d r ((gk,.gd false x)::e1)) h1=some (vc2,e2,h2)/\vc2/\Q .n ⟨e2,h2,c+1⟩)->wpOpsIn V.F 0 V.P ops' (lift V U Q) (List.range' (i+1) (ops'.toList.drop (i+1)).length) (a1.put ops'[i].dst v) w':=by
    rintro v w' ⟨σ2,x,r,vc2,e2,h2,rfl,oth,old,hR,hG2,hv,q1,q2,q3⟩;have hI2:Inv σ2 (Ca yo.d r ((gk,.gd false x)::e1)) h1 (a1.put ops'[i].dst v) V.nt V.hb:=by
     refine⟨hI1.h.oth oth,?_,by rw[Act.size_put];exact hI1.sz,?_⟩
     ·rw[<-k3];refine TInv.put (r:=r) (λt=>?_) hd hv;simp only[lk];by_cases ht:gk=t
      ·rw[eX ht];subst ht;have:¬gk<a1.tmps.size:=by rw[hI1.sz];exact Nat.not_lt.2 hgk
       simp[Rep,Array.getD,this]
      ·rw[eW ht];exact hI1.t.ev oth.ev t
     ·rw[Act.defers_put];refine DOK.of hnb (λd hd=>?_) (hI1.df.nd hnb) (s7 hI1.df.le oth.sz) (hI1.df.gl.ev oth.ev);obtain⟨m,r1,r2,r3,r4,r5⟩:=hI1.df.all hnb d hd;obtain⟨o1,o2⟩:=old m r3 r5;exact⟨m,r1,r2,o1,by rw[oth.M];exact r4,o2⟩
    have hal2:∀m,σ2.al m->m.2<=c\/(m.2=c+1/\m.1<100*rid+(i+1)):=by
     intro m hm;rw[oth.al]at hm;rcases hal1 m hm with h|⟨h3,h4⟩
     ·exact .inl h
     ·right;simp at h4;omega
    have hR2:V.R U σ2:=V.tr (V.ofE ev1) hR;have hl:lift (V.from U) σ2 Q=lift V U Q:=by
     funext e a w;apply propext;constructor
     ·rintro⟨σ',s',e',h1,h2,h3⟩;exact⟨σ',s',e',h1,h2 hR2,h3⟩
     ·rintro⟨σ',s',e',h1,h2,h3⟩;exact⟨σ',s',e',h1,λ_=>h2,h3⟩
    have hh:=Ig (V:=V.from U) ⟨hΓ.S,hΓ.F⟩ (ops:=ops') (Q:=Q) (cnt:=c) (100*rid) _ σ2 hG2 (ops'.toList.drop (i+1)) (i+1) (ops.drop (i+1)) σ2 _ _ _ _ _ vc2 (λt ht=>G2 (Gp g2) ht) (λj=>by simp) (by simp;omega) t3 q1 q2 (Evo.refl σ2) hI2 hal2 q3;rw[hl]at hh;exact hh
   rcases hst ops'[i] a1 σ1 k1 hI1 hG1 with⟨v,w',hr,hR⟩|⟨f,args,hr,hcl⟩
   ·rw[hr];exact fin v w' hR
   ·rw[hr];refine⟨λh=>by simp[hΓ.F.depth]at h,hΓ.F.calls (hcl.mono ?_)⟩;rintro en w' ⟨v,rfl,hR⟩;exact fin v w' hR
  ·cases e0
 |seq x y=>simp only[cCode]at hc;split at hc<;>simp at hc
 |cond c x y=>simp only[cCode]at hc;split at hc<;>simp at hc
 |rangeFunc f ps x y=>simp only[cCode]at hc;split at hc<;>simp at hc
 |_=>simp[cCode]at hc
theorem aH{P:Program}{op:Op}{T:TypeId}(h:AK.allocB T=cK P op):op=.alloc T/\∃zs,Iq P T=some zs/\YX zs=true:=by
 cases op with
 |alloc t=>
  simp only[cK]at h;split at h
  ·rename_i zs hz;split at h
   ·rename_i hb;simp only[AK.allocB.injEq]at h;subst h;exact⟨rfl,zs,hz,hb⟩
   ·cases h
  ·cases h
 |_=>
  exfalso;simp only[cK,Iy,Fk,Kb,Kc,Kd,Ly,Ke,Jg]at h
  (repeat' (split at h))<;>cases h
theorem PU{P:Program}{op:Op}{f:Nat}{ys:List Opd}(h:AK.call f ys=cK P op):∃c,op=.call c/\c.callee=.value (.func f)/\ys=c.args.toList.map Aq:=by
 cases op with
 |call c=>
  simp only[cK,Jg]at h;split at h
  ·rename_i g hc;simp only[AK.call.injEq]at h;obtain⟨rfl,rfl⟩:=h;exact⟨c,rfl,hc,rfl⟩
  all_goals (repeat' (split at h))<;>cases h
 |_=>
  exfalso;simp only[cK,Iy,Fk,Kb,Kc,Kd,Ly,Ke]at h
  (repeat' (split at h))<;>cases h
theorem aI{v:Value}{sz:Nat}{f:Bool}{d:List AV}(h:JY v=.sl sz f [] d):v=.slice none 0 0:=by
 unfold JY at h;split at h
 ·rfl
 ·cases h
theorem Aa6{v x:Value}(h:JY v=.v x):v=x:=by
 unfold JY at h;split at h
 ·cases h
 ·injection h
theorem iR{P:Program}{S:Tab}{nt hb N:Nat}{X:Nat->Prop}{hnt:nt<=bk}(hS:TabOK P S)(i:Nat){rid:Nat}{ops:List AOp}{Q:AE->St->Prop}{e e1:Au}{h h1:Hp}{c:Nat}{vc:Prop}{d:Option Nat}{T:TypeId}(hyo:ops[i]? =some ⟨d,none,.allocB T⟩)(hT:BT T)(hex:Bm S (c+1) (100*rid) (ops.take i) e h=some (vc,e1,h1))(hvc:vc)(hQ:∀b:Nat,∃(vc2:Prop) (e2:Au) (h2:Hp),Bm S (c+1) (100*rid+(i+1)) (ops.drop (i+1)) (Ca d (.v (.pointer (some ⟨b,0,none⟩))) ((bk,gB b [])::e1)) h1=some (vc2,e2,h2)/\vc2/\Q .n ⟨e2,h2,c+1⟩):As (Ctx.bd P S nt hb N X hnt) (.reg rid ops) Q ⟨e,h,c⟩:=by
 refine No (Ctx.bd_ok hS) (Eq.refl _) (gk:=bk) hnt (λe=>?_) i hyo hex hvc (Eq.refl _) (λx e=>by cases e) (λe=>by cases e) λo a1 σ1 hk hI hG=>?_
 ·have e':bk=nt+2000000:=e;unfold bk at e';omega
 obtain⟨ho,zs,hz,hb⟩:=aH hk;obtain⟨j,z,z1,z2,z3,_,rfl⟩:=Ir hz;have hcells:z.cells=#[.pointer none,.slice none 0 0]:=by
  unfold YX at hb;split at hb
  ·rename_i sz f d he;have hl:z.cells.toList.length=2:=by have:=congrArg List.length he;simpa using this
   match hzc:z.cells.toList,hl with
   |[x,y],_=>rw[hzc]at he;simp only[eZ,w7,List.cons.injEq,and_true]at he;apply Array.ext';rw[hzc,Aa6 he.1,aI he.2]
  ·cases hb
 refine .inl ⟨.pointer (some ⟨σ1.w.heap.size,0,none⟩),σ1.w.alloc (.cells z.cells T),?_,?_⟩
 ·simp[execOp,ho,Instr.alloc,zeroValue,typeInfo,z1,z2,newVar,newRow,newObj,Sem.run]
 obtain⟨vc2,e2,h2,q1,q2,q3⟩:=hQ σ1.w.heap.size
 let σ2:Cf:={σ1 with O:=λx=>σ1.O x\/x=σ1.w.heap.size,w:=σ1.w.alloc (.cells z.cells T)}
 have hold:∀x,x<σ1.w.heap.size->σ2.w.heap[x]? =σ1.w.heap[x]? :=λx hx=>BV hx
 have hnew:σ2.w.heap[σ1.w.heap.size]? =some (.cells #[.pointer none,.slice none 0 0] T (0,0)):=by rw[<-hcells];exact G1
 have hsz:σ2.w.heap.size=σ1.w.heap.size+1:=by simp[σ2]
 have oth:Oth σ1 σ2:={
  rb:=rfl,ra:=rfl,ln:=rfl,al:=rfl,M:=rfl
  ou:=by
   rintro x (hx|rfl)
   ·exact⟨by have:=hI.h.ou x hx;omega,λhM=>hI.h.dis x hM hx,λhf=>hf.2.1 hx⟩
   ·exact⟨by omega,λhM=>absurd (hI.h.lt _ hM) (X0 _),λhf=>absurd hf.2.2 (X0 _)⟩
  sz:=by omega
  mem:=λx hx=>hold x (hI.h.lt x hx)
  fro:=λx o y hx hc=>by rw[cell_of_heap (hold x hx.2.2)];exact hc
  io:=⟨rfl,rfl⟩}
 refine⟨σ2,.agg [.v (.int .i64 σ1.w.heap.size),.v (.string (sB []))],.v (.pointer (some ⟨σ1.w.heap.size,0,none⟩)),vc2,e2,h2,rfl,oth,?_,?_,?_,by simp[Rep],q1,q2,q3⟩
 ·intro m hm hO;have hlt:=(eY.1 hm).1;exact⟨(hold m hlt).trans hm,λh=>h.elim hO (λe=>absurd hlt (by omega))⟩
 ·refine⟨oth.ev,λx hx h1 o ho hM=>⟨(hold x (eY.1 ho).1).trans ho,hM⟩,λx hx=>.inl hx,by omega,⟨rfl,rfl⟩⟩
 ·refine⟨by have:=hG.1;omega,λb l hl=>?_⟩;have hl':gB σ1.w.heap.size []=gB b l:=by simpa[lk]using hl
  obtain⟨rfl,rfl⟩:=UZ hl';refine⟨⟨T,hT,.inl ⟨t7 _,.slice none 0 0,hnew,World.ownsRow_nil _ _ _ _,by simp[Value.ownBlock]⟩⟩,⟨.inr rfl,λhM=>absurd (hI.h.lt _ hM) (X0 _),.inl hG.1⟩,λg hg=>?_⟩;rw[kb_row hnew]at hg;simp[Value.ownBlock]at hg
def RC(P:Program)(f:Nat)(ax:List AV)(l:List UInt8)(l':Option (List UInt8))(r:AV):Prop:=∀(U:Cf)(vs:List Value)(b:Nat),Gl U->(∀x,U.M x\/U.O x->x<U.w.heap.size)->AS ax=true->RepL U ax vs->(∃T,BT T/\KB T U.w b l)->U.O b/\¬U.M b->(∀g,F0 U.w b=some g->U.O g/\¬U.M g)->Calls P f (Value.pointer (some ⟨b,0,none⟩)::vs).toArray U.w λe w'=>∃v,e=.returned v/\(∀m,l'=some m->∃T,BT T/\KB T w' b m)/\KStep U.w w' b/\Rep (U.at w') r v
@[reducible] def gL(b:Nat):Option (List UInt8)->AV|some l=>.agg [.v (.int .i64 b),.v (.string (sB l))]|none=>.un
theorem MN{P:Program}{S:Tab}{nt hb N:Nat}{X:Nat->Prop}{hnt:nt<=bk}(hS:TabOK P S)(i:Nat){rid:Nat}{ops:List AOp}{Q:AE->St->Prop}{e e1:Au}{h h1:Hp}{c:Nat}{vc:Prop}{d:Option Nat}{f b:Nat}{x0:Opd}{xs:List Opd}{ax:List AV}{l:List UInt8}{l':Option (List UInt8)}{r:AV}(hyo:ops[i]? =some ⟨d,none,.call f (x0::xs)⟩)(hf:FU P f)(hex:Bm S (c+1) (100*rid) (ops.take i) e h=some (vc,e1,h1))(hvc:vc)(hbk:lk e1 bk=gB b l)(hx0:Aw true (Av e1 x0)=.v (.pointer (some ⟨b,0,none⟩)))(hxs:Fd h1 (xs.map λx=>Aw true (Av e1 x))=ax)(hrv:EY h1 (xs.map λx=>Aw true (Av e1 x)))(hpu:AS ax=true)(hfl:GQ r=true)(hC:RC P f ax l l' r){vc2:Prop}{e2:Au}{h2:Hp}(hpost:Bm S (c+1) (100*rid+(i+1)) (ops.drop (i+1)) (Ca d r ((bk,.gd false (gL b l'))::e1)) h1=some (vc2,e2,h2))(hvc2:vc2)(hQ:Q .n ⟨e2,h2,c+1⟩):As (Ctx.bd P S nt hb N X hnt) (.reg rid ops) Q ⟨e,h,c⟩:=by
 refine No (Ctx.bd_ok hS) (Eq.refl _) (gk:=bk) hnt (λe=>?_) i hyo hex hvc (Eq.refl _) (λx e=>by cases e) (λe=>by cases e) λo a1 σ1 hk hI hG=>?_
 ·have e':bk=nt+2000000:=e;unfold bk at e';omega
 obtain⟨cl,ho,hcl,hargs⟩:=PU hk;have hV:=F3 (g:=true) rfl hI.t cl.args.toList;rw[<-hargs]at hV;simp only[eZ,RepL]at hV;obtain⟨y,vs,hvs,hy,hV⟩:=hV;have hy:Rep σ1 (Aw true (Av e1 x0)) y:=hy;rw[hx0]at hy;have hy:y=.pointer (some ⟨b,0,none⟩):=hy;subst hy;obtain⟨hkb,hbo,hbr⟩:=hG.2 b l hbk
 let Z:Cf:={σ1 with M:=λ_=>False}
 have ev:Evo σ1 Z:=⟨λ_ h=>⟨h,rfl⟩,λ_ _ l h=>⟨l,h,fA _,λ_=>rfl⟩,λ_ _ h _=>⟨h,λh=>h⟩,rfl,fA _,SameO.refl _⟩
 have hr:=Io (Z:=Z) hI.h ev rfl (λ_ h=>h) _ vs hrv hV;rw[hxs]at hr;have hc:=hC Z vs b (hI.df.gl.mono ev) (λx hx=>hx.elim False.elim (hI.h.ou x)) hpu hr hkb ⟨hbo.1,λh=>h⟩ λg hg=>⟨(hbr g hg).1,λh=>h⟩
 obtain⟨T,hT,hK⟩:=hkb;obtain⟨p,v0,b1,b2,b3⟩:=hK.cells;refine .inr ⟨f,_,?_,hc.mono ?_⟩
 ·have hr:=FA hf (cl.args.map a1.eval) σ1.w;have ha:cl.args.map a1.eval=(Value.pointer (some ⟨b,0,none⟩)::vs).toArray:=by rw[<-hvs];apply Array.ext';simp
  rw[ha]at hr;simp only[execOp,ho,resolve,hcl,Act.eval,Sem.run_bind,Deferred.ofValue,Sem.run_pure,Result.andThen,invoke]
  first|exact hr|(simp[ha];exact hr)
 rintro en w' ⟨v,rfl,g1,g2,g3⟩;have g2:KStep σ1.w w' b:=g2;refine⟨v,rfl,?_⟩
 let σ2:Cf:={σ1 with O:=λx=>σ1.O x\/(l'≠none/\F0 w' b=some x),w:=w'}
 have hrow:∀x,l'≠none->F0 w' b=some x->(σ1.O x/\¬σ1.M x/\F0 σ1.w b=some x\/σ1.w.heap.size<=x)/\x<w'.heap.size:=by
  intro x hl hx;refine⟨?_,?_⟩
  ·rcases g2.row x hx with h|h
   ·exact .inl ⟨(hbr x h).1,(hbr x h).2.1,h⟩
   ·exact .inr h
  ·cases l' with
   |none=>exact absurd rfl hl
   |some m=>obtain⟨T',_,hK'⟩:=g1 m rfl;obtain⟨p',v',c1,c2,c3⟩:=hK'.cells;exact(c3 x (c2▸hx)).1
 have hold:∀x,x<σ1.w.heap.size->x≠b->F0 σ1.w b≠some x->w'.heap[x]? =σ1.w.heap[x]? :=g2.old;have holdM:∀x,x<σ1.w.heap.size->¬σ1.O x->w'.heap[x]? =σ1.w.heap[x]? :=λx hx hO=>hold x hx (λe=>hO (e▸hbo.1)) λe=>hO (hbr x e).1
 have oth:Oth σ1 σ2:={
  rb:=rfl,ra:=rfl,ln:=rfl,al:=rfl,M:=rfl
  ou:=by
   rintro x (hx|⟨hl,hx⟩)
   ·exact⟨u9 (hI.h.ou x hx) g2.sz,λhM=>hI.h.dis x hM hx,λhf=>hf.2.1 hx⟩
   ·obtain⟨h1,h2⟩:=hrow x hl hx;refine⟨h2,λhM=>?_,λhf=>?_⟩
    ·rcases h1 with h1|h1
     ·exact h1.2.1 hM
     ·exact absurd (hI.h.lt x hM) (by omega)
    ·rcases h1 with h1|h1
     ·exact hf.2.1 h1.1
     ·exact absurd hf.2.2 (by omega)
  sz:=g2.sz
  mem:=λx hx=>holdM x (hI.h.lt x hx) λhO=>hI.h.dis x hx hO
  fro:=λx o y hx hc=>by rw[show σ2.w.cell? ⟨x,o,none⟩=σ1.w.cell? ⟨x,o,none⟩from cell_of_heap (holdM x hx.2.2 hx.2.1) o];exact hc
  io:=g2.io}
 refine⟨σ2,gL b l',r,vc2,e2,h2,rfl,oth,?_,?_,?_,If _ v hfl g3,hpost,hvc2,hQ⟩
 ·intro m hm hO;have hlt:=(eY.1 hm).1;refine⟨(holdM m hlt hO).trans hm,λh=>h.elim hO λ⟨hl,hx⟩=>?_⟩;obtain⟨h1|h1,_⟩:=hrow m hl hx
  ·exact hO h1.1
  ·omega
 ·refine⟨oth.ev,λx hx h1 o ho hM=>⟨(hold x (eY.1 ho).1 (λe=>?_) λe=>?_).trans ho,hM⟩,λx hx=>.inl hx,g2.sz,g2.io⟩
  ·subst e;rcases hbo.2.2 with h|h
   ·exact absurd hx (by omega)
   ·exact h1 h
  ·rcases(hbr x e).2.2 with h|h
   ·exact absurd hx (by omega)
   ·exact h1 h
 ·refine⟨s7 hG.1 g2.sz,λb' m hl=>?_⟩;have hl1:AV.gd false (gL b l')=gB b' m:=by simpa[lk]using hl
  cases l' with
  |none=>simp[gL,gB]at hl1
  |some m'=>
   have hl2:gB b m'=gB b' m:=hl1;obtain⟨rfl,rfl⟩:=UZ hl2;refine⟨g1 m' rfl,⟨.inl hbo.1,hbo.2.1,hbo.2.2⟩,λg hg=>?_⟩;obtain⟨h1,_⟩:=hrow g (by simp) hg;refine⟨.inr ⟨by simp,hg⟩,?_,?_⟩
   ·rcases h1 with h1|h1
    ·exact h1.2.1
    ·exact λhM=>absurd (hI.h.lt g hM) (by omega)
   ·rcases h1 with h1|h1
    ·exact(hbr g h1.2.2).2.2
    ·exact .inl (s7 hG.1 h1)
theorem iS{args:List AV}{nt t:Nat}(h:args.length<=nt)(ht:nt<=t):lk (CK 0 args) t=.un:=by rw[HQ,eW (by omega)]
theorem Xr{Z:Cf}{args:List AV}{vs:List Value}{nt:Nat}(hx:RepL Z args vs)(hn:args.length<=nt):TInv Z (CK 0 args) {tmps:=vs.toArray++Array.replicate (nt-vs.toArray.size) undef,defers:=[]}:=λt=>by
 have hlen:=BD hx;rw[HQ];split
 ·rename_i ht;simp only[t7,s6,true_and]at ht;have hg:args[t]? =some args[t]:=eV ht;obtain⟨x,g1,g2⟩:=Ep hx t _ hg;have e1:args.getD (t-0) .un=args[t]:=by simp[ht]
  have hlt':t<vs.length:=by omega
  have e2:(vs.toArray++Array.replicate (nt-vs.toArray.size) undef).getD t undef=x:=by rw[eV hlt']at g1;simp at g1;simp[C9,z7,hlt',g1]
  rw[e1,e2];exact g2
 ·simp[Rep]
theorem Xt{P:Program}{nt n:Nat}{fn:Func}{rvs:List RV}{r:AV}{s':St}{a':Act}{ρ0 Z:Cf}(hr:cRes P fn.results.toList=some rvs)(hI:Inv ρ0 s'.env s'.hp {a' with defers:=[]} nt (n,false))(h:Hv rvs r s')(hO:∀b,Z.M b\/Z.O b->ρ0.O b):∃v',(results fn a'.tmps).run P ρ0.w=.ok v' ρ0.w/\Cw r=true/\Rep (Z.at ρ0.w) r v':=by
 obtain⟨vc,xs,g1,g2,g3,g4,g5⟩:=h;obtain⟨us,k1,k2⟩:=HO hI hr g1 g2;refine⟨_,HP k1,g5,?_⟩;have hone:Rep ρ0 (one xs) (if h:us.toArray.size=1 then us.toArray[0]else .tuple us.toArray):=by
  have hl':=BD k2;unfold one;split
  ·rename_i x;simp only[RepL]at k2;obtain⟨y,ys,rfl,e2,rfl⟩:=k2;simpa using e2
  ·rename_i hno;have hne:us.toArray.size≠1:=by
    intro h1;simp at h1;rw[h1]at hl';cases xs with
    |nil=>simp at hl'
    |cons x xs=>cases xs with
     |nil=>exact hno x rfl
     |cons _ _=>simp at hl'
   rw[dif_neg hne];simp only[Rep];exact⟨us,rfl,k2⟩
 let W:Cf:={ρ0 with M:=λ_=>False}
 have e:Evo ρ0 W:=⟨λ_ h=>⟨h,rfl⟩,λ_ _ l h=>⟨l,h,fA _,λ_=>rfl⟩,λ_ _ h _=>⟨h,λh=>h⟩,rfl,fA _,SameO.refl _⟩
 have h6:=ML (Z:=W) hI.h e rfl (λ_ h=>h) _ _ g3 hone;have h7:=IY _ _ _ g4 h6;refine Rep.ofPure (U:=W) (σ':=Z.at ρ0.w) (λb hb=>?_) (λ_ _=>rfl) r _ g5 h7;exact⟨λh=>hb.2.1 (hO b (.inl h)),λh=>hb.2.1 (hO b (.inr h)),hb.2.2⟩
theorem iT{P:Program}{S:Tab}(hS:TabOK P S){f:Nat}{fn:Func}{c:AC}{rvs:List RV}{args:List AV}{r:AV}(nt:Nat)(hf:P.funcs[f]? =some fn)(hc:E0 P fn=some (c,rvs))(hnt:fn.ntmps=nt)(hbk:nt<=bk)(hn:args.length<=nt)(h:∀hb N,As (Ctx.bd P S nt hb N (λ_=>False) hbk) c (CA rvs r) ⟨CK 0 args,[],0⟩):PCall P f args r:=by
 subst hnt;unfold E0 at hc;split at hc
 rotate_left
 ·simp at hc
 rename_i b hbd;split at hc
 rotate_left
 ·simp at hc
 rename_i c' r' hcc hr;simp only[yE,Wt]at hc;obtain⟨rfl,rfl⟩:=hc;intro U vs hgl hlt hp hx;have hlen:=BD hx
 let Z:=U.fresh
 have hgt:Gl Z:=λb j hj=>⟨⟨λh=>h,by rintro(h|h);exact(hgl b j hj).1.1 h;exact(hgl b j hj).1.2.1 h,(hgl b j hj).1.2.2⟩,(hgl b j hj).2⟩
 have hx':RepL Z args vs:=RepL.ofPure (U:=U) (σ':=Z) (λb hb=>⟨λh=>h,by rintro(h|h);exact hb.1 h;exact hb.2.1 h,hb.2.2⟩) (λ_ _=>rfl) args vs hp hx;have hI:Inv Z (CK 0 args) [] {tmps:=vs.toArray++Array.replicate (fn.ntmps-vs.toArray.size) undef,defers:=[]} fn.ntmps (U.w.heap.size,false):=by refine⟨⟨λn=>rfl,λn j c h=>by simp[hl]at h,λn sz live rows d h=>by simp[hl]at h,?_,λb h=>h.elim,hlt,λb h=>h.elim⟩,Xr hx' hn,by simp;omega,DOK.nil (fA _) hgt⟩;rintro p q b (⟨_,_,j,c,h⟩|⟨_,⟨_,_,_,h⟩,_⟩) _<;>simp[hl]at h
 have hw:=h U.w.heap.size U.w.heap.size b hcc Z _ ⟨hI,λm hm=>hm.elim,fA _,λb l hl=>by rw[iS hn hbk]at hl;cases hl⟩;refine callsIn_wide.1 (callsIn_of_wp_marks (n:=0) hf hbd trivial (wpIn_mono hw ?_));rintro e a' w' ⟨σ',s',e',rfl,h2,h3,h4,h5⟩;have h2:EvoB U.w.heap.size (λ_=>False) Z σ':=h2;have key:∀(s':St),At (Ctx.bd P S fn.ntmps U.w.heap.size U.w.heap.size (λ_=>False) hbk) σ' s' a'->Hv r' r s'->LeavesInM Fence.wide 0 P fn a'.tmps (λe w'=>∃v',e=.returned v'/\(∀(b:Nat)(o:Obj),U.w.heap[b]? =some o->w'.heap[b]? =some o)/\SameO U.w w'/\Cw r=true/\Rep (U.at w') r v') a'.defers .returning σ'.w:=by
  rintro s' hA hk;refine H5 a'.defers σ' (λb hb=>⟨hA.1.h.ou b hb,λhM=>hA.1.h.dis b hM hb⟩) (DOK.of' hA.1.df) λρ0 ko kO kb=>?_
  have hI':Inv ρ0 s'.env s'.hp {a' with defers:=[]} fn.ntmps (U.w.heap.size,false):=⟨hA.1.h.oth ko,hA.1.t.ev ko.ev,hA.1.sz,DOK.nil (s7 hA.1.df.le ko.sz) (hA.1.df.gl.ev ko.ev)⟩
  obtain⟨v',k1,k2,k3⟩:=Xt (Z:=U) hr hI' hk λb hb=>by rw[kO];exact h2.out b hb
  exact⟨v',k1,_,rfl,λb o hb=>kb b o (.inl (eY.1 hb).1) (h2.old b (eY.1 hb).1 (λh=>h) o hb (λh=>h)).1,h2.io.trans ko.io,k2,k3⟩
 cases e with
 |normal=>simp[AE.of]at h4;subst h4;exact key s' h3 h5
 |ret=>simp[AE.of]at h4;subst h4;exact key s' h3 h5
 |exit i=>simp[AE.of]at h4;subst h4;exact h5.elim
 |goto l=>simp[AE.of]at h4
 |panic c=>obtain⟨v,rfl,rfl⟩:=AE.of_panic h4;exact h5.elim
 |outgrown=>simp[AE.of]at h4
def iU(b:Nat)(l':List UInt8)(rvs:List RV)(r:AV):AE->St->Prop|.n,s=>lk s.env bk=gB b l'/\Hv rvs r s|.r,s=>lk s.env bk=gB b l'/\Hv rvs r s|.x _,_=>False|.p _,_=>False
theorem wA{b:Nat}{l':List UInt8}{rvs:List RV}{r:AV}{e:Au}{h:Hp}{c:Nat}{vc:Prop}{xs:List AV}(h0:lk e bk=gB b l')(h1:Gq e h rvs=some (vc,xs))(h2:vc)(h3:Hj h (one xs))(h4:wk (res h (one xs)) r)(h5:Cw r=true):iU b l' rvs r .n ⟨e,h,c⟩:=⟨h0,vc,xs,h1,h2,h3,h4,h5⟩
theorem iV{P:Program}{S:Tab}(hS:TabOK P S){f:Nat}{fn:Func}{c:AC}{rvs:List RV}{args:List AV}{r:AV}{l l':List UInt8}(nt:Nat)(hf:P.funcs[f]? =some fn)(hc:E0 P fn=some (c,rvs))(hnt:fn.ntmps=nt)(hbk:nt<=bk)(hn:args.length+1<=nt)(h:∀hb N X b,As (Ctx.bd P S nt hb N X hbk) c (iU b l' rvs r) ⟨(bk,gB b l)::CK 0 (.v (.pointer (some ⟨b,0,none⟩))::args),[],0⟩):RC P f args l (some l') r:=by
 subst hnt;unfold E0 at hc;split at hc
 rotate_left
 ·simp at hc
 rename_i code hbd;split at hc
 rotate_left
 ·simp at hc
 rename_i c' r' hcc hr;simp only[yE,Wt]at hc;obtain⟨rfl,rfl⟩:=hc;intro U vs b hgl hlt hp hx hK hbo hbr
 let Z:=U.fresh
 have hgt:Gl Z:=λb j hj=>⟨⟨λh=>h,by rintro(h|h);exact(hgl b j hj).1.1 h;exact(hgl b j hj).1.2.1 h,(hgl b j hj).1.2.2⟩,(hgl b j hj).2⟩
 have hx':RepL Z args vs:=RepL.ofPure (U:=U) (σ':=Z) (λb hb=>⟨λh=>h,by rintro(h|h);exact hb.1 h;exact hb.2.1 h,hb.2.2⟩) (λ_ _=>rfl) args vs hp hx;have hx2:RepL Z (.v (.pointer (some ⟨b,0,none⟩))::args) (.pointer (some ⟨b,0,none⟩)::vs):=⟨_,_,rfl,by simp[Rep],hx'⟩
 have hlen:=BD hx2;have hn2:(AV.v (.pointer (some ⟨b,0,none⟩))::args).length<=fn.ntmps:=by simpa using hn
 have hst:=Xr hx2 hn2;have hsz:((Value.pointer (some ⟨b,0,none⟩)::vs).toArray++Array.replicate (fn.ntmps-(Value.pointer (some ⟨b,0,none⟩)::vs).toArray.size) undef).size=fn.ntmps:=by simp only[Array.size_append,Array.size_replicate,List.size_toArray];omega
 have hI:Inv Z ((bk,gB b l)::CK 0 (.v (.pointer (some ⟨b,0,none⟩))::args)) [] {tmps:=(Value.pointer (some ⟨b,0,none⟩)::vs).toArray++Array.replicate (fn.ntmps-(Value.pointer (some ⟨b,0,none⟩)::vs).toArray.size) undef,defers:=[]} fn.ntmps (U.w.heap.size,false):=by
  refine⟨⟨λn=>rfl,λn j c h=>by simp[hl]at h,λn sz live rows d h=>by simp[hl]at h,?_,λb h=>h.elim,hlt,λb h=>h.elim⟩,λt=>?_,hsz,DOK.nil (fA _) hgt⟩
  ·rintro p q b (⟨_,_,j,c,h⟩|⟨_,⟨_,_,_,h⟩,_⟩) _<;>simp[hl]at h
  ·simp only[lk];by_cases ht:bk=t
   ·rw[eX ht];subst ht;have:¬bk<((Value.pointer (some ⟨b,0,none⟩)::vs).toArray++Array.replicate (fn.ntmps-(Value.pointer (some ⟨b,0,none⟩)::vs).toArray.size) undef).size:=by rw[hsz];exact Nat.not_lt.2 hbk
    have h2:((Value.pointer (some ⟨b,0,none⟩)::vs).toArray++Array.replicate (fn.ntmps-(Value.pointer (some ⟨b,0,none⟩)::vs).toArray.size) undef).getD bk undef=undef:=by simp only[Array.getD,this,dif_neg,not_false_eq_true]
    rw[h2];simp[Rep]
   ·rw[eW ht];exact hst t
 let X:Nat->Prop:=λx=>x=b\/F0 U.w b=some x
 have hbi:BI U.w.heap.size X Z b l:=⟨hK,⟨.inr hbo.1,λh=>h,.inr (.inl rfl)⟩,λg hg=>⟨.inr (hbr g hg).1,λh=>h,.inr (.inr hg)⟩⟩
 have hw:=h U.w.heap.size U.w.heap.size X b code hcc Z _ ⟨hI,λm hm=>hm.elim,fA _,λb' m hl=>by
  have hl1:gB b l=gB b' m:=by simpa[lk]using hl
  obtain⟨rfl,rfl⟩:=UZ hl1;exact hbi⟩
 refine callsIn_wide.1 (callsIn_of_wp_marks (n:=0) hf hbd trivial (wpIn_mono hw ?_));rintro e a' w' ⟨σ',s',e',rfl,h2,h3,h4,h5⟩;have h2:EvoB U.w.heap.size X Z σ':=h2;have key:∀(s':St),At (Ctx.bd P S fn.ntmps U.w.heap.size U.w.heap.size X hbk) σ' s' a'->lk s'.env bk=gB b l'/\Hv r' r s'->LeavesInM Fence.wide 0 P fn a'.tmps (λe w'=>∃v,e=.returned v/\(∀m,some l'=some m->∃T,BT T/\KB T w' b m)/\KStep U.w w' b/\Rep (U.at w') r v) a'.defers .returning σ'.w:=by
  rintro s' hA ⟨hgb,hk⟩;obtain⟨⟨T,hT,hk2⟩,o1,o2⟩:=hA.2.2.2 b l' hgb;obtain⟨p,v0,c1,c2,c3⟩:=hk2.cells;refine H5 a'.defers σ' (λb hb=>⟨hA.1.h.ou b hb,λhM=>hA.1.h.dis b hM hb⟩) (DOK.of' hA.1.df) λρ0 ko kO kb=>?_
  have hI':Inv ρ0 s'.env s'.hp {a' with defers:=[]} fn.ntmps (U.w.heap.size,false):=⟨hA.1.h.oth ko,hA.1.t.ev ko.ev,hA.1.sz,DOK.nil (s7 hA.1.df.le ko.sz) (hA.1.df.gl.ev ko.ev)⟩
  obtain⟨v',k1,k2,k3⟩:=Xt (Z:=U) hr hI' hk λb hb=>by rw[kO];exact h2.out b hb
  have hob:∀x,x<σ'.w.heap.size->σ'.O x->ρ0.w.heap[x]? =σ'.w.heap[x]? :=λx hx hO=>(kb x _ (.inr hO) (fC hx)).trans (fC hx).symm
  obtain⟨q1,q2⟩:=hk2.keep (w':=ρ0.w) (hob b hk2.lt o1.1) λg hg=>hob g (c3 g (c2▸hg)).1 (o2 g hg).1
  refine⟨v',k1,v',rfl,λm hm=>?_,⟨λx hx h1 h3=>?_,λg hg=>?_,s7 h2.sz ko.sz,h2.io.trans ko.io⟩,k3⟩
  ·cases hm
   exact⟨T,hT,q1⟩
  ·have:=h2.old x hx (λh=>h.elim h1 h3) _ (fC hx) (λh=>h);rw[kb x _ (.inl hx) this.1];exact(fC hx).symm
  ·rw[q2]at hg;rcases(o2 g hg).2.2 with h|h|h
   ·exact .inr h
   ·subst h;exact absurd hg hk2.ne_row
   ·exact .inl h
 cases e with
 |normal=>simp[AE.of]at h4;subst h4;exact key s' h3 h5
 |ret=>simp[AE.of]at h4;subst h4;exact key s' h3 h5
 |exit i=>simp[AE.of]at h4;subst h4;exact h5.elim
 |goto l=>simp[AE.of]at h4
 |panic c=>obtain⟨v,rfl,rfl⟩:=AE.of_panic h4;exact h5.elim
 |outgrown=>simp[AE.of]at h4
theorem W3{l m:List UInt8}(hl:l.length+m.length<=140737488355328):RC Tryz.prog 166 [.v (.string (sB m))] l (some (l++m)) (.tup [.i m.length,.v .nilIface]):=by intro U vs b hgl hlt hp hx hK hbo hbr;simp only[RepL,Rep]at hx;obtain⟨y,ys,rfl,rfl,rfl⟩:=hx;obtain⟨T,hT,hk⟩:=hK;refine(lF hT b l m U.w hk hl).mono ?_;rintro e w' ⟨rfl,h1,h2⟩;exact⟨_,rfl,λn hn=>by cases hn;exact⟨T,hT,h1⟩,h2,⟨[_,_],rfl,_,_,rfl,by simp[Rep],_,_,rfl,by simp[Rep],rfl⟩⟩
theorem U0{l:List UInt8}(hl:l≠[]):RC Tryz.prog 137 [] l none (.v (.string (sB l))):=by intro U vs b hgl hlt hp hx hK hbo hbr;simp only[RepL]at hx;subst hx;obtain⟨T,hT,hk⟩:=hK;refine(dA b l U.w hk hl).mono ?_;rintro e w' ⟨rfl,h2⟩;exact⟨_,rfl,λn hn=>(by cases hn),h2,(by simp only[Rep,sB])⟩
attribute [go_sem] bk vZ AcE dk
def K2(S:Tab)(hp:Hp)(f:Nat)(args:List AV):Option (Prop×Value):=match Fs args with
 |some n=>match S.p f args (CU hp n 0 40)with|some (vc,v)=>some (H1 args=true/\Il (CU hp n 0 40)=true/\(CU hp n 0 40).isEmpty=false/\JK hp n (CU hp n 0 40).length/\vc,v)|none=>none
 |none=>none
theorem W4{S:Tab}{hp hp':Hp}{f:Nat}{xs:List AV}(h:Ag hp hp' (HX hp xs)):K2 S hp f xs=K2 S hp' f xs:=by
 unfold K2;cases hb:Fs xs with
 |none=>rfl
 |some n=>
  have h5:∀j,hl hp (.c n j)=hl hp' (.c n j):=λj=>h (.b n) (QQ hb) _ ⟨j,rfl⟩
  have h6:JK hp n=JK hp' n:=by funext k;unfold JK;simp only[h5]
  simp only[I0 h5,h6]
section
variable{P:Program}{S:Tab}{U:Cf}{hp:Hp}{vc:Prop}
theorem iW(hS:TabOK P S)(gl:Gl U)(h:HInv U hp){f:Nat}{args:List AV}{vs:List Value}{v:Value}(hx:RepL U args vs)(hex:K2 S hp f args=some (vc,v))(hvc:vc):FU P f/\Calls P f vs.toArray U.w λe w'=>∃σ',e=.panicked [⟨v,false,false⟩]/\σ'.w=w'/\Evo U σ'/\HInv σ' hp/\∀m,σ'.al m->U.al m:=by
 unfold K2 at hex;split at hex
 ·rename_i n hn;split at hex
  ·rename_i p v' hs;simp only[yE,Wt]at hex;obtain⟨rfl,rfl⟩:=hex;obtain⟨v1,v4,v5,v6,v7⟩:=hvc;obtain⟨k1,k2⟩:=hS.p f _ _ _ _ n hs v7 hn;refine⟨k1,?_⟩;have hc:∀j c,(CU hp n 0 40)[j]? =some c↔hl hp (.c n j)=some c:=λj c=>by
    refine⟨λh=>by simpa using MQ h,λh=>?_⟩;rcases VN j (CU hp n 0 40).length with h1|h1
    ·rw[eV h1];have:=MQ (eV h1);rw[s6,h]at this;exact this.symm
    ·rw[v6 j h1]at h;cases h
   refine(k2 (U.only n) vs (λb j hj=>⟨(gl b j hj).1.only,(gl b j hj).2⟩) (h.only (λj c h=>(hc j c).1 h) v4) (λm hm=>hm.1) (NY v1 hn hx)).mono ?_;rintro en w' ⟨σ',rfl,hw,ev,hcel⟩;obtain⟨e1,e2⟩:=h.back (us:=[]) hc v5 v4 rfl hw ev hcel;exact⟨U.at w',rfl,rfl,e1,e2,λm hm=>hm⟩
  ·simp at hex
 ·simp at hex
theorem U1{F:Fence}(hS:TabOK P S)(hF:Wide F){n nt i:Nat}{hb:HB}{ops:Array Oper}{Q:Exit->Act->World->Prop}{K:Act->World->Prop}{o:Oper}{a:Act}{env:Au}{d:Option Nat}{f:Nat}{ys:List Opd}{v:Value}(hi:ops[i]? =some o)(hc:KA P nt ops o=some ⟨d,none,.call f ys⟩)(hI:Inv U env hp a nt hb)(hex:K2 S hp f (ys.map λx=>Aw true (Av env x))=some (vc,v))(hvc:vc)(hQ:∀σ',Evo U σ'->HInv σ' hp->(∀m,σ'.al m->U.al m)->Q (.panic [⟨v,false,false⟩]) a σ'.w):wpOpIn F n P ops Q i K a U.w:=by
 obtain⟨c,ho,hcal,rfl,hd,hg⟩:=Vv hc rfl;have hw:=Gb (ao:=none) hI.t hg rfl;obtain⟨k1,k2⟩:=iW hS hI.df.gl hI.h (F3 rfl hI.t c.args.toList) hex hvc;unfold wpOpIn;simp only[hi,hw,if_true];refine⟨λf _=>hF.fn f,?_⟩;rw[Oper.semAt_eq F.round a.eval o (λc' e=>by rw[ho]at e;cases e)];have hr:(execOp a.eval o).run P U.w=.ok (.enter f (c.args.toList.map a.eval).toArray) U.w:=by have hr:=FA k1 (c.args.map a.eval) U.w;rw[<-Array.toList_map,Q7];simp[execOp,ho,resolve,hcal,Act.eval,Deferred.ofValue,invoke,hr]
 rw[hr];refine⟨λh=>by simp[hF.depth]at h,hF.calls (k2.mono ?_)⟩;rintro e w' ⟨σ',rfl,rfl,ev,hh,hal⟩;exact hQ σ' ev hh hal
end
def O2:List AOp->Au->Au|[],e=>e|o::l,e=>Ca o.d .un (O2 l e)
theorem aJ:∀(l:List AOp)(e:Au)(t:Nat),lk (O2 l e) t=.un\/(lk (O2 l e) t=lk e t/\∀o∈l,o.d≠some t)
 |[],e,t=>.inr ⟨rfl,by simp⟩
 |o::l,e,t=>by
  simp only[O2,RY];by_cases h:o.d=some t
  ·rw[eX h];exact .inl rfl
  ·rw[eW h];rcases aJ l e t with h1|⟨h1,h2⟩
   ·exact .inl h1
   ·exact .inr ⟨h1,λp hp=>by rcases lJ.1 hp with rfl|hp;exact h;exact h2 p hp⟩
theorem Xu{nt t:Nat}(ht:nt<=t):∀{l:List AOp}{e:Au},(∀o∈l,∀d,o.d=some d->d<nt)->lk (O2 l e) t=lk e t
 |[],_,_=>rfl
 |o::l,e,h=>by simp only[O2];rw[G2 (h o (by simp)) ht];exact Xu ht λp hp=>h p (by simp[hp])
theorem iX{P:Program}{nt:Nat}{ops':Array Oper}{ops:List AOp}(h:G8 P nt ops' ops'.toList=some ops):∀o∈ops,∀d,o.d=some d->d<nt:=by
 obtain⟨c1,c2⟩:=E5 h;intro o ho;obtain⟨i,hi⟩:=List.getElem?_of_mem ho;have hlt:i<ops'.toList.length:=by rw[<-c1];exact(i5.1 hi).1
 obtain⟨x,g1,g2⟩:=c2 i _ (eV hlt);rw[hi]at g1;cases g1
 exact Gp g2
variable{V:Ctx}
theorem iY(hΓ:V.OK)(i:Nat){rid:Nat}{ops:List AOp}{Q:AE->St->Prop}{e e1:Au}{h h1:Hp}{c:Nat}{vc vp:Prop}{d:Option Nat}{f:Nat}{ys:List Opd}{v:Value}(hyo:ops[i]? =some ⟨d,none,.call f ys⟩)(hex:Bm V.S (c+1) (100*rid) (ops.take i) e h=some (vc,e1,h1))(hvc:vc)(hp:K2 V.S h1 f (ys.map λx=>Aw true (Av e1 x))=some (vp,v))(hvp:vp)(hQ:Q (.p v) ⟨e1,h1,c+1⟩):As V (.reg rid ops) Q ⟨e,h,c⟩:=by
 intro code hc U a hA;cases code with
 |region id ops' d'=>
  simp only[cCode]at hc;obtain⟨l0,hx0,⟨rfl,e0⟩|⟨_,_,_,_,e0⟩⟩:=Cz hc
  ·cases e0
   refine wpIn_region ?_;obtain⟨c1,c2⟩:=E5 hx0;obtain⟨t1,t2⟩:=Em i hx0;have hi:i<ops.length:=(i5.1 hyo).1;have hsz:ops.length=ops'.size:=c1.trans (by simp);have hi':i<ops'.size:=by omega
   obtain⟨yo',g1,g2⟩:=c2 i ops'[i] (by simp);rw[hyo]at g1;cases g1
   have hr:List.range ops'.size=List.range' 0 (ops'.toList.take i).length++i::List.range' (i+1) (ops'.size-(i+1)):=by
    have e1:(ops'.toList.take i).length=i:=by simp;omega
    rw[e1,CY,show List.range' 0 ops'.size=List.range' 0 (i+(ops'.size-i)) by rw[show i+(ops'.size-i)=ops'.size by omega],<-List.range'_append_1,s6,show ops'.size-i=(ops'.size-(i+1))+1 by omega,L8]
   rw[hr];refine Ij hΓ (cnt:=c) (100*rid) e _ (ops'.toList.take i) 0 (ops.take i) U e e1 h h1 a vc (λ_ _=>rfl) (λj hj=>?_) t1 hex hvc hA.1 (λm hm=>.inl (hA.2.1 m hm)) λa1 σ1 ev1 hI1 hal1 hfar1=>?_
   ·have:j<i:=by simp at hj;omega
    simp[zQ,this]
   rw[wpOpsIn_cons];refine U1 hΓ.S hΓ.F (fC hi') g2 hI1 hp hvp λσ2 ev2 hh2 hal2=>?_
   exact⟨σ2,⟨e1,h1,c+1⟩,_,rfl,V.ofE (ev1.trans ev2),⟨⟨hh2,hI1.t.mono ev2,hI1.sz,hI1.df.mono ev2⟩,λm hm=>by show m.2<=c+1;rcases hal1 m (hal2 m hm)with h|⟨h,_⟩<;>omega,V.g hA.2.2 (ev1.trans ev2) λt ht=>.inr (hfar1 t ht)⟩,rfl,hQ⟩
  ·cases e0
 |seq x y=>simp only[cCode]at hc;split at hc<;>simp at hc
 |cond c x y=>simp only[cCode]at hc;split at hc<;>simp at hc
 |rangeFunc f ps x y=>simp only[cCode]at hc;split at hc<;>simp at hc
 |_=>simp[cCode]at hc
def RD(S:Tab)(ver pk:Nat)(v:Value)(fk:AV)(k:Nat)(env:Au)(hp:Hp)(o:AOp):Option (Prop×AV×Hp):=
 if k=pk then(match o.g,o.k with
  |none,.call f ys=>match K2 S hp f (ys.map λx=>Aw true (Av env x))with|some (vc,v')=>some (vc/\v'=v,fk,[])|none=>none
  |_,_=>none)
 else JM S (k,ver) env hp o
theorem aK{S:Tab}{ver pk k:Nat}{v:Value}{fk:AV}{env env':Au}{hp hp':Hp}{o:AOp}(ht:∀t∈L7 o,lk env t=lk env' t)(hh:Ag hp hp' (MT env hp o)):RD S ver pk v fk k env hp o=RD S ver pk v fk k env' hp' o:=by
 unfold RD;by_cases h:k=pk
 ·rw[eX h,eX h];obtain⟨d,g,kk⟩:=o;cases g with
  |some p=>rfl
  |none=>
   cases kk with
   |call f ys=>
    have h1:(ys.map λx=>Aw true (Av env x))=ys.map λx=>Aw true (Av env' x):=Hx λt h=>ht t (by simp[L7,Ld,h])
    simp only[MT,Fx,Ed]at hh;simp only;rw[<-h1,W4 hh]
   |_=>rfl
 ·rw[eW h,eW h];exact N6 ht hh
def Np(D:List AOp):List AOp->Bool|[]=>true|o::r=>bif D.all (λm=>Ji m o)then !hw o.k&&Np D r else Np (o::D) r
theorem NR{B:List Nat}{n:Nat}{L:List Nat}{ao:Nat->AOp}(hD:Done n B L)(tmp:∀k j,k<j->j<n->(B.getD j 0).testBit k=true\/Ji (ao k) (ao j)=true):∀(l:List AOp)(D:List AOp)(k:Nat),Np D l=true->(∀i o,l[i]? =some o->ao (k+i)=o)->k+l.length=n->(∀m∈D,∃j,j<k/\ao j=m/\j∉L)->∀i,i<l.length->k+i∈L->hw (ao (k+i)).k=false
 |[],_,_,_,_,_,_,i,hi,_=>by simp at hi
 |o::l,D,k,hq,hl,hn,hDD,i,hi,hL=>by
  have hk:ao k=o:=by simpa using hl 0 o rfl
  have hl':∀i p,l[i]? =some p->ao (k+1+i)=p:=λi p h=>by rw[show k+1+i=k+(i+1) by omega];exact hl (i+1) p (by simpa using h)
  simp only[pC]at hn hi;simp only[Np]at hq;cases hall:D.all λm=>Ji m o with
  |true=>
   rw[hall,Cg,lP]at hq;rcases i with _|i
   ·rw[OQ,hk];simpa using hq.1
   ·rw[show k+(i+1)=k+1+i by omega]at hL⊢;exact NR hD tmp l D (k+1) hq.2 hl' (by omega) (λm hm=>by obtain⟨j,a,b⟩:=hDD m hm;exact⟨j,by omega,b⟩) i (by omega) hL
  |false=>
   rw[hall,tN]at hq;have hkL:k∉L:=λh=>by
    obtain⟨m,hm,hf⟩:∃m∈D,Ji m o=false:=by simpa[List.all_eq_false]using hall
    obtain⟨j,h1,rfl,h2⟩:=hDD m hm;rcases tmp j k h1 (by omega)with h3|h3
    ·exact h2 (hD.cl k h j h3)
    ·rw[hk,hf]at h3;cases h3
   rcases i with _|i
   ·exact absurd hL hkL
   ·rw[show k+(i+1)=k+1+i by omega]at hL⊢;refine NR hD tmp l (o::D) (k+1) hq hl' (by omega) (λm hm=>?_) i (by omega) hL;rcases lJ.1 hm with rfl|hm
    ·exact⟨k,by omega,hk,hkL⟩
    ·obtain⟨j,a,b⟩:=hDD m hm;exact⟨j,by omega,b⟩
theorem U2{rec:Nat->Rec}{env:Au}{t:Nat}:∀(L:List Nat),(∀i∈L,(rec i).d≠some t)->lk (Fv rec env L) t=lk env t
 |[],_=>rfl
 |i::L,h=>by simp only[Fv,RY];rw[eW (h i (by simp))];exact U2 L λj hj=>h j (by simp[hj])
theorem Xv{rec:Nat->Rec}{hp:Hp}:∀(L:List Nat),(∀i∈L,(rec i).ws=[])->Hy rec hp L=hp
 |[],_=>rfl
 |i::L,h=>by simp only[Hy,h i (by simp),nJ];exact Xv L λj hj=>h j (by simp[hj])
theorem iZ(hΓ:V.OK)(p:Nat)(fk:AV){rid:Nat}{ops:List AOp}{un:List (Nat×Nat)}{Q:AE->St->Prop}{e e':Au}{h h':Hp}{c:Nat}{vc:Prop}{recs:List Rec}{d:Option Nat}{f:Nat}{ys:List Opd}{v:Value}(hyo:ops[p]? =some ⟨d,none,.call f ys⟩)(hex:JH (RD V.S (c+1) (100*rid+p) v fk) (100*rid) ops e h=some (vc,e',h',recs))(hun:N8 recs un=true)(hvc:vc)(hq:((ops.take p).all λo=> !hw o.k)=true)(hq2:Np (ops.drop p|>.take 1) (ops.drop (p+1))=true)(hQ:Q (.p v) ⟨O2 ops e,h,c+1⟩):As V (.drw rid ops un) Q ⟨e,h,c⟩:=by
 intro code hc U a hA;cases code with
 |region id ops' d=>
  simp only[cCode]at hc;obtain⟨l,hx,⟨_,e⟩|⟨rfl,hf,un',hu,e⟩⟩:=Cz hc
  ·cases e
  ·cases e
   refine wpIn_region_any hf ?_;obtain⟨B,b1,b2,rfl⟩:=Od hu;obtain⟨c1,c2⟩:=E5 hx;have hlen:ops.length=ops'.size:=by simpa using c1
   have hrl:=Kk hex;have hop:∀i o,ops'[i]? =some o->∃x,ops[i]? =some x/\KA V.P V.nt ops' o=some x:=λi o ho=>c2 i o (by simpa using ho)
   have hao:∀i x,ops[i]? =some x->ops.getD i default=x:=λi x h=>by simp[eT,h]
   have hsp:=LL (rec:=λi=>recs.getD i default) (env0:=e) (hp0:=h) (all:=ops) (bs:=100*rid) ops 0 recs vc e' h' (λi=>by simp) hex hvc (λi hi=>by
    have:i<recs.length:=by omega
    simp[eT,this])
   simp only[s6]at hsp;obtain⟨e1,e2,run⟩:=hsp;have get:∀i,i<ops.length->ops[i]? =some (ops.getD i default):=λi hi=>by simp[eT,hi]
   have hp:p<ops.length:=(i5.1 hyo).1;have hpo:=hao p _ hyo;have ne:∀i,i<ops.length->hw (ops.getD i default).k=false->100*rid+i≠100*rid+p:=λi hi hf he=>by
    have:i=p:=by omega
    subst this;rw[hpo]at hf;simp[hw]at hf
   have hws:∀i,i<ops.length->hw (ops.getD i default).k=false->(recs.getD i default).ws=[]:=λi hi hf=>by obtain⟨_,_,g,_⟩:=run i _ (get i hi);unfold RD at g;rw[eW (ne i hi hf)]at g;exact QR hf g
   have hrd:∀i,i<ops.length->ht (ops.getD i default).k=false->(recs.getD i default).rd=[]:=λi hi h=>by obtain⟨_,_,_,_,g⟩:=run i _ (get i hi);rw[g];exact PY h
   have G:Good V.P (λi e h=>RD V.S (c+1) (100*rid+p) v fk (100*rid+i) e h (ops.getD i default)) V.nt ops.length ops' B (λi=>recs.getD i default) e h λi=>ops.getD i default:=
    {cg:=λi e e' h h' ht hh=>aK ht hh
     sz:=Nat.le_of_eq hlen
     bef:=λi o ho=>by have:=LI b1 i o (by simpa using ho);simpa using this
     op:=λi o ho=>by obtain⟨x,h1,h2⟩:=hop i o ho;simp only[hao i x h1];exact h2
     run:=λi hi=>run i _ (get i hi)
     tmp:=λk j hk hj=>by
      have h1:=Oa b2 j _ (get j hj);rw[s6]at h1;have h2:=LJ h1 k (ops.getD k default) (by rw[zQ,eX hk];exact get k (by omega))
      rwa [s6]at h2
     mem:=λk j hk hj=>by
      have h2:=LK (B:=B.getD j 0) (j:=j) (o:=ops.getD j default) (l:=ops.take j) (k:=0) k (ops.getD k default) (by rw[zQ,eX hk];exact get k (by omega));rw[s6]at h2;rcases h2 with h|h|h
      ·exact .inl h
      ·right;right;simp only[Fj,KV]at h;have hk':k<ops.length:=by omega
       rcases h.1 with g1|g1
       ·rcases h.2 with g2|g2
        ·exact .inr (.inr ⟨hws k hk' g1,hrd k hk' g2⟩)
        ·exact .inl ⟨hws k hk' g1,hws j hj g2⟩
       ·exact .inr (.inl ⟨hws j hj (Zd g1),hrd j hj g1⟩)
      ·exact .inr (.inl (Pd hun k j (Ob (all:=ops) (j:=0) j _ (get j hj) _ (by rw[s6];exact h))))}
   have far:=iX hx;obtain⟨σ',w1,w2,w3⟩:=hA.drawn (U.w.drawn+1);rw[<-w1];refine XL (bs:=100*rid) (λi=>i=p) G hlen.symm (λhall=>absurd rfl (hall p hp)) hA.2.2 (λi o L σ1 a1 K hin g2 hst hD ha ho ev1 hI hal hK=>?_) ops'.size [] _ σ' a (by simp) ⟨by simp,by simp,.nil⟩ (by simp) (λi hi=>?_) (by rw[Oc,hlen]) w2 w3.1 λm hm=>.inl (w3.2.1 m hm)
   ·obtain⟨vc,hvc,hex,hd,_⟩:=G.run i hin;rw[<-G.same hD hin g2 ha]at hex;simp only[RD]at hex;by_cases hip:i=p
    ·subst hip;rw[eX rfl,hpo]at hex;simp only at hex;have hiL:i∉L:=g2;have q1:∀j∈L,hw (ops.getD j default).k=false:=λj hj=>by
      have hjn:=hD.lt j hj;rcases Nat.lt_trichotomy j i with hlt|heq|hgt
      ·have:=Ft.1 hq (ops.getD j default) (tU (i:=j) (by rw[zQ,eX hlt];exact get j hjn));simpa using this
      ·exact absurd hj (heq▸hiL)
      ·have:=NR hD G.tmp (ops.drop (i+1)) _ (i+1) hq2 (λk o ho=>by rw[S6]at ho;exact hao _ _ ho) (by simp;omega) (λm hm=>?_) (j-(i+1)) (by simp;omega) (by rw[show i+1+(j-(i+1))=j by omega];exact hj)
       ·rwa [show i+1+(j-(i+1))=j by omega]at this
       ·refine⟨i,Wm i,?_,hiL⟩;obtain⟨k,hk⟩:=List.getElem?_of_mem hm;rw[zQ]at hk;split at hk
        ·rename_i hk1;rw[S6,show i+k=i by omega]at hk;exact hao _ _ hk
        ·cases hk
     have hph:Hy (λi=>recs.getD i default) h L=h:=Xv L λj hj=>hws j (hD.lt j hj) (q1 j hj)
     rw[hph]at hI hex;split at hex
     ·rename_i vp v' hpan;simp only[yE,Wt]at hex;obtain⟨rfl,_,_⟩:=hex;obtain⟨hvp,rfl⟩:=hvc;have hco:=G.op i o ho;rw[hpo]at hco;refine U1 hΓ.S hΓ.F ho hco hI hpan hvp λσ2 ev2 hh2 hal2=>?_
      have hfar:∀t,V.nt<=t->lk (O2 ops e) t=lk e t:=λt ht=>Xu ht far
      refine⟨σ2,⟨O2 ops e,h,c+1⟩,_,rfl,V.ofE (ev1.trans ev2),⟨⟨hh2,λt=>?_,hI.sz,?_⟩,λm hm=>?_,V.g hA.2.2 (ev1.trans ev2) λt ht=>.inr (hfar t ht)⟩,rfl,hQ⟩
      ·rcases aJ ops e t with h1|⟨h1,h2⟩
       ·rw[h1];simp[Rep]
       ·rw[h1];have h3:=hI.t.mono ev2 t
        rwa [U2 L λj hj=>?_]at h3
        obtain⟨_,_,_,hdj,_⟩:=G.run j (hD.lt j hj);rw[hdj];exact h2 _ (tU (get j (hD.lt j hj)))
      ·have h3:=hI.df.mono ev2;rw[QS (t:=dk V.nt) L (λj hj=>G.far j (hD.lt j hj)) (Wp _ _)]at h3;rw[hfar (dk V.nt) (Wp _ _)];exact h3
      ·rcases hal m (hal2 m hm)with h|⟨k,_,rfl⟩
       ·exact Nat.le_succ_of_le h
       ·exact fA _
     ·cases hex
    ·rw[eW (by omega)]at hex;refine Ki hΓ.S hΓ.F ho (G.op i o ho) hI ⟨λh=>?_,c+1,λm hm=>by rcases hal m hm with h|⟨k,_,rfl⟩;exact Nat.le_succ_of_le h;exact fA _⟩ hex hvc (hK hip);rcases hal _ h with h|⟨k,hk,e⟩
     ·exact absurd h (Nat.not_succ_le_self c)
     ·simp only[Wt,Nat.add_left_cancel_iff,and_true]at e;exact g2 (e▸hk)
   ·simp[Array.getD,hi]
 |seq x y=>simp only[cCode]at hc;split at hc<;>simp at hc
 |cond c x y=>simp only[cCode]at hc;split at hc<;>simp at hc
 |rangeFunc f ps x y=>simp only[cCode]at hc;split at hc<;>simp at hc
 |_=>simp[cCode]at hc
theorem Iw{b:AC}{Q:AE->St->Prop}{s:St}{v:Value}(h:Q (.p v) s):Cn V b Q (.p v) s:=h
theorem Ix{id:Nat}{Q:AE->St->Prop}{s:St}{v:Value}(h:Q (.p v) s):B6 id Q (.p v) s:=h
theorem IX{b:AC}{Q:AE->St->Prop}{m:Nat}{s:St}{v:Value}(h:Q (.p v) s):SZ V b Q m (.p v) s:=h
theorem H3{X:Type}{I:X->St}{Pre:X->Prop}{μ:X->Nat}{n:Nat}{Q:AE->St->Prop}{s:St}{v:Value}(h:Q (.p v) s):BK I Pre μ n Q (.p v) s:=h
def wB(v:Value)(K:St->Prop):AE->St->Prop|.p u,s=>u=v/\K s|_,_=>False
theorem wC{v:Value}{K:St->Prop}{s:St}(h:K s):wB v K (.p v) s:=⟨rfl,h⟩
theorem aL{P:Program}{S:Tab}(hS:TabOK P S){f:Nat}{fn:Func}{c:AC}{rvs:List RV}{n:Nm}{args cells:List AV}{v:Value}(nt:Nat)(hf:P.funcs[f]? =some fn)(hc:E0 P fn=some (c,rvs))(hnt:fn.ntmps=nt)(hn:args.length<=nt)(h:∀hb,As (Ctx.fn P S nt hb) c (wB v λs=>∀j c,hl (DM n 0 cells) (.c n j)=some c->hl s.hp (.c n j)=some c) ⟨CK 0 args,DM n 0 cells,n.2⟩):Ry P f n args cells v:=by
 intro U vs hgl hI hal hv;subst hnt;unfold E0 at hc;split at hc
 ·rename_i b hbd;split at hc
  ·rename_i c' r' g1 g2;simp at hc;obtain⟨rfl,rfl⟩:=hc;have hlen:=BD hv;have hw:=h U.w.heap.size b g1 U {tmps:=vs.toArray++Array.replicate (fn.ntmps-vs.toArray.size) undef,defers:=[]} ?_
   ·refine callsIn_wide.1 (callsIn_of_wp_marks (n:=0) hf hbd trivial (wpIn_mono hw ?_));rintro e a' w' ⟨σ',s',e',rfl,ev,h3,h4,h5⟩;have ev:Evo U σ':=ev;cases e with
    |panic c=>
     obtain⟨v,rfl,rfl⟩:=AE.of_panic h4;obtain⟨rfl,h5⟩:=h5;have:=N4 (dd:=[]) (u:=.panicking [⟨v,false,false⟩]) (F:=Fence.wide) (n:=0) (P:=P) (fn:=fn) (tmps:=a'.tmps) (R:=λe w'=>∃σ',e=.panicked [⟨v,false,false⟩]/\σ'.w=w'/\Evo U σ'/\(∀j c,hl (DM n 0 cells) (.c n j)=some c->CelF σ' n j c)) (by simp) a'.defers σ' (λb hb=>⟨h3.1.h.ou b hb,λhM=>h3.1.h.dis b hM hb⟩) (DOK.of' h3.1.df) λW ko kO kb=>?_
     ·rwa [qF]at this
     ·have evρ:Evo U W:=⟨λn hn=>by rw[ko.al,ko.rb];exact ev.box n hn,λn hn l' hl'=>by rw[ko.ra];rw[ko.ln]at hl';exact ev.arr n hn l' hl',λb o hb hm=>by obtain⟨q1,q2⟩:=ev.fro b o hb hm;exact⟨kb b o (.inl (eY.1 hb).1) q1,by rw[ko.M];exact q2⟩,kO.trans ev.out,s7 ev.sz ko.sz,ev.io.trans ko.io⟩
      exact⟨W,rfl,rfl,evρ,λj c hj=>(h3.1.h.oth ko).cel n j c (h5 j c hj)⟩
    |normal=>simp[AE.of]at h4;subst h4;exact h5.elim
    |ret=>simp[AE.of]at h4;subst h4;exact h5.elim
    |exit i=>simp[AE.of]at h4;subst h4;exact h5.elim
    |goto l=>simp[AE.of]at h4
    |outgrown=>simp[AE.of]at h4
   ·refine⟨⟨hI,λt=>?_,by show _=fn.ntmps;simp;omega,DOK.nil (fA _) hgl⟩,λm hm=>by rw[hal m hm];exact fA _,trivial⟩;rw[HQ];split
    ·rename_i ht;simp only[t7,s6,true_and]at ht;have hg:args[t]? =some args[t]:=eV ht;obtain⟨x,g1,g2⟩:=Ep hv t _ hg;have e1:args.getD (t-0) .un=args[t]:=by simp[ht]
     have hlt':t<vs.length:=by omega
     have e2:(vs.toArray++Array.replicate (fn.ntmps-vs.toArray.size) undef).getD t undef=x:=by rw[eV hlt']at g1;simp at g1;simp[C9,z7,hlt',g1]
     rw[e1,e2];exact g2
    ·simp[Rep]
  ·simp at hc
 ·simp at hc
attribute [go_sem] K2 RD JH O2
theorem QM{V:Ctx}{Fa:Prop}(hΓ:V.OK)(fa:Fa)(i:Nat){rid:Nat}{ops:List AOp}{Q:AE->St->Prop}{e e1:Au}{h h1:Hp}{c:Nat}{vc vp:Prop}{d:Option Nat}{f:Nat}{ys:List Opd}{p:Value}(hQ:Q (.p p) ⟨e1,h1,c+1⟩)(hyo:ops[i]? =some ⟨d,none,.call f ys⟩:=by rfl)(hex:Fa->Bm V.S (c+1) (100*rid) (ops.take i) e h=some (vc,e1,h1):=by intro fa;simp only[go_sem,seval,fa]<;>eq_refl)(hvc:Fa->vc:=by intro fa;simp only[go_sem,seval,fa])(hp:Fa->K2 V.S h1 f (ys.map λx=>Aw true (Av e1 x))=some (vp,p):=by intro fa;simp only[go_sem,seval,fa]<;>eq_refl)(hvp:Fa->vp:=by intro fa;simp only[go_sem,seval,fa]):As V (.reg rid ops) Q ⟨e,h,c⟩:=iY hΓ i hyo (hex fa) (hvc fa) (hp fa) (hvp fa) hQ
theorem AcF{V:Ctx}{Fa:Prop}(hΓ:V.OK)(fa:Fa)(i:Nat)(fk:AV){rid:Nat}{ops:List AOp}{un:List (Nat×Nat)}{Q:AE->St->Prop}{e e':Au}{h h':Hp}{c:Nat}{vc:Prop}{recs:List Rec}{d:Option Nat}{f:Nat}{ys:List Opd}{p:Value}(hQ:Q (.p p) ⟨O2 ops e,h,c+1⟩)(hyo:ops[i]? =some ⟨d,none,.call f ys⟩:=by rfl)(hex:Fa->JH (RD V.S (c+1) (100*rid+i) p fk) (100*rid) ops e h=some (vc,e',h',recs):=by intro fa;simp only[go_sem,seval,fa]<;>eq_refl)(hun:N8 recs un=true:=by simp only[go_sem,seval])(hvc:Fa->vc:=by intro fa;repeat' (first|omega|(simp only[go_sem,seval,fa];done)|(refine And.intro ?_ ?_)))(hq:((ops.take i).all λo=> !hw o.k)=true:=by rfl)(hq2:Np (ops.drop i|>.take 1) (ops.drop (i+1))=true:=by rfl):As V (.drw rid ops un) Q ⟨e,h,c⟩:=iZ hΓ i fk hyo (hex fa) hun (hvc fa) hq hq2 hQ
end
open Go
def J0:List (List AV)->List (List AV)->Prop|[],[]=>True|r::rs,s::ss=>Ih r s/\J0 rs ss|_,_=>False
mutual
theorem rH:∀x:AV,wk x x
 |.sl _ _ _ _=>⟨rfl,.inl rfl,λh=>h⟩
 |.agg a=>NS a
 |.tup a=>NS a
 |.v _=>rfl
 |.ro _ _=>rfl
 |.clo _ _ _=>rfl
 |.box _ _=>rfl
 |.own _ _=>rfl
 |.elem _ _ _ _ _=>rfl
 |.gd _ _=>rfl
 |.mp _=>rfl
 |.un=>rfl
theorem NS:∀xs:List AV,Ih xs xs
 |[]=>trivial
 |x::xs=>⟨rH x,NS xs⟩
end
theorem L5:∀rs:List (List AV),J0 rs rs
 |[]=>trivial
 |r::rs=>⟨NS r,L5 rs⟩
theorem Xw:∀(xs ys:List AV),Ih xs ys->xs.length=ys.length
 |[],[],_=>rfl
 |_::xs,_::ys,h=>by simp only[Ih]at h;simp[Xw xs ys h.2]
 |[],_::_,h=>by simp[Ih]at h
 |_::_,[],h=>by simp[Ih]at h
theorem Xx:∀(xs ys:List (List AV)),J0 xs ys->xs.length=ys.length
 |[],[],_=>rfl
 |_::xs,_::ys,h=>by simp only[J0]at h;simp[Xx xs ys h.2]
 |[],_::_,h=>by simp[J0]at h
 |_::_,[],h=>by simp[J0]at h
theorem U3:∀(xs ys:List (List AV)),J0 xs ys->(∀r∈xs,AS r=true)->∀r∈ys,AS r=true
 |[],[],_,_=>by simp
 |x::xs,y::ys,h,hp=>by
  simp only[J0]at h;intro r hr;rcases lJ.1 hr with rfl|hr
  ·exact Mi x r h.1 (hp x (by simp))
  ·exact U3 xs ys h.2 (λr hr=>hp r (by simp[hr])) r hr
 |[],_::_,h,_=>by simp[J0]at h
 |_::_,[],h,_=>by simp[J0]at h
theorem Tw{U:Cf}{b:Nat}:∀(xs ys:List AV)(o:Nat),Ih xs ys->RepCells U b o xs->RepCells U b o ys
 |[],[],_,_,h=>h
 |x::xs,y::ys,o,h,hr=>by simp only[Ih]at h;simp only[RepCells]at hr⊢;obtain⟨⟨v,h1,h2,h3⟩,h4⟩:=hr;exact⟨⟨v,h1,h2,IY x y v h.1 h3⟩,Tw xs ys (o+1) h.2 h4⟩
 |[],_::_,_,h,_=>by simp[Ih]at h
 |_::_,[],_,h,_=>by simp[Ih]at h
theorem U4{U:Cf}{sz b:Nat}:∀(xs ys:List (List AV))(o:Nat),J0 xs ys->RepRows U sz b o xs->RepRows U sz b o ys
 |[],[],_,_,h=>h
 |x::xs,y::ys,o,h,hr=>by simp only[J0]at h;simp only[RepRows]at hr⊢;exact⟨by rw[<-Xw x y h.1];exact hr.1,Tw x y o h.1 hr.2.1,U4 xs ys (o+sz) h.2 hr.2.2⟩
 |[],_::_,_,h,_=>by simp[J0]at h
 |_::_,[],_,h,_=>by simp[J0]at h
mutual
def Js:AV->AV->Prop|.sl z f rows _,.sl z' f' rows' _=>J0 rows rows'/\(z=z'\/rows=[])/\(f'=true->f=true)|.agg a,.agg b=>JP a b|.tup a,.tup b=>JP a b|x,y=>x=y
def JP:List AV->List AV->Prop|[],[]=>True|x::xs,y::ys=>Js x y/\JP xs ys|_,_=>False
end
mutual
theorem MO{U:Cf}:∀(x y:AV)(v:Value),Js x y->(Cw x=true->Cw y=true)/\(Rep U x v->Rep U y v)
 |.sl z f rows d,y,v,h=>by
  cases y with
  |sl z' f' rows' d'=>
   simp only[Js]at h;obtain⟨h1,h2,h3⟩:=h;refine⟨λ_=>rfl,λhr=>?_⟩;simp only[Rep]at hr⊢;obtain⟨base,cap,e1,e2,e3,e4,e5⟩:=hr;have hl:=Xx _ _ h1;refine⟨base,cap,by rw[<-hl];exact e1,by rw[<-hl];exact e2,λe=>by rw[<-hl];exact e3 (h3 e),U3 _ _ h1 e4,?_⟩;rcases e5 with rfl|⟨b,o,g1,g2,g3⟩
   ·exact .inl (PC.1 hl.symm)
   ·rcases h2 with rfl|rfl
    ·exact .inr ⟨b,o,g1,g2,U4 _ _ o h1 g3⟩
    ·exact .inl (PC.1 hl.symm)
  |_=>simp only[Js]at h;cases h
 |.agg a,y,v,h=>by
  cases y with
  |agg b=>
   simp only[Js]at h;have k:=λxs=>Jf (U:=U) a b xs h
   refine⟨λhp=>by simp only[Cw]at hp⊢;exact(k []).1 hp,λhr=>?_⟩;simp only[Rep]at hr⊢;obtain⟨xs,e1,e2,e3⟩:=hr;exact⟨xs,e1,e2,(k xs).2 e3⟩
  |_=>simp only[Js]at h;cases h
 |.tup a,y,v,h=>by
  cases y with
  |tup b=>
   simp only[Js]at h;have k:=λxs=>Jf (U:=U) a b xs h
   refine⟨λhp=>by simp only[Cw]at hp⊢;exact(k []).1 hp,λhr=>?_⟩;simp only[Rep]at hr⊢;obtain⟨xs,e1,e3⟩:=hr;exact⟨xs,e1,(k xs).2 e3⟩
  |_=>simp only[Js]at h;cases h
 |.v x,y,v,h=>by simp only[Js]at h;rw[<-h];exact⟨id,id⟩
 |.ro _ _,y,v,h=>by simp only[Js]at h;rw[<-h];exact⟨id,id⟩
 |.clo _ _ _,y,v,h=>by simp only[Js]at h;rw[<-h];exact⟨id,id⟩
 |.box _ _,y,v,h=>by simp only[Js]at h;rw[<-h];exact⟨id,id⟩
 |.own _ _,y,v,h=>by simp only[Js]at h;rw[<-h];exact⟨id,id⟩
 |.elem _ _ _ _ _,y,v,h=>by simp only[Js]at h;rw[<-h];exact⟨id,id⟩
 |.gd _ _,y,v,h=>by simp only[Js]at h;rw[<-h];exact⟨id,id⟩
 |.mp _,y,v,h=>by simp only[Js]at h;rw[<-h];exact⟨id,id⟩
 |.un,y,v,h=>by simp only[Js]at h;rw[<-h];exact⟨id,id⟩
theorem Jf{U:Cf}:∀(xs ys:List AV)(vs:List Value),JP xs ys->(AS xs=true->AS ys=true)/\(RepL U xs vs->RepL U ys vs)
 |[],[],vs,_=>⟨id,id⟩
 |x::xs,y::ys,vs,h=>by
  simp only[JP]at h;refine⟨λhp=>?_,λhr=>?_⟩
  ·simp only[AS,lP]at hp⊢;exact⟨(MO (U:=U) x y .nilFunc h.1).1 hp.1,(Jf (U:=U) xs ys [] h.2).1 hp.2⟩
  ·simp only[RepL]at hr⊢;obtain⟨u,us,e1,e2,e3⟩:=hr;exact⟨u,us,e1,(MO x y u h.1).2 e2,(Jf xs ys us h.2).2 e3⟩
 |[],_::_,vs,h=>by simp[JP]at h
 |_::_,[],vs,h=>by simp[JP]at h
end
theorem PCall.argD{P:Program}{f:Nat}{args args':List AV}{r:AV}(hw:JP args args')(h:PCall P f args' r):PCall P f args r:=λU vs hg hl hp hr=>h U vs hg hl ((Jf (U:=U) _ _ vs hw).1 hp) ((Jf _ _ _ hw).2 hr)
attribute [go_sem] J0 L5 Js JP
theorem SP{V:Ctx}(hΓ:V.OK)(i:Nat){rid:Nat}{ops:List AOp}{yo:AOp}{Q:AE->St->Prop}{e e1:Au}{h h1:Hp}{c:Nat}{vc:Prop}{r:AV}{h2:Hp}(hyo:ops[i]? =some yo)(hex:Bm V.S (c+1) (100*rid) (ops.take i) e h=some (vc,e1,h1))(hvc:vc)(hg:Fx e1 yo.g=some true)(hnd:∀x,yo.k≠.dfr x)(hnb2:yo.k≠.bad)(hst:∀(o:Oper) (a1:Act) (σ1:Cf),yo.k=cK V.P o.op->Inv σ1 e1 h1 a1 V.nt V.hb->¬σ1.al (100*rid+i,c+1)->Step V.P o a1 σ1 (100*rid+i,c+1) h2 r){vc2:Prop}{e2:Au}{h3:Hp}(hpost:Bm V.S (c+1) (100*rid+(i+1)) (ops.drop (i+1)) (Ca yo.d r e1) h2=some (vc2,e2,h3))(hvc2:vc2)(hQ:Q .n ⟨e2,h3,c+1⟩):As V (.reg rid ops) Q ⟨e,h,c⟩:=by
 intro code hc U a hA;cases code with
 |region id ops' d=>
  simp only[cCode]at hc;obtain⟨l0,hx0,⟨rfl,e0⟩|⟨_,_,_,_,e0⟩⟩:=Cz hc
  ·cases e0
   refine wpIn_region ?_;obtain⟨c1,c2⟩:=E5 hx0;obtain⟨t1,t2⟩:=Em i hx0;obtain⟨_,t3⟩:=Em (i+1) hx0;have hi:i<ops.length:=(i5.1 hyo).1;have hsz:ops.length=ops'.size:=c1.trans (by simp);have hi':i<ops'.size:=by omega
   have ho:ops'[i]? =some ops'[i]:=fC hi';obtain⟨yo',g1,g2⟩:=c2 i ops'[i] (by simp);rw[hyo]at g1;cases g1
   obtain⟨k1,k3,k4⟩:=Uz g2;have hr:List.range ops'.size=List.range' 0 (ops'.toList.take i).length++(i::List.range' (i+1) (ops'.toList.drop (i+1)).length):=by
    have e1:(ops'.toList.take i).length=i:=by simp;omega
    have e2:(ops'.toList.drop (i+1)).length=ops'.size-(i+1):=by simp
    rw[e1,e2,CY,<-L8];have:=List.range'_append_1 (s:=0) (m:=i) (n:=ops'.size-(i+1)+1);rw[s6]at this;rw[this];congr 1;omega
   rw[hr];refine Ij hΓ (cnt:=c) (100*rid) e _ (ops'.toList.take i) 0 (ops.take i) U e e1 h h1 a vc (λ_ _=>rfl) (λj hj=>?_) t1 hex hvc hA.1 (λm hm=>.inl (hA.2.1 m hm)) λa1 σ1 ev1 hI1 hal1 hfar1=>?_
   ·have:j<i:=by simp at hj;omega
    simp[zQ,this]
   rw[wpOpsIn_cons];have hw:=Gb hI1.t k4 hg;have hno:∀c,ops'[i].op≠.defer c:=λc hd=>by
    rw[hd]at k1;simp only[cK]at k1;split at k1
    ·exact hnd _ k1
    ·exact hnb2 k1
   have hd:∀k,ops'[i].dst=some k->k<a1.tmps.size:=by rw[k3];intro d hd;rw[hI1.sz];exact Gp g2 d hd
   have hnm:¬σ1.al (100*rid+i,c+1):=by
    intro hm;rcases hal1 _ hm with h|h
    ·simp at h;omega
    ·simp at h;omega
   refine Kh hΓ.F ho hno hw (hst ops'[i] a1 σ1 k1 hI1 hnm) λv σ2 hn hv=>?_
   have hI2:Inv σ2 (Ca yo.d r e1) h2 (a1.put ops'[i].dst v) V.nt V.hb:=by
    refine⟨hn.inv,?_,by rw[Act.size_put];exact hI1.sz,?_⟩
    ·rw[<-k3];exact(hI1.t.mono hn.evo).put hd hv
    ·rw[Act.defers_put,show lk (Ca yo.d r e1) (dk V.nt)=lk e1 (dk V.nt)from G2 (Gp g2) (by unfold dk;omega)];exact hI1.df.mono hn.evo
   have hal2:∀m,σ2.al m->m.2<=c\/(m.2=c+1/\m.1<100*rid+(i+1)):=by
    intro m hm;rcases hn.al m hm with hm|rfl
    ·rcases hal1 m hm with h|⟨h3,h4⟩
     ·exact .inl h
     ·right;simp at h4;omega
    ·right;exact⟨rfl,by simp⟩
   exact Ig hΓ (ops:=ops') (Q:=Q) (cnt:=c) (100*rid) e U hA.2.2 (ops'.toList.drop (i+1)) (i+1) (ops.drop (i+1)) σ2 _ _ _ _ _ vc2 (λt ht=>(G2 (Gp g2) ht).trans (hfar1 t ht)) (λj=>by simp) (by simp;omega) t3 hpost hvc2 (ev1.trans hn.evo) hI2 hal2 hQ
  ·cases e0
 |seq x y=>simp only[cCode]at hc;split at hc<;>simp at hc
 |cond c x y=>simp only[cCode]at hc;split at hc<;>simp at hc
 |rangeFunc f ps x y=>simp only[cCode]at hc;split at hc<;>simp at hc
 |_=>simp[cCode]at hc
structure KeptB(b:Nat)(w w':World):Prop where
 heap:∀x,x<w.heap.size->x≠b->w'.heap[x]? =w.heap[x]?
 sz:w.heap.size<=w'.heap.size
 io:SameO w w'
theorem KeptB.trans{b:Nat}{u v w:World}(h:KeptB b u v)(k:KeptB b v w):KeptB b u w:=⟨λx hx hb=>(k.heap x (u9 hx h.sz) hb).trans (h.heap x hx hb),s7 h.sz k.sz,h.io.trans k.io⟩
theorem KeptB.drew(b:Nat)(w:World):KeptB b w w.drew:=⟨λ_ _ _=>rfl,fA _,⟨rfl,rfl⟩⟩
theorem KeptB.cells(b:Nat):∀(vs:List Value)(o:Nat)(w:World),KeptB b w (w.setCells b o vs)/\(w.setCells b o vs).heap.size=w.heap.size
 |[],o,w=>⟨⟨λ_ _ _=>rfl,fA _,⟨rfl,rfl⟩⟩,rfl⟩
 |v::vs,o,w=>by
  have h0:KeptB b w (w.setCell ⟨b,o,none⟩ v):=⟨λx _ hb=>by simp[World.setCell,C8,Ss hb],by simp[World.setCell],⟨rfl,rfl⟩⟩
  obtain⟨h1,h2⟩:=KeptB.cells b vs (o+1) (w.setCell ⟨b,o,none⟩ v);rw[World.setCells];exact⟨h0.trans h1,by rw[h2];simp[World.setCell]⟩
theorem HInv.gone{U:Cf}{hp:Hp}(h:HInv U hp){n:Nm}{sz:Nat}{rows:List (List AV)}{d:List AV}{b o cap:Nat}(hn:hl hp (.a n)=some (.sl sz true rows d))(hor:U.ra n=(some ⟨b,o,none⟩,cap)/\0<cap\/U.w.heap.size<=b){w':World}(hk:KeptB b U.w w'):Evo U {U with M:=λx=>U.M x/\x≠b,ln:=λm=>if m=n then none else U.ln m,w:=w'}/\HInv {U with M:=λx=>U.M x/\x≠b,ln:=λm=>if m=n then none else U.ln m,w:=w'} ((.a n,.un)::hp):=by
 have hMb:U.M b\/U.w.heap.size<=b:=by
  rcases hor with⟨hra,hcap⟩|hb
  ·left;obtain⟨a1,a2,a3,a4⟩:=h.arr n sz true rows d hn;rcases a4 with⟨a,a4,_⟩|⟨b',o',cap',a4,_,_,_,a8,_⟩
   ·rw[hra]at a4;have:=congrArg Prod.snd a4;simp at this;omega
   ·rw[hra]at a4;simp at a4;rw[a4.1.1];exact(a8 rfl).1
  ·exact .inr hb
 have e:Evo U {U with M:=λx=>U.M x/\x≠b,ln:=λm=>if m=n then none else U.ln m,w:=w'}:={
  box:=λm hm=>⟨hm,rfl⟩
  arr:=λm hm l' hl'=>by
   by_cases e:m=n
   ·simp only[eX e]at hl';cases hl'
   ·simp only[eW e]at hl';exact⟨l',hl',fA _,λ_=>rfl⟩
  fro:=λx ob hx hM=>by
   have hlt:=(eY.1 hx).1;have hne:x≠b:=λe=>hMb.elim (λk=>hM (e▸k)) (λk=>by omega)
   exact⟨(hk.heap x hlt hne).trans hx,λk=>hM k.1⟩
  out:=rfl
  sz:=hk.sz
  io:=hk.io}
 have hhl:∀l,l≠.a n->hl ((.a n,.un)::hp) l=hl hp l:=λl hne=>by simp only[hl];rw[eW (Ss hne)]
 have own2:∀(p:Bool×Nm)(x:Nat),Owns {U with M:=λx=>U.M x/\x≠b,ln:=λm=>if m=n then none else U.ln m,w:=w'} ((.a n,.un)::hp) p x->Owns U hp p x/\p≠(true,n):=by
  rintro⟨p1,p2⟩ x (⟨q1,q2,j,c,q3⟩|⟨q1,⟨sz',rows',d',q2⟩,q3⟩)
  ·rw[hhl _ (by intro e;cases e)]at q3;refine⟨.inl ⟨q1,q2,j,c,q3⟩,λe=>?_⟩;cases e;cases q1
  ·have hne:p2≠n:=λe=>by simp only[hl,e,if_true]at q2;cases q2
   rw[hhl _ (by intro e;cases e;exact hne rfl)]at q2;exact⟨.inr ⟨q1,⟨sz',rows',d',q2⟩,q3⟩,λe=>hne (by cases e;rfl)⟩
 refine⟨e,?_⟩;have apart:∀(p:Bool×Nm)(x:Nat),U.M x->Owns U hp p x->p≠(true,n)->x≠b:=λp x hM ho hp' e=>by
  subst e;rcases hor with⟨hra,hcap⟩|hb
  ·exact hp' (h.inj p (true,n) x ho (.inr ⟨rfl,⟨sz,rows,d,hn⟩,o,cap,hra,hcap⟩))
  ·have:=h.lt x hM;omega
 exact{
  ln:=λm=>by
   by_cases hm:m=n
   ·subst hm;simp[lenOf,hl]
   ·have:lenOf ((.a n,.un)::hp) m=lenOf hp m:=by unfold lenOf;rw[hhl _ (by intro e;cases e;exact hm rfl)]
    simp only[eW hm];rw[this];exact h.ln m
  cel:=λm j c hc=>by rw[hhl _ (by intro e;cases e)]at hc;have k:=h.cel m j c hc;have hne:U.rb m≠b:=apart (false,m) _ k.2.1 (.inl ⟨rfl,rfl,j,c,hc⟩) (by intro e;cases e);exact k.keep e ⟨k.2.1,hne⟩ (hk.heap _ (h.lt _ k.2.1) hne)
  arr:=λm sz' live rows' d' hc=>by
   have hne:m≠n:=λe=>by simp only[hl,e,if_true]at hc;cases hc
   rw[hhl _ (by intro e;cases e;exact hne rfl)]at hc;have k:=h.arr m sz' live rows' d' hc;refine k.keep e rfl λhl' b' o' cap' hra' hcap' hM'=>?_
   subst hl';have hb:b'≠b:=apart (true,m) b' hM' (.inr ⟨rfl,⟨sz',rows',d',hc⟩,o',cap',hra',hcap'⟩) (by intro e;cases e;exact hne rfl);exact⟨⟨hM',hb⟩,hk.heap _ (h.lt _ hM') hb⟩
  inj:=λp q x hp' hq=>h.inj p q x (own2 p x hp').1 (own2 q x hq).1
  lt:=λx hx=>u9 (h.lt x hx.1) hk.sz
  ou:=λx hx=>u9 (h.ou x hx) hk.sz
  dis:=λx hx=>h.dis x hx.1}
theorem Ka{hp:Hp}{n:Nm}:∀{ns:List Nm},n∉ns->hl (frz hp ns++hp) (.a n)=hl hp (.a n)
 |[],_=>rfl
 |m::ns,h=>by
  have hm:¬m=n:=λe=>h (by simp[e])
  have ih:=Ka (hp:=hp) (n:=n) (ns:=ns) (λk=>h (by simp[k]));simp only[Am.frz];split
  ·simp only[s8,hl];rw[eW (by intro e;cases e;exact hm rfl)];exact ih
  ·exact ih
def PV(P:Program)(f sz:Nat)(rows:List (List AV))(ax:List AV)(rows':List (List AV)):Prop:=∀(U:Cf)(vs vals:List Value)(base:Option Addr)(b o cap:Nat),Gl U->(∀x,U.M x\/U.O x->x<U.w.heap.size)->RepL U ax vs->RepL U rows.flatten vals->(∀x∈vals,Bs x=true)->vals.length=rows.length*sz->rows.length<=cap->(base=some ⟨b,o,none⟩/\0<cap/\Lies U.w b o vals/\U.M b/\(∃cs T,U.w.heap[b]? =some (.cells cs T (0,0))/\o+cap*sz<=cs.size)\/cap=0/\U.w.heap.size<=b)->Calls P f (.slice base rows.length cap::vs).toArray U.w λe w'=>∃(b' o' cap':Nat)(vals':List Value),e=.returned (.slice (some ⟨b',o',none⟩) rows'.length cap')/\rows'.length<=cap'/\KeptB b U.w w'/\(b'=b\/U.w.heap.size<=b')/\b'<w'.heap.size/\Lies w' b' o' vals'/\RepL U rows'.flatten vals'/\∀x∈vals',Bs x=true
theorem jA{P:Program}{U:Cf}{hp:Hp}(gl:Gl U)(h:HInv U hp){f sz len:Nat}{rows rows':List (List AV)}{ax d xs:List AV}{n nm:Nm}{vs:List Value}{v0:Value}(hn:hl hp (.a n)=some (.sl sz true rows d))(hlen:len=rows.length)(h0:Rep U (.own n len) v0)(hx:RepL U xs vs)(hax:Fd hp xs=ax)(hrv:EY hp xs)(hnb:Gc xs=true)(hni:n∉Cu xs)(hr':∀r∈rows',r.length=sz/\AS r=true)(hC:PV P f sz rows ax rows'):Calls P f (v0::vs).toArray U.w λe w'=>∃v σ',e=.returned v/\Next U nm ((.a n,.un)::(frz hp (Cu xs)++hp)) w' σ'/\Rep σ' (.sl sz false rows' d) v:=by
 obtain⟨σ1,f1,f2,f3,f4,f5,f6,f7,f8⟩:=h.frz (Cu xs);have hr:=Ip h f1 f3 (Cu xs) f7 xs vs hrv hnb (λ_ h=>h) hx;rw[hax]at hr;have hn1:hl (frz hp (Cu xs)++hp) (.a n)=some (.sl sz true rows d):=by rw[Ka hni];exact hn
 have hln:σ1.ln n=some rows.length:=by rw[f2.ln];simp[lenOf,hn1]
 have hv0:=h0.mono f1;simp only[Rep]at hv0;have hv:=(hv0.2.2 _ hln).2 hlen;obtain⟨a1,a2,a3,a4⟩:=f2.arr n sz true rows d hn1;obtain⟨vals,g1,g2,g3,g4,g5,g6⟩:=(f2.arr n sz true rows d hn1).vals;have key:∃(base:Option Addr)(b o cap:Nat),σ1.ra n=(base,cap)/\rows.length<=cap/\(base=some ⟨b,o,none⟩/\0<cap/\Lies σ1.w b o vals/\σ1.M b/\(∃cs T,σ1.w.heap[b]? =some (.cells cs T (0,0))/\o+cap*sz<=cs.size)\/cap=0/\σ1.w.heap.size<=b):=by
  rcases a4 with⟨a,a4,a5⟩|⟨b,o,cap,a4,a5,a6,a7,a8,a9⟩
  ·exact⟨a,σ1.w.heap.size,0,0,a4,by rw[a5];exact fA _,.inr ⟨rfl,fA _⟩⟩
  ·refine⟨some ⟨b,o,none⟩,b,o,cap,a4,a6,.inl ⟨rfl,a5,?_,(a8 rfl).1,(a8 rfl).2⟩⟩;rw[a4]at g3;rcases g3 with rfl|⟨b2,o2,g3,g3'⟩
   ·intro j v hj;simp at hj
   ·simp at g3;rw[g3.1,g3.2];exact g3'
 obtain⟨base,b,o,cap,k1,k2,k3⟩:=key;have hor:σ1.ra n=(some ⟨b,o,none⟩,cap)/\0<cap\/σ1.w.heap.size<=b:=by
  rcases k3 with⟨rfl,k3,_⟩|⟨_,k3⟩
  ·exact .inl ⟨k1,k3⟩
  ·exact .inr k3
 have hc:=hC σ1 vs vals base b o cap (gl.mono f1) (λx hx=>hx.elim (f2.lt x) (f2.ou x)) hr g1 g2 g5 k2 k3;rw[k1,hlen]at hv;subst hv;rw[f3]at hc;refine hc.mono ?_;rintro en w' ⟨b',o',cap',vals',rfl,q1,q2,q3,q4,q5,q6,q7⟩;obtain⟨e2,i2⟩:=f2.gone hn1 hor (w':=w') (by rw[f3];exact q2);refine⟨_,_,rfl,⟨f1.trans e2,i2,rfl,λm hm=>.inl (f4 m hm)⟩,?_⟩;simp only[Rep];refine⟨some ⟨b',o',none⟩,cap',rfl,q1,(λe=>by cases e),λr hr=>(hr' r hr).2,.inr ⟨b',o',rfl,⟨?_,?_,q4⟩,Et (q6.mono e2) q7 q5 λr hr=>(hr' r hr).1⟩⟩
 ·rintro⟨hM,hne⟩;rcases q3 with q3|q3
  ·exact hne q3
  ·have:=f2.lt b' hM;rw[f3]at this;omega
 ·intro hO;have hO:σ1.O b':=hO;rcases q3 with q3|q3
  ·rcases k3 with⟨_,_,_,k3,_⟩|⟨_,k3⟩
   ·exact f2.dis b k3 (q3▸hO)
   ·have:=f2.ou b' hO;omega
  ·have:=f2.ou b' hO;rw[f3]at this;omega
theorem SQ{V:Ctx}(hΓ:V.OK)(i:Nat){rid:Nat}{ops:List AOp}{Q:AE->St->Prop}{e e1:Au}{h h1:Hp}{c:Nat}{vc:Prop}{dd:Option Nat}{f:Nat}{x0:Opd}{xo:List Opd}{sz len:Nat}{rows rows':List (List AV)}{ax d:List AV}{n:Nm}(hf:FU V.P f)(hyo:ops[i]? =some ⟨dd,none,.call f (x0::xo)⟩)(hex:Bm V.S (c+1) (100*rid) (ops.take i) e h=some (vc,e1,h1))(hvc:vc)(h0:Aw true (Av e1 x0)=.own n len)(hn:hl h1 (.a n)=some (.sl sz true rows d))(hlen:len=rows.length)(hax:Fd h1 (xo.map λx=>Aw true (Av e1 x))=ax)(hrv:EY h1 (xo.map λx=>Aw true (Av e1 x)))(hnb:Gc (xo.map λx=>Aw true (Av e1 x))=true)(hni:n∉Cu (xo.map λx=>Aw true (Av e1 x)))(hr':∀r∈rows',r.length=sz/\AS r=true)(hC:PV V.P f sz rows ax rows'){vc2:Prop}{e2:Au}{h3:Hp}(hpost:Bm V.S (c+1) (100*rid+(i+1)) (ops.drop (i+1)) (Ca dd (.sl sz false rows' d) e1) ((.a n,.un)::(frz h1 (Cu (xo.map λx=>Aw true (Av e1 x)))++h1))=some (vc2,e2,h3))(hvc2:vc2)(hQ:Q .n ⟨e2,h3,c+1⟩):As V (.reg rid ops) Q ⟨e,h,c⟩:=by
 refine SP hΓ i hyo hex hvc (Eq.refl _) (λx e=>by cases e) (λe=>by cases e) (λo a1 σ1 hk hI hnm=>?_) hpost hvc2 hQ;obtain⟨cl,ho,hcl,hargs⟩:=PU hk;have hV:=F3 (g:=true) rfl hI.t cl.args.toList;rw[<-hargs]at hV;simp only[eZ,RepL]at hV;obtain⟨y,vs,hvs,hy,hV⟩:=hV;have hy:Rep σ1 (Aw true (Av e1 x0)) y:=hy;rw[h0]at hy;have hc:=jA (nm:=(100*rid+i,c+1)) hI.df.gl hI.h hn hlen hy hV hax hrv hnb hni hr' hC;refine .inr ⟨f,_,?_,hc⟩;have hr:=FA hf (cl.args.map a1.eval) σ1.w;have ha:cl.args.map a1.eval=(y::vs).toArray:=by rw[<-hvs];apply Array.ext';simp
 rw[ha]at hr;simp only[execOp,ho,resolve,hcl,Act.eval,Sem.run_bind,Deferred.ofValue,Sem.run_pure,Result.andThen,invoke]
 first|exact hr|(simp[ha];exact hr)
