import Derived.Test.YtdabfcbelkjmgaaGreatDoorProg
import Derived.Lib.Builder
import Derived.Lib.AppendStr
import Derived.Lib.AppendZeros
import Derived.Lib.UnsafeStr
import Derived.Lib.Strings
import Derived.Lib.Walk
import Derived.WalkKit
import Derived.Laws.Externs
import Derived.KernelRfl
import Derived.Shelf.RegionOpenPlain
import Derived.Test.YtdabfcbelkjmgaaGreatDoorA15
namespace Go.Proofs.YtdabfcbelkjmgaaGreatDoor.Am
open Go Go.RowKit
set_option linter.unusedVariables false
set_option maxHeartbeats 2000000
set_option maxRecDepth 100000
theorem KG:∃j,Tryz.prog.info? 85=some j∧j.size=2:=Option.map_eq_some_iff.1 (show(Tryz.prog.info? 85).map (·.size)=some 2 by kernel_rfl)
theorem OA:∃i,Tryz.prog.info? 5=some i∧i.zero=some (.int .u8 0)∧i.size=1∧i.bytes=1:=by
 have h:(Tryz.prog.info? 5).map (fun i=>(i.zero,i.size,i.bytes))=some (some (.int .u8 0),1,1):=by kernel_rfl
 obtain⟨i,hi,h2⟩:=Option.map_eq_some_iff.1 h
 simp only[Prod.mk.injEq] at h2
 exact⟨i,hi,h2⟩
theorem OB (b:Nat) (w:World) (h0:w.cell? ⟨b,0,none⟩=some (.pointer (some ⟨b,0,none⟩))):
  Calls Tryz.prog 93 #[.pointer (some ⟨b,0,none⟩)] w fun e w'=>e= .returned (.tuple #[])∧w'=w:=by
 obtain⟨j,hj,_⟩:=KG
 go_enter Tryz.func93,Tryz.ntmps93
 go_wp2
 rw[Lib.run_neq_ptr_same w _ Tryz.underlying83 hj]
 go_wp2
 go_end0
 exact⟨rfl,rfl⟩
structure BT (T:TypeId):Prop where
 lies:liesAt Tryz.prog Tryz.prog.depth T (2/Tryz.prog.cellsOf T) 0 85 1=true
 ne:T≠5
theorem Nx {T:TypeId} (hT:BT T) (b:Nat) (w:World) (h0:w.cell? ⟨b,0,none⟩=some (.pointer none)) (hsh:w.shape? b=some (T,2)) (hfz:w.frozen? ⟨b,0,none⟩=false):
  Calls Tryz.prog 93 #[.pointer (some ⟨b,0,none⟩)] w fun e w'=>e= .returned (.tuple #[])∧w'=w.setCell ⟨b,0,none⟩ (.pointer (some ⟨b,0,none⟩)):=by
 obtain⟨j,hj,hjs⟩:=KG
 go_enter Tryz.func93,Tryz.ntmps93
 go_wp2
 rw[Lib.run_to_unsafe w ⟨b,0,none⟩ Tryz.underlying83 Tryz.underlying148 hj (by rw[hjs];decide) hsh (Nat.zero_lt_succ 1)]
 simp only[Result.andThen]
 rw[Oper.upon_value]
 go_wp2
 rw[run_callFunc_extern Tryz.func100 (by kernel_rfl) (by kernel_rfl) (by kernel_rfl) (e:=Extern.AbiNoEscape.same) (by kernel_rfl)]
 rw[Lib.run_noEscape]
 simp only[Result.andThen]
 rw[Oper.upon_value]
 go_wp2
 rw[Lib.run_from_unsafe w ⟨b,0,none⟩ Tryz.underlying148 Tryz.underlying83 hj hsh hT.lies]
 simp only[Result.andThen]
 rw[Oper.upon_value]
 go_wp2
 go_end0
 exact⟨rfl,rfl⟩
theorem PI {P:Program} (w:World) (t u ty e:TypeId) (i:TypeInfo) (ht:P.underlying t=some (.slice e)) (hu:P.underlying u=some .string) (hi:P.info? e=some i) (hz:i.zero=some (.int .u8 0))
  (hsize:i.size=1) (hby:i.bytes=1) (v:Value) (n:Nat) (xs:List Value) (hown:w.ownsRow 0 e 1 v n xs) (s:ByteArray) (h63:n+s.size≤maxLen) (hbytes:n+s.size≤140737488355328):
  ∃v' w',(Builtin.append_ #[t,u] ty #[v,.string s]).run P w= .ok v' w'∧w'.ownsRow 0 e 1 v' (n+s.size) (xs++Lib.strCells s)∧w.grownBy w' v.ownBlock∧
   (∀k,v'.ownBlock=some k→v.ownBlock=some k∨w.heap.size≤k):=by
 obtain⟨v',w',h1,h2,h3,h4⟩:=Lib.run_append_own_string (P:=P) w 0 t u ty e i ht hu hi hz hsize hby v n xs hown s h63 hbytes (Nat.zero_le _)
 refine⟨v',w',h1,h2,h3,fun k hk=> ?_⟩
 simp only[maxLen] at h63
 rcases hown.2 with⟨rfl,rfl⟩|⟨g,cap,cur,rfl,hbg,hg,hnc,hcm,hcs,htake⟩
 ·have hx:xs=[]:=List.eq_nil_of_length_eq_zero (by simpa using hown.1)
  subst hx
  obtain⟨v2,w2,g1,g2,_⟩:=Lib.run_append_own_string (P:=P) w w.heap.size t u ty e i ht hu hi hz hsize hby _ 0 [] (World.ownsRow_nil w _ e 1) s h63 hbytes (Nat.le_refl _)
  rw[h1] at g1
  cases g1
  exact .inr (g2.lt k hk).1
 ·by_cases hroom:n+s.size≤cap
  ·have hr:=Lib.run_append_room_string (P:=P) w t u ty e i ht hu hi hsize g n cap cur hg s hroom (by omega)
   rw[h1] at hr
   cases hr
   exact .inl hk
  ·have holds:∀j u,xs[j]? =some u→w.cell? ((⟨g,0,none⟩:Addr).add j)=some u:=hown.cells (g:=g) rfl
   have hr:=Lib.run_append_grow_string (P:=P) w t u ty e i (.int .u8 0) ht hu hi hz ⟨g,0,none⟩ n cap xs (by rw[hsize];simpa using hown.1) holds s (by omega) (by omega) (by rw[hby];exact growslice_fits (by omega) (by omega))
   rw[h1] at hr
   cases hr
   simp only[Value.ownBlock,yE] at hk
   exact .inr (by omega)
def Bx (w:World) (b:Nat):Option Nat:=(w.cell? ⟨b,1,none⟩).bind Value.ownBlock
def KB (T:TypeId) (w:World) (b:Nat) (l:List UInt8):Prop:=Lib.IsBuilder T 5 0 b (Lib.byteCells l) w
structure KStep (w w':World) (b:Nat):Prop where
 old:∀x,x<w.heap.size→x≠b→Bx w b≠some x→w'.heap[x]? =w.heap[x]?
 row:∀g,Bx w' b=some g→Bx w b=some g∨w.heap.size≤g
 sz:w.heap.size≤w'.heap.size
 io:w'.os=w.os∧w'.output=w.output
theorem KStep.refl (w:World) (b:Nat):KStep w w b:=⟨fun _ _ _ _=>rfl,fun _ h=> .inl h,Nat.le_refl _,rfl,rfl⟩
theorem kb_row {T:TypeId} {w:World} {b:Nat} {p v:Value} {f:Nat×Nat} (hb:w.heap[b]? =some (.cells #[p,v] T f)):Bx w b=v.ownBlock:=by
 unfold Bx
 rw[Lib.cell_of_heap hb]
 rfl
theorem KStep.trans {w w1 w2:World} {b:Nat} (h:KStep w w1 b) (k:KStep w1 w2 b):KStep w w2 b where
 old x hx h1 h2:=by
  rw[k.old x (Nat.lt_of_lt_of_le hx h.sz) h1 fun e=> ?_,h.old x hx h1 h2]
  rcases h.row x e with e|e
  ·exact h2 e
  ·omega
 row g hg:=by
  rcases k.row g hg with e|e
  ·exact h.row g e
  ·exact .inr (Nat.le_trans h.sz e)
 sz:=Nat.le_trans h.sz k.sz
 io:=⟨k.io.1.trans h.io.1,k.io.2.trans h.io.2⟩
theorem KStep.set {T:TypeId} {w:World} {b:Nat} {l:List UInt8} {p:Value} (h:Lib.BuilderAt T 5 0 b p (Lib.byteCells l) w) (q:Value):KStep w (w.setCell ⟨b,0,none⟩ q) b:=by
 obtain⟨_,v,hb,_⟩:=h
 refine⟨fun x _ h1 _=> ?_,fun g hg=> .inl ?_,by simp[World.setCell],rfl,rfl⟩
 ·simp[World.setCell,Array.getElem?_modify,Ne.symm h1]
 ·rw[kb_row hb]
  have hb':(w.setCell ⟨b,0,none⟩ q).heap[b]? =some (.cells #[q,v] T (0,0)):=by simp[World.setCell,Array.getElem?_modify,hb]
  rw[kb_row hb'] at hg
  exact hg
theorem PJ {T:TypeId} (hT:BT T) (b:Nat) (l:List UInt8) (w:World) (h:KB T w b l):
  Calls Tryz.prog 93 #[.pointer (some ⟨b,0,none⟩)] w fun e w'=>e= .returned (.tuple #[])∧Lib.BuilderAt T 5 0 b (.pointer (some ⟨b,0,none⟩)) (Lib.byteCells l) w'∧KStep w w' b:=by
 rcases h with h|h
 ·refine(Nx hT b w h.cell0 h.shape h.frozen0).mono ?_
  rintro e w' ⟨rfl,rfl⟩
  exact⟨rfl,h.used _,KStep.set h _⟩
 ·refine(OB b w h.cell0).mono ?_
  rintro e w' ⟨rfl,rfl⟩
  exact⟨rfl,h,KStep.refl _ _⟩
theorem Ny {T:TypeId} (hT:BT T) (b:Nat) (l m:List UInt8) (w:World) (h:KB T w b l) (hl:l.length+m.length≤140737488355328):
  Calls Tryz.prog 79 #[.pointer (some ⟨b,0,none⟩),.string ⟨m.toArray⟩] w fun e w'=>e= .returned (.tuple #[.int .i64 m.length,.nilIface])∧KB T w' b (l++m)∧KStep w w' b:=by
 obtain⟨i0,hi,hz0,hz1,hz2⟩:=OA
 go_enter Tryz.func79,Tryz.ntmps79
 go_wp2_with (go_at_call 93;refine(PJ hT b l _ h).mono ?_)
 rintro e w1 ⟨rfl,h1,hb1⟩
 obtain⟨hB,v,hbk,hown,hne⟩:=h1
 have c0:w1.cell? ⟨b,0,none⟩=some (.pointer (some ⟨b,0,none⟩)):=by rw[Lib.cell_of_heap hbk];rfl
 have c1:w1.cell? ⟨b,1,none⟩=some v:=by rw[Lib.cell_of_heap hbk];rfl
 have hs:(⟨m.toArray⟩:ByteArray).size=m.length:=by simp[ByteArray.size]
 have hbl:(Lib.byteCells l).length=l.length:=Lib.byteCells_length l
 have hst:Lib.strCells ⟨m.toArray⟩=Lib.byteCells m:=by simp[Lib.strCells,Lib.byteCells]
 obtain⟨v',w2,hr,hown',hgrow,hrow⟩:=PI (P:=Tryz.prog) w1 60 9 60 5 i0 Tryz.underlying60 Tryz.underlying9 hi hz0 hz1 hz2 v _ _ hown ⟨m.toArray⟩ (by rw[hs,hbl];unfold maxLen;omega) (by rw[hs,hbl];omega)
 have hlt:b<w1.heap.size:=by
  rcases Nat.lt_or_ge b w1.heap.size with h'|h'
  ·exact h'
  ·simp[Array.getElem?_eq_none h'] at hbk
 have hb2:w2.heap[b]? =some (.cells #[.pointer (some ⟨b,0,none⟩),v] T (0,0)):=by
  rw[hgrow.block b hlt (fun e=>hne e.symm)]
  exact hbk
 have d0:w2.cell? ⟨b,0,none⟩=some (.pointer (some ⟨b,0,none⟩)):=by rw[Lib.cell_of_heap hb2];rfl
 have d1:w2.cell? ⟨b,1,none⟩=some v:=by rw[Lib.cell_of_heap hb2];rfl
 have f1:w2.frozen? ⟨b,1,none⟩=false:=Lib.frozen_of_heap hb2 1
 obtain⟨ao,n',cap,rfl⟩:∃ao n' cap,v'= .slice ao n' cap:=by
  rcases hown'.2 with⟨hv,_⟩|⟨g,cap,cur,hv,_⟩
  ·exact⟨_,_,_,hv⟩
  ·exact⟨_,_,_,hv⟩
 go_wp2_with (at_builtin;refine Lib.wpList_append_run _ rfl _ _ _ _ rfl _ _ rfl rfl _ _ hr ?_)
 go_ret2
 have hbs:∀b2:Nat,b2=b→(w2.setCell ⟨b,1,none⟩ (.slice ao n' cap)).heap[b2]? =some (.cells #[.pointer (some ⟨b,0,none⟩),.slice ao n' cap] T (0,0)):=by
  rintro _ rfl
  simp[World.setCell,Array.getElem?_modify,hb2]
 refine⟨rfl,.inr ?_,hb1.trans ⟨fun x hx h1 h2=> ?_,fun g hg=> ?_, ?_, ?_⟩⟩
 ·refine Lib.BuilderAt.put (T:=T) (e:=5) hB hb2 ?_ hT.ne
  have e1:Lib.byteCells (l++m)=Lib.byteCells l++Lib.strCells ⟨m.toArray⟩:=by rw[hst];simp[Lib.byteCells]
  rw[e1,List.length_append,Lib.strCells_length]
  exact hown'
 ·rw[kb_row hbk] at h2
  have:(w2.setCell ⟨b,1,none⟩ (.slice ao n' cap)).heap[x]? =w2.heap[x]? :=by simp[World.setCell,Array.getElem?_modify,Ne.symm h1]
  rw[this]
  exact hgrow.block x hx (fun e=>h2 e.symm)
 ·rw[kb_row (hbs b rfl)] at hg
  rw[kb_row hbk]
  exact hrow g hg
 ·show w1.heap.size≤(w2.setCell _ _).heap.size
  have:(w2.setCell ⟨b,1,none⟩ (.slice ao n' cap)).heap.size=w2.heap.size:=by simp[World.setCell]
  rw[this]
  exact hgrow.size
 ·exact⟨hgrow.os,hgrow.output⟩
theorem L7 {T:TypeId} (b:Nat) (l:List UInt8) (w:World) (h:KB T w b l) (h0:l≠[]):
  Calls Tryz.prog 57 #[.pointer (some ⟨b,0,none⟩)] w fun e w'=>e= .returned (.string ⟨l.toArray⟩)∧KStep w w' b:=by
 obtain⟨p,hB,v,hbk,hown,hne⟩:∃p,Lib.BuilderAt T 5 0 b p (Lib.byteCells l) w:=by
  rcases h with h|h
  ·exact⟨_,h⟩
  ·exact⟨_,h⟩
 have hl0:l.length≠0:=by simpa using h0
 rw[Lib.byteCells_length] at hown
 obtain⟨g,cap,cur,rfl,hbg,hg,hnc,hcm,hcs,htake⟩:∃g cap cur,v= .slice (some ⟨g,0,none⟩) l.length cap∧0≤g∧w.heap[g]? =some (.cells cur 5 (0,0))∧l.length≤cap∧cap≤maxLen∧cur.size=cap*1∧cur.toList.take (l.length*1)=Lib.byteCells l:=by
  rcases hown.2 with⟨_,hz⟩|⟨g,cap,cur,hv,r⟩
  ·exact absurd hz hl0
  ·exact⟨g,cap,cur,hv,r⟩
 have hrow:Bx w b=some g:=by rw[kb_row hbk];rfl
 have c1:w.drew.cell? ⟨b,1,none⟩=some (.slice (some ⟨g,0,none⟩) l.length cap):=by
  have:w.drew.heap[b]? =some (.cells #[p,.slice (some ⟨g,0,none⟩) l.length cap] T (0,0)):=hbk
  rw[Lib.cell_of_heap this];rfl
 have hSD:(Builtin.unsafeSliceData_ #[60] 130 #[.slice (some ⟨g,0,none⟩) l.length cap]).run Tryz.prog w.drew= .ok (.pointer (some ⟨g,0,none⟩)) w.drew:=
  Lib.run_unsafeSliceData_row _ _ _ _ _ _ (by omega)
 have hUS:(Builtin.unsafeString_ #[130,3] 9 #[.pointer (some ⟨g,0,none⟩),.int .i64 l.length]).run Tryz.prog w.drew= .ok (.string ⟨l.toArray⟩) (w.drew.freeze ⟨g,0,none⟩ l.length):=by
  refine Lib.run_unsafeString_row w.drew 130 3 9 5 Tryz.underlying130 (by kernel_rfl) g cur.size (by have hg':w.drew.heap[g]? =some (.cells cur 5 (0,0)):=hg;simp[World.shape?,hg']) l h0 (by omega) (by unfold maxLen at hcm;omega) ?_
  intro j x hx
  have:=hown.cells (g:=g) rfl j (.int .u8 x.toNat) (by simp[Lib.byteCells,hx])
  exact this
 have hfin:KStep w (w.drew.freeze ⟨g,0,none⟩ l.length) b:=by
  have hh:∀x,x≠g→(w.drew.freeze ⟨g,0,none⟩ l.length).heap[x]? =w.heap[x]? :=fun x hx=>by
   simp only[World.freeze,if_neg hl0]
   rw[Array.getElem?_modify,if_neg (Ne.symm hx)]
   rfl
  have hgb:b≠g:=fun e=>hne (by rw[e];rfl)
  refine⟨fun x _ _ h2=>hh x (fun e=>h2 (by rw[hrow,e])),fun k hk=> .inl ?_, ?_, ?_⟩
  ·have hb':=(hh b hgb).trans hbk
   rw[kb_row hb'] at hk
   rw[kb_row hbk]
   exact hk
  ·simp only[World.freeze,if_neg hl0,Array.size_modify]
   exact Nat.le_refl _
  ·simp only[World.freeze,if_neg hl0]
   exact⟨rfl,rfl⟩
 go_enter Tryz.func57,Tryz.ntmps57
 go_wp2
 go_region
 all_goals (go_wp2;go_ret;exact⟨rfl,hfin⟩)
end Go.Proofs.YtdabfcbelkjmgaaGreatDoor.Am
namespace Go.Proofs.YtdabfcbelkjmgaaGreatDoor.Am
set_option linter.unusedSimpArgs false
set_option linter.unusedVariables false
open Go
def bk:Nat:=1500000
@[reducible] def gB (b:Nat) (l:List UInt8):AV:= .gd false (.agg [.v (.int .i64 b),.v (.string (sB l))])
theorem Jf {b b':Nat} {l l':List UInt8} (h:gB b l=gB b' l'):b=b'∧l=l':=by
 unfold gB at h
 injection h with _ h
 injection h with h
 injection h with h1 h2
 injection h1 with h1
 injection h1 with _ h1
 injection h2 with h2 _
 injection h2 with h2
 injection h2 with h2
 refine⟨by omega, ?_⟩
 have:=congrArg bL h2
 simpa using this
structure BI (N:Nat) (X:Nat→Prop) (σ:Cf) (b:Nat) (l:List UInt8):Prop where
 kb:∃T,BT T∧KB T σ.w b l
 o:σ.O b∧¬σ.M b∧(N≤b∨X b)
 r:∀g,Bx σ.w b=some g→σ.O g∧¬σ.M g∧(N≤g∨X g)
theorem KB.lt {T:TypeId} {w:World} {b:Nat} {l:List UInt8} (h:KB T w b l):b<w.heap.size:=by
 rcases h with h|h<;>exact h.lt
theorem KB.cells {T:TypeId} {w:World} {b:Nat} {l:List UInt8} (h:KB T w b l):∃p v,w.heap[b]? =some (.cells #[p,v] T (0,0))∧Bx w b=v.ownBlock∧∀g,v.ownBlock=some g→g<w.heap.size∧∃cs U f,w.heap[g]? =some (.cells cs U f):=by
 have key:∀p,Lib.BuilderAt T 5 0 b p (Lib.byteCells l) w→∃p v,w.heap[b]? =some (.cells #[p,v] T (0,0))∧Bx w b=v.ownBlock∧∀g,v.ownBlock=some g→g<w.heap.size∧∃cs U f,w.heap[g]? =some (.cells cs U f):=by
  rintro p ⟨_,v,hb,hown,_⟩
  refine⟨p,v,hb,kb_row hb,fun g hg=>⟨(hown.lt g hg).2, ?_⟩⟩
  rcases hown.2 with⟨rfl,_⟩|⟨g',cap,cur,rfl,_,hgg,_⟩
  ·simp[Value.ownBlock] at hg
  ·simp[Value.ownBlock] at hg
   subst hg
   exact⟨_,_,_,hgg⟩
 rcases h with h|h<;>exact key _ h
theorem KB.ne_row {T:TypeId} {w:World} {b:Nat} {l:List UInt8} (h:KB T w b l):¬Bx w b=some b:=by
 have key:∀p,Lib.BuilderAt T 5 0 b p (Lib.byteCells l) w→¬Bx w b=some b:=by
  rintro p ⟨h0,v,h1,h2,h3⟩ h
  rw[kb_row h1] at h
  exact h3 h
 rcases h with h|h<;>exact key _ h
theorem KB.keep {T:TypeId} {w w':World} {b:Nat} {l:List UInt8} (h:KB T w b l) (hb:w'.heap[b]? =w.heap[b]?) (hg:∀g,Bx w b=some g→w'.heap[g]? =w.heap[g]?):KB T w' b l∧Bx w' b=Bx w b:=by
 have key:∀p,Lib.BuilderAt T 5 0 b p (Lib.byteCells l) w→Lib.BuilderAt T 5 0 b p (Lib.byteCells l) w'∧Bx w' b=Bx w b:=by
  rintro p ⟨h0,v,h1,h2,h3⟩
  have e:=kb_row h1
  refine⟨⟨h0,v,hb.trans h1,⟨h2.1, ?_⟩,h3⟩,by rw[kb_row h1,kb_row (hb.trans h1)]⟩
  rcases h2.2 with h4|⟨g,cap,cur,rfl,q1,q2,q3⟩
  ·exact .inl h4
  ·refine .inr ⟨g,cap,cur,rfl,q1, ?_,q3⟩
   rw[hg g e]
   exact q2
 rcases h with h|h
 ·exact⟨.inl (key _ h).1,(key _ h).2⟩
 ·exact⟨.inr (key _ h).1,(key _ h).2⟩
theorem BI.mono {N:Nat} {X:Nat→Prop} {σ σ':Cf} {b:Nat} {l:List UInt8} (h:BI N X σ b l) (e:Evo σ σ'):BI N X σ' b l:=by
 obtain⟨⟨T,hT,hk⟩,o,r⟩:=h
 have hb:∀x,x<σ.w.heap.size→¬σ.M x→σ'.w.heap[x]? =σ.w.heap[x]?∧¬σ'.M x:=fun x hx hM=>by
  obtain⟨g1,g2⟩:=e.fro x _ (Array.getElem?_eq_getElem hx) hM
  exact⟨g1.trans (Array.getElem?_eq_getElem hx).symm,g2⟩
 obtain⟨p,v,c1,c2,c3⟩:=hk.cells
 obtain⟨k1,k2⟩:=hk.keep (w':=σ'.w) (hb b hk.lt o.2.1).1 fun g hg=>(hb g (c3 g (c2▸hg)).1 (r g hg).2.1).1
 refine⟨⟨T,hT,k1⟩,⟨by rw[e.out];exact o.1,(hb b hk.lt o.2.1).2,o.2.2⟩,fun g hg=> ?_⟩
 rw[k2] at hg
 exact⟨by rw[e.out];exact(r g hg).1,(hb g (c3 g (c2▸hg)).1 (r g hg).2.1).2,(r g hg).2.2⟩
structure EvoB (N:Nat) (X:Nat→Prop) (σ σ':Cf):Prop where
 ev:Ev σ σ'
 old:∀x,x<N→¬X x→∀o,σ.w.heap[x]? =some o→¬σ.M x→σ'.w.heap[x]? =some o∧¬σ'.M x
 out:∀x,σ.O x→σ'.O x
 sz:σ.w.heap.size≤σ'.w.heap.size
 io:SameO σ.w σ'.w
theorem Evo.evoB {N:Nat} {X:Nat→Prop} {σ σ':Cf} (h:Evo σ σ'):EvoB N X σ σ':=⟨h.ev,fun x _ _ o ho hM=>h.fro x o ho hM,fun x hx=>by rw[h.out];exact hx,h.sz,h.io⟩
theorem EvoB.trans {N:Nat} {X:Nat→Prop} {a b c:Cf} (h:EvoB N X a b) (k:EvoB N X b c):EvoB N X a c where
 ev:=h.ev.trans k.ev
 old x hx h1 o ho hM:=by
  obtain⟨g1,g2⟩:=h.old x hx h1 o ho hM
  exact k.old x hx h1 o g1 g2
 out x hx:=k.out x (h.out x hx)
 sz:=Nat.le_trans h.sz k.sz
 io:=h.io.trans k.io
def Ctx.bd (P:Program) (S:Tab) (nt hb N:Nat) (X:Nat→Prop) (hnt:nt≤bk):Ctx:={P:=P,F:=Fence.wide,S:=S,nt:=nt,hb:=(hb,false),R:=EvoB N X,G:=fun e σ=>(N≤σ.w.heap.size)∧∀b l,lk e bk=gB b l→BI N X σ b l,ofE:=Evo.evoB,tr:=EvoB.trans,g:=fun {σ σ' e e'} h ev hl=>⟨Nat.le_trans h.1 ev.sz,fun b l hb=>by
  rcases hl bk hnt with h1|h1
  ·rw[h1] at hb;cases hb
  ·exact(h.2 b l (h1.symm.trans hb)).mono ev⟩}
theorem Ctx.bd_ok {P:Program} {S:Tab} {nt hb N:Nat} {X:Nat→Prop} {hnt:nt≤bk} (h:TabOK P S):(Ctx.bd P S nt hb N X hnt).OK:=⟨h,.inl (Eq.refl _)⟩
theorem MM {P:Program} {S:Tab} {nt hb N:Nat} {X:Nat→Prop} {hnt:nt≤bk}:(Ctx.bd P S nt hb N X hnt).S=S:=rfl
def Qh (P:Program) (o:Oper) (a:Act) (w:World) (R:Value→World→Prop):Prop:=
 (∃v w',(execOp a.eval o).run P w= .ok (.value v) w'∧R v w')∨(∃f args,(execOp a.eval o).run P w= .ok (.enter f args) w∧Calls P f args w fun e w'=>∃v,e= .returned v∧R v w')
def Ctx.from (Γ:Ctx) (σ:Cf):Ctx:={Γ with R:=fun a b=>Γ.R σ a→Γ.R σ b,ofE:=fun e h=>Γ.tr h (Γ.ofE e),tr:=fun h k r=>k (h r)}
theorem Km {Γ:Ctx} (hΓ:Γ.OK) (hnb:Γ.hb.2=false) {gk:Nat} (hgk:Γ.nt≤gk) (hgd:gk≠dk Γ.nt) (i:Nat) {rid:Nat} {ops:List AOp} {yo:AOp} {Q:AE→St→Prop} {e e1:Env} {h h1:Hp} {c:Nat} {vc:Prop}
  (hyo:ops[i]? =some yo) (hex:AM Γ.S (c+1) (100*rid) (ops.take i) e h=some (vc,e1,h1)) (hvc:vc) (hg:Bv e1 yo.g=some true) (hnd:∀x,yo.k≠.dfr x) (hnb2:yo.k≠.bad)
  (hst:∀(o:Oper) (a1:Act) (σ1:Cf),yo.k=cK Γ.P o.op→Inv σ1 e1 h1 a1 Γ.nt Γ.hb→Γ.G e1 σ1→Qh Γ.P o a1 σ1.w fun v w'=>∃(σ2:Cf) (x r:AV) (vc2:Prop) (e2:Env) (h2:Hp),σ2.w=w'∧Oth σ1 σ2∧
   (∀(m:Nat),σ1.w.heap[m]? =some (.deferred (some []))→¬σ1.O m→σ2.w.heap[m]? =some (.deferred (some []))∧¬σ2.O m)∧Γ.R σ1 σ2∧Γ.G ((gk,.gd false x)::e1) σ2∧Rep σ2 r v∧
   AM Γ.S (c+1) (100*rid+(i+1)) (ops.drop (i+1)) (AX yo.d r ((gk,.gd false x)::e1)) h1=some (vc2,e2,h2)∧vc2∧Q .n ⟨e2,h2,c+1⟩):
  awp Γ (.reg rid ops) Q ⟨e,h,c⟩:=by
 intro code hc σ a hA
 cases code with
 |region id ops' d=>
  simp only[cCode] at hc
  obtain⟨l0,hx0,⟨rfl,e0⟩|⟨_,_,_,_,e0⟩⟩:=AW hc
  ·cases e0
   refine wpIn_region ?_
   obtain⟨c1,c2⟩:=Bm hx0
   obtain⟨t1,t2⟩:=Bj i hx0
   obtain⟨_,t3⟩:=Bj (i+1) hx0
   have hi:i<ops.length:=(List.getElem?_eq_some_iff.1 hyo).1
   have hsz:ops.length=ops'.size:=c1.trans (by simp)
   have hi':i<ops'.size:=by omega
   have ho:ops'[i]? =some ops'[i]:=Array.getElem?_eq_getElem hi'
   obtain⟨yo',g1,g2⟩:=c2 i ops'[i] (by simp)
   rw[hyo] at g1
   cases g1
   obtain⟨k1,k3,k4⟩:=KZ g2
   have hr:List.range ops'.size=List.range' 0 (ops'.toList.take i).length++(i::List.range' (i+1) (ops'.toList.drop (i+1)).length):=by
    have e1:(ops'.toList.take i).length=i:=by simp;omega
    have e2:(ops'.toList.drop (i+1)).length=ops'.size-(i+1):=by simp
    rw[e1,e2,List.range_eq_range',←List.range'_succ]
    have:=List.range'_append_1 (s:=0) (m:=i) (n:=ops'.size-(i+1)+1)
    rw[Nat.zero_add] at this
    rw[this]
    congr 1
    omega
   rw[hr]
   refine CU hΓ (cnt:=c) (100*rid) e _ (ops'.toList.take i) 0 (ops.take i) σ e e1 h h1 a vc (fun _ _=>rfl) (fun j hj=> ?_) t1 hex hvc hA.1 (fun m hm=> .inl (hA.2.1 m hm)) fun a1 σ1 ev1 hI1 hal1 hfar1=> ?_
   ·have:j<i:=by simp at hj;omega
    simp[List.getElem?_take,this]
   rw[wpOpsIn_cons]
   unfold wpOpIn
   simp only[ho]
   have hw:=BH hI1.t k4 hg
   simp only[hw,if_true]
   refine⟨fun f _=>hΓ.F.fn f, ?_⟩
   have hno:∀c,ops'[i].op≠.defer c:=fun c hd=>by
    rw[hd] at k1
    simp only[cK] at k1
    split at k1
    ·exact hnd _ k1
    ·exact hnb2 k1
   rw[Oper.semAt_eq _ a1.eval _ hno]
   have hG1:Γ.G e1 σ1:=Γ.g hA.2.2 ev1 fun t ht=> .inr (hfar1 t ht)
   have hd:∀k,ops'[i].dst=some k→k<a1.tmps.size:=by
    rw[k3];intro d hd
    rw[hI1.sz];exact B3 g2 d hd
   have fin:∀v w',(∃(σ2:Cf) (x r:AV) (vc2:Prop) (e2:Env) (h2:Hp),σ2.w=w'∧Oth σ1 σ2∧
     (∀(m:Nat),σ1.w.heap[m]? =some (.deferred (some []))→¬σ1.O m→σ2.w.heap[m]? =some (.deferred (some []))∧¬σ2.O m)∧Γ.R σ1 σ2∧Γ.G ((gk,.gd false x)::e1) σ2∧Rep σ2 r v∧
     AM Γ.S (c+1) (100*rid+(i+1)) (ops.drop (i+1)) (AX yo.d r ((gk,.gd false x)::e1)) h1=some (vc2,e2,h2)∧vc2∧Q .n ⟨e2,h2,c+1⟩)→
     wpOpsIn Γ.F 0 Γ.P ops' (lift Γ σ Q) (List.range' (i+1) (ops'.toList.drop (i+1)).length) (a1.put ops'[i].dst v) w':=by
    rintro v w' ⟨σ2,x,r,vc2,e2,h2,rfl,oth,old,hR,hG2,hv,q1,q2,q3⟩
    have hI2:Inv σ2 (AX yo.d r ((gk,.gd false x)::e1)) h1 (a1.put ops'[i].dst v) Γ.nt Γ.hb:=by
     refine⟨hI1.h.oth oth, ?_,by rw[Act.size_put];exact hI1.sz, ?_⟩
     ·rw[←k3]
      refine TInv.put (r:=r) (fun t=> ?_) hd hv
      simp only[lk]
      by_cases ht:gk=t
      ·rw[if_pos ht]
       subst ht
       have:¬gk<a1.tmps.size:=by rw[hI1.sz];exact Nat.not_lt.2 hgk
       simp[Rep,Array.getD,this]
      ·rw[if_neg ht];exact hI1.t.ev oth.ev t
     ·rw[Act.defers_put]
      refine DOK.of hnb (fun d hd=> ?_) (hI1.df.nd hnb) (Nat.le_trans hI1.df.le oth.sz) (hI1.df.gl.ev oth.ev)
      obtain⟨m,r1,r2,r3,r4,r5⟩:=hI1.df.all hnb d hd
      obtain⟨o1,o2⟩:=old m r3 r5
      exact⟨m,r1,r2,o1,by rw[oth.M];exact r4,o2⟩
    have hal2:∀m,σ2.al m→m.2≤c∨(m.2=c+1∧m.1<100*rid+(i+1)):=by
     intro m hm
     rw[oth.al] at hm
     rcases hal1 m hm with h|⟨h3,h4⟩
     ·exact .inl h
     ·right;simp at h4;omega
    have hR2:Γ.R σ σ2:=Γ.tr (Γ.ofE ev1) hR
    have hl:lift (Γ.from σ) σ2 Q=lift Γ σ Q:=by
     funext e a w
     apply propext
     constructor
     ·rintro⟨σ',s',e',h1,h2,h3⟩
      exact⟨σ',s',e',h1,h2 hR2,h3⟩
     ·rintro⟨σ',s',e',h1,h2,h3⟩
      exact⟨σ',s',e',h1,fun _=>h2,h3⟩
    have hh:=CS (Γ:=Γ.from σ) ⟨hΓ.S,hΓ.F⟩ (ops:=ops') (Q:=Q) (cnt:=c) (100*rid) _ σ2 hG2 (ops'.toList.drop (i+1)) (i+1) (ops.drop (i+1)) σ2 _ _ _ _ _ vc2 (fun t ht=>Cu (B3 g2) ht) (fun j=>by simp) (by simp;omega) t3 q1 q2 (Evo.refl σ2) hI2 hal2 q3
    rw[hl] at hh
    exact hh
   rcases hst ops'[i] a1 σ1 k1 hI1 hG1 with⟨v,w',hr,hR⟩|⟨f,args,hr,hcl⟩
   ·rw[hr]
    exact fin v w' hR
   ·rw[hr]
    refine⟨fun h=>by simp[hΓ.F.depth] at h,hΓ.F.calls (hcl.mono ?_)⟩
    rintro en w' ⟨v,rfl,hR⟩
    exact fin v w' hR
  ·cases e0
 |seq x y=>simp only[cCode] at hc;split at hc<;>simp at hc
 |cond c x y=>simp only[cCode] at hc;split at hc<;>simp at hc
 |rangeFunc f ps x y=>simp only[cCode] at hc;split at hc<;>simp at hc
 |_=>simp[cCode] at hc
theorem LB {P:Program} {op:Op} {T:TypeId} (h:AK.allocB T=cK P op):op= .alloc T∧∃zs,C5 P T=some zs∧MX zs=true:=by
 cases op with
 |alloc t=>
  simp only[cK] at h
  split at h
  ·rename_i zs hz
   split at h
   ·rename_i hb
    simp only[AK.allocB.injEq] at h
    subst h
    exact⟨rfl,zs,hz,hb⟩
   ·cases h
  ·cases h
 |_=>
  exfalso
  simp only[cK,DG,Bw,EY,EZ,E0,D2] at h
  (repeat' (split at h))<;>cases h
theorem Of {P:Program} {op:Op} {f:Nat} {ys:List Opd} (h:AK.call f ys=cK P op):∃c,op= .call c∧c.callee= .value (.func f)∧ys=c.args.toList.map opd:=by
 cases op with
 |call c=>
  simp only[cK,D2] at h
  split at h
  ·rename_i g hc
   simp only[AK.call.injEq] at h
   obtain⟨rfl,rfl⟩:=h
   exact⟨c,rfl,hc,rfl⟩
  all_goals (repeat' (split at h))<;>cases h
 |_=>
  exfalso
  simp only[cK,DG,Bw,EY,EZ,E0] at h
  (repeat' (split at h))<;>cases h
theorem LC {v:Value} {sz:Nat} {f:Bool} {d:List AV} (h:ofC v= .sl sz f [] d):v= .slice none 0 0:=by
 unfold ofC at h
 split at h
 ·rfl
 ·cases h
theorem Qi {v x:Value} (h:ofC v= .v x):v=x:=by
 unfold ofC at h
 split at h
 ·cases h
 ·injection h
theorem MN {P:Program} {S:Tab} {nt hb N:Nat} {X:Nat→Prop} {hnt:nt≤bk} (hS:TabOK P S) (i:Nat) {rid:Nat} {ops:List AOp} {Q:AE→St→Prop} {e e1:Env} {h h1:Hp} {c:Nat} {vc:Prop} {d:Option Nat} {T:TypeId}
  (hyo:ops[i]? =some ⟨d,none,.allocB T⟩) (hT:BT T) (hex:AM S (c+1) (100*rid) (ops.take i) e h=some (vc,e1,h1)) (hvc:vc)
  (hQ:∀b:Nat,∃(vc2:Prop) (e2:Env) (h2:Hp),AM S (c+1) (100*rid+(i+1)) (ops.drop (i+1)) (AX d (.v (.pointer (some ⟨b,0,none⟩))) ((bk,gB b [])::e1)) h1=some (vc2,e2,h2)∧vc2∧Q .n ⟨e2,h2,c+1⟩):
  awp (Ctx.bd P S nt hb N X hnt) (.reg rid ops) Q ⟨e,h,c⟩:=by
 refine Km (Ctx.bd_ok hS) (Eq.refl _) (gk:=bk) hnt (fun e=> ?_) i hyo hex hvc (Eq.refl _) (fun x e=>by cases e) (fun e=>by cases e) fun o a1 σ1 hk hI hG=> ?_
 ·have e':bk=nt+2000000:=e
  unfold bk at e'
  omega
 obtain⟨ho,zs,hz,hb⟩:=LB hk
 obtain⟨j,z,z1,z2,z3,_,rfl⟩:=C6 hz
 have hcells:z.cells= #[.pointer none,.slice none 0 0]:=by
  unfold MX at hb
  split at hb
  ·rename_i sz f d he
   have hl:z.cells.toList.length=2:=by have:=congrArg List.length he;simpa using this
   match hzc:z.cells.toList,hl with
   |[x,y],_=>
    rw[hzc] at he
    simp only[List.map_cons,List.map_nil,List.cons.injEq,and_true] at he
    apply Array.ext'
    rw[hzc,Qi he.1,LC he.2]
  ·cases hb
 refine .inl ⟨.pointer (some ⟨σ1.w.heap.size,0,none⟩),σ1.w.alloc (.cells z.cells T), ?_, ?_⟩
 ·simp[execOp,ho,Instr.alloc,zeroValue,typeInfo,z1,z2,newVar,newRow,newObj,Sem.run]
 obtain⟨vc2,e2,h2,q1,q2,q3⟩:=hQ σ1.w.heap.size
 let σ2:Cf:={σ1 with O:=fun x=>σ1.O x∨x=σ1.w.heap.size,w:=σ1.w.alloc (.cells z.cells T)}
 have hold:∀x,x<σ1.w.heap.size→σ2.w.heap[x]? =σ1.w.heap[x]? :=fun x hx=>AR hx
 have hnew:σ2.w.heap[σ1.w.heap.size]? =some (.cells #[.pointer none,.slice none 0 0] T (0,0)):=by rw[←hcells];exact C3
 have hsz:σ2.w.heap.size=σ1.w.heap.size+1:=by simp[σ2]
 have oth:Oth σ1 σ2:={
  rb:=rfl,ra:=rfl,ln:=rfl,al:=rfl,M:=rfl
  ou:=by
   rintro x (hx|rfl)
   ·exact⟨by have:=hI.h.ou x hx;omega,fun hM=>hI.h.dis x hM hx,fun hf=>hf.2.1 hx⟩
   ·exact⟨by omega,fun hM=>absurd (hI.h.lt _ hM) (Nat.lt_irrefl _),fun hf=>absurd hf.2.2 (Nat.lt_irrefl _)⟩
  sz:=by omega
  mem:=fun x hx=>hold x (hI.h.lt x hx)
  fro:=fun x o y hx hc=>by rw[cell_of_heap (hold x hx.2.2)];exact hc
  io:=⟨rfl,rfl⟩}
 refine⟨σ2,.agg [.v (.int .i64 σ1.w.heap.size),.v (.string (sB []))],.v (.pointer (some ⟨σ1.w.heap.size,0,none⟩)),vc2,e2,h2,rfl,oth, ?_, ?_, ?_,by simp[Rep],q1,q2,q3⟩
 ·intro m hm hO
  have hlt:=(Array.getElem?_eq_some_iff.1 hm).1
  exact⟨(hold m hlt).trans hm,fun h=>h.elim hO (fun e=>absurd hlt (by omega))⟩
 ·refine⟨oth.ev,fun x hx h1 o ho hM=>⟨(hold x (Array.getElem?_eq_some_iff.1 ho).1).trans ho,hM⟩,fun x hx=> .inl hx,by omega,⟨rfl,rfl⟩⟩
 ·refine⟨by have:=hG.1;omega,fun b l hl=> ?_⟩
  have hl':gB σ1.w.heap.size []=gB b l:=by simpa [lk] using hl
  obtain⟨rfl,rfl⟩:=Jf hl'
  refine⟨⟨T,hT,.inl ⟨Nat.zero_le _,.slice none 0 0,hnew,World.ownsRow_nil _ _ _ _,by simp[Value.ownBlock]⟩⟩,⟨.inr rfl,fun hM=>absurd (hI.h.lt _ hM) (Nat.lt_irrefl _),.inl hG.1⟩,fun g hg=> ?_⟩
  rw[kb_row hnew] at hg
  simp[Value.ownBlock] at hg
def Hx (P:Program) (f:Nat) (ax:List AV) (l:List UInt8) (l':Option (List UInt8)) (r:AV):Prop:=
 ∀(σ:Cf) (vs:List Value) (b:Nat),Gl σ→(∀x,σ.M x∨σ.O x→x<σ.w.heap.size)→AH ax=true→RepL σ ax vs→(∃T,BT T∧KB T σ.w b l)→σ.O b∧¬σ.M b→(∀g,Bx σ.w b=some g→σ.O g∧¬σ.M g)→
  Calls P f (Value.pointer (some ⟨b,0,none⟩)::vs).toArray σ.w fun e w'=>∃v,e= .returned v∧(∀m,l'=some m→∃T,BT T∧KB T w' b m)∧KStep σ.w w' b∧Rep (σ.at w') r v
@[reducible] def gL (b:Nat):Option (List UInt8)→AV
 |some l=> .agg [.v (.int .i64 b),.v (.string (sB l))]
 |none=> .un
theorem ER {P:Program} {S:Tab} {nt hb N:Nat} {X:Nat→Prop} {hnt:nt≤bk} (hS:TabOK P S) (i:Nat) {rid:Nat} {ops:List AOp} {Q:AE→St→Prop} {e e1:Env} {h h1:Hp} {c:Nat} {vc:Prop} {d:Option Nat} {f b:Nat} {x0:Opd} {xs:List Opd} {ax:List AV}
  {l:List UInt8} {l':Option (List UInt8)} {r:AV} (hyo:ops[i]? =some ⟨d,none,.call f (x0::xs)⟩) (hf:okF P f) (hex:AM S (c+1) (100*rid) (ops.take i) e h=some (vc,e1,h1)) (hvc:vc) (hbk:lk e1 bk=gB b l)
  (hx0:ung true (opv e1 x0)= .v (.pointer (some ⟨b,0,none⟩))) (hxs:BV h1 (xs.map fun x=>ung true (opv e1 x))=ax) (hrv:Ch h1 (xs.map fun x=>ung true (opv e1 x))) (hpu:AH ax=true) (hfl:Co r=true) (hC:Hx P f ax l l' r)
  {vc2:Prop} {e2:Env} {h2:Hp} (hpost:AM S (c+1) (100*rid+(i+1)) (ops.drop (i+1)) (AX d r ((bk,.gd false (gL b l'))::e1)) h1=some (vc2,e2,h2)) (hvc2:vc2) (hQ:Q .n ⟨e2,h2,c+1⟩):
  awp (Ctx.bd P S nt hb N X hnt) (.reg rid ops) Q ⟨e,h,c⟩:=by
 refine Km (Ctx.bd_ok hS) (Eq.refl _) (gk:=bk) hnt (fun e=> ?_) i hyo hex hvc (Eq.refl _) (fun x e=>by cases e) (fun e=>by cases e) fun o a1 σ1 hk hI hG=> ?_
 ·have e':bk=nt+2000000:=e
  unfold bk at e'
  omega
 obtain⟨cl,ho,hcl,hargs⟩:=Of hk
 have hV:=Ci (g:=true) rfl hI.t cl.args.toList
 rw[←hargs] at hV
 simp only[List.map_cons,RepL] at hV
 obtain⟨y,vs,hvs,hy,hV⟩:=hV
 have hy:Rep σ1 (ung true (opv e1 x0)) y:=hy
 rw[hx0] at hy
 have hy:y= .pointer (some ⟨b,0,none⟩):=hy
 subst hy
 obtain⟨hkb,hbo,hbr⟩:=hG.2 b l hbk
 let τ:Cf:={σ1 with M:=fun _=>False}
 have ev:Evo σ1 τ:=⟨fun _ h=>⟨h,rfl⟩,fun _ _ l h=>⟨l,h,Nat.le_refl _,fun _=>rfl⟩,fun _ _ h _=>⟨h,fun h=>h⟩,rfl,Nat.le_refl _,SameO.refl _⟩
 have hr:=CB (τ:=τ) hI.h ev rfl (fun _ h=>h) _ vs hrv hV
 rw[hxs] at hr
 have hc:=hC τ vs b (hI.df.gl.mono ev) (fun x hx=>hx.elim False.elim (hI.h.ou x)) hpu hr hkb ⟨hbo.1,fun h=>h⟩ fun g hg=>⟨(hbr g hg).1,fun h=>h⟩
 obtain⟨T,hT,hK⟩:=hkb
 obtain⟨p,v0,b1,b2,b3⟩:=hK.cells
 refine .inr ⟨f,_, ?_,hc.mono ?_⟩
 ·have hr:=BN hf (cl.args.map a1.eval) σ1.w
  have ha:cl.args.map a1.eval=(Value.pointer (some ⟨b,0,none⟩)::vs).toArray:=by
   rw[←hvs];apply Array.ext';simp
  rw[ha] at hr
  simp only[execOp,ho,resolve,hcl,Act.eval,Sem.run_bind,Deferred.ofValue,Sem.run_pure,Result.andThen,invoke]
  first|exact hr|(simp[ha];exact hr)
 rintro en w' ⟨v,rfl,g1,g2,g3⟩
 have g2:KStep σ1.w w' b:=g2
 refine⟨v,rfl, ?_⟩
 let σ2:Cf:={σ1 with O:=fun x=>σ1.O x∨(l'≠none∧Bx w' b=some x),w:=w'}
 have hrow:∀x,l'≠none→Bx w' b=some x→(σ1.O x∧¬σ1.M x∧Bx σ1.w b=some x∨σ1.w.heap.size≤x)∧x<w'.heap.size:=by
  intro x hl hx
  refine⟨?_, ?_⟩
  ·rcases g2.row x hx with h|h
   ·exact .inl ⟨(hbr x h).1,(hbr x h).2.1,h⟩
   ·exact .inr h
  ·cases l' with
   |none=>exact absurd rfl hl
   |some m=>
    obtain⟨T',_,hK'⟩:=g1 m rfl
    obtain⟨p',v',c1,c2,c3⟩:=hK'.cells
    exact(c3 x (c2▸hx)).1
 have hold:∀x,x<σ1.w.heap.size→x≠b→Bx σ1.w b≠some x→w'.heap[x]? =σ1.w.heap[x]? :=g2.old
 have holdM:∀x,x<σ1.w.heap.size→¬σ1.O x→w'.heap[x]? =σ1.w.heap[x]? :=fun x hx hO=>hold x hx (fun e=>hO (e▸hbo.1)) fun e=>hO (hbr x e).1
 have oth:Oth σ1 σ2:={
  rb:=rfl,ra:=rfl,ln:=rfl,al:=rfl,M:=rfl
  ou:=by
   rintro x (hx|⟨hl,hx⟩)
   ·exact⟨Nat.lt_of_lt_of_le (hI.h.ou x hx) g2.sz,fun hM=>hI.h.dis x hM hx,fun hf=>hf.2.1 hx⟩
   ·obtain⟨h1,h2⟩:=hrow x hl hx
    refine⟨h2,fun hM=> ?_,fun hf=> ?_⟩
    ·rcases h1 with h1|h1
     ·exact h1.2.1 hM
     ·exact absurd (hI.h.lt x hM) (by omega)
    ·rcases h1 with h1|h1
     ·exact hf.2.1 h1.1
     ·exact absurd hf.2.2 (by omega)
  sz:=g2.sz
  mem:=fun x hx=>holdM x (hI.h.lt x hx) fun hO=>hI.h.dis x hx hO
  fro:=fun x o y hx hc=>by rw[show σ2.w.cell? ⟨x,o,none⟩=σ1.w.cell? ⟨x,o,none⟩ from cell_of_heap (holdM x hx.2.2 hx.2.1) o];exact hc
  io:=g2.io}
 refine⟨σ2,gL b l',r,vc2,e2,h2,rfl,oth, ?_, ?_, ?_,CR _ v hfl g3,hpost,hvc2,hQ⟩
 ·intro m hm hO
  have hlt:=(Array.getElem?_eq_some_iff.1 hm).1
  refine⟨(holdM m hlt hO).trans hm,fun h=>h.elim hO fun⟨hl,hx⟩=> ?_⟩
  obtain⟨h1|h1,_⟩:=hrow m hl hx
  ·exact hO h1.1
  ·omega
 ·refine⟨oth.ev,fun x hx h1 o ho hM=>⟨(hold x (Array.getElem?_eq_some_iff.1 ho).1 (fun e=> ?_) fun e=> ?_).trans ho,hM⟩,fun x hx=> .inl hx,g2.sz,g2.io⟩
  ·subst e
   rcases hbo.2.2 with h|h
   ·exact absurd hx (by omega)
   ·exact h1 h
  ·rcases(hbr x e).2.2 with h|h
   ·exact absurd hx (by omega)
   ·exact h1 h
 ·refine⟨Nat.le_trans hG.1 g2.sz,fun b' m hl=> ?_⟩
  have hl1:AV.gd false (gL b l')=gB b' m:=by simpa [lk] using hl
  cases l' with
  |none=>simp[gL,gB] at hl1
  |some m'=>
   have hl2:gB b m'=gB b' m:=hl1
   obtain⟨rfl,rfl⟩:=Jf hl2
   refine⟨g1 m' rfl,⟨.inl hbo.1,hbo.2.1,hbo.2.2⟩,fun g hg=> ?_⟩
   obtain⟨h1,_⟩:=hrow g (by simp) hg
   refine⟨.inr ⟨by simp,hg⟩, ?_, ?_⟩
   ·rcases h1 with h1|h1
    ·exact h1.2.1
    ·exact fun hM=>absurd (hI.h.lt g hM) (by omega)
   ·rcases h1 with h1|h1
    ·exact(hbr g h1.2.2).2.2
    ·exact .inl (Nat.le_trans hG.1 h1)
theorem MO {args:List AV} {nt t:Nat} (h:args.length≤nt) (ht:nt≤t):lk (A1 0 args) t= .un:=by
 rw[Cl,if_neg (by omega)]
theorem Kn {τ:Cf} {args:List AV} {vs:List Value} {nt:Nat} (hx:RepL τ args vs) (hn:args.length≤nt):TInv τ (A1 0 args) {tmps:=vs.toArray++Array.replicate (nt-vs.toArray.size) undef,defers:=[]}:=fun t=>by
 have hlen:=AP hx
 rw[Cl]
 split
 ·rename_i ht
  simp only[Nat.zero_le,Nat.zero_add,true_and] at ht
  have hg:args[t]? =some args[t]:=List.getElem?_eq_getElem ht
  obtain⟨x,g1,g2⟩:=Bc hx t _ hg
  have e1:args.getD (t-0) .un=args[t]:=by simp[ht]
  have hlt':t<vs.length:=by omega
  have e2:(vs.toArray++Array.replicate (nt-vs.toArray.size) undef).getD t undef=x:=by
   rw[List.getElem?_eq_getElem hlt'] at g1
   simp at g1
   simp[Array.getD_eq_getD_getElem?,Array.getElem?_append_left,hlt',g1]
  rw[e1,e2];exact g2
 ·simp[Rep]
theorem Ko {P:Program} {nt n:Nat} {fn:Func} {rvs:List RV} {r:AV} {s':St} {a':Act} {ρ0 τ:Cf} (hr:cRes P fn.results.toList=some rvs) (hI:Inv ρ0 s'.env s'.hp {a' with defers:=[]} nt (n,false)) (h:B4 rvs r s') (hO:∀b,τ.M b∨τ.O b→ρ0.O b):
  ∃v',(results fn a'.tmps).run P ρ0.w= .ok v' ρ0.w∧A4 r=true∧Rep (τ.at ρ0.w) r v':=by
 obtain⟨vc,xs,g1,g2,g3,g4,g5⟩:=h
 obtain⟨us,k1,k2⟩:=Cj hI hr g1 g2
 refine⟨_,Ck k1,g5, ?_⟩
 have hone:Rep ρ0 (one xs) (if h:us.toArray.size=1 then us.toArray[0] else .tuple us.toArray):=by
  have hl':=AP k2
  unfold one
  split
  ·rename_i x
   simp only[RepL] at k2
   obtain⟨y,ys,rfl,e2,rfl⟩:=k2
   simpa using e2
  ·rename_i hno
   have hne:us.toArray.size≠1:=by
    intro h1
    simp at h1
    rw[h1] at hl'
    cases xs with
    |nil=>simp at hl'
    |cons x xs=>cases xs with
     |nil=>exact hno x rfl
     |cons _ _=>simp at hl'
   rw[dif_neg hne]
   simp only[Rep]
   exact⟨us,rfl,k2⟩
 let ρ:Cf:={ρ0 with M:=fun _=>False}
 have e:Evo ρ0 ρ:=⟨fun _ h=>⟨h,rfl⟩,fun _ _ l h=>⟨l,h,Nat.le_refl _,fun _=>rfl⟩,fun _ _ h _=>⟨h,fun h=>h⟩,rfl,Nat.le_refl _,SameO.refl _⟩
 have h6:=EO (τ:=ρ) hI.h e rfl (fun _ h=>h) _ _ g3 hone
 have h7:=DS _ _ _ g4 h6
 refine Rep.ofPure (σ:=ρ) (σ':=τ.at ρ0.w) (fun b hb=> ?_) (fun _ _=>rfl) r _ g5 h7
 exact⟨fun h=>hb.2.1 (hO b (.inl h)),fun h=>hb.2.1 (hO b (.inr h)),hb.2.2⟩
theorem MQ {P:Program} {S:Tab} (hS:TabOK P S) {f:Nat} {fn:Func} {c:AC} {rvs:List RV} {args:List AV} {r:AV} (nt:Nat) (hf:P.funcs[f]? =some fn) (hc:Bl P fn=some (c,rvs)) (hnt:fn.ntmps=nt) (hbk:nt≤bk)
  (hn:args.length≤nt) (h:∀hb N,awp (Ctx.bd P S nt hb N (fun _=>False) hbk) c (Ee rvs r) ⟨A1 0 args,[],0⟩):PCall P f args r:=by
 subst hnt
 unfold Bl at hc
 split at hc
 rotate_left
 ·simp at hc
 rename_i b hbd
 split at hc
 rotate_left
 ·simp at hc
 rename_i c' r' hcc hr
 simp only[yE,Prod.mk.injEq] at hc
 obtain⟨rfl,rfl⟩:=hc
 intro σ vs hgl hlt hp hx
 have hlen:=AP hx
 let τ:=σ.fresh
 have hgt:Gl τ:=fun b j hj=>⟨⟨fun h=>h,by rintro(h|h);exact(hgl b j hj).1.1 h;exact(hgl b j hj).1.2.1 h,(hgl b j hj).1.2.2⟩,(hgl b j hj).2⟩
 have hx':RepL τ args vs:=RepL.ofPure (σ:=σ) (σ':=τ) (fun b hb=>⟨fun h=>h,by rintro(h|h);exact hb.1 h;exact hb.2.1 h,hb.2.2⟩) (fun _ _=>rfl) args vs hp hx
 have hI:Inv τ (A1 0 args) [] {tmps:=vs.toArray++Array.replicate (fn.ntmps-vs.toArray.size) undef,defers:=[]} fn.ntmps (σ.w.heap.size,false):=by
  refine⟨⟨fun n=>rfl,fun n j c h=>by simp[hl] at h,fun n sz live rows d h=>by simp[hl] at h, ?_,fun b h=>h.elim,hlt,fun b h=>h.elim⟩,Kn hx' hn,by simp;omega,DOK.nil (Nat.le_refl _) hgt⟩
  rintro p q b (⟨_,_,j,c,h⟩|⟨_,⟨_,_,_,h⟩,_⟩) _<;>simp[hl] at h
 have hw:=h σ.w.heap.size σ.w.heap.size b hcc τ _ ⟨hI,fun m hm=>hm.elim,Nat.le_refl _,fun b l hl=>by rw[MO hn hbk] at hl;cases hl⟩
 refine callsIn_wide.1 (callsIn_of_wp_marks (n:=0) hf hbd trivial (wpIn_mono hw ?_))
 rintro e a' w' ⟨σ',s',e',rfl,h2,h3,h4,h5⟩
 have h2:EvoB σ.w.heap.size (fun _=>False) τ σ':=h2
 have key:∀(s':St),At (Ctx.bd P S fn.ntmps σ.w.heap.size σ.w.heap.size (fun _=>False) hbk) σ' s' a'→B4 r' r s'→LeavesInM Fence.wide 0 P fn a'.tmps (fun e w'=>∃v',e= .returned v'∧(∀(b:Nat) (o:Obj),σ.w.heap[b]? =some o→w'.heap[b]? =some o)∧SameO σ.w w'∧A4 r=true∧Rep (σ.at w') r v') a'.defers .returning σ'.w:=by
  rintro s' hA hk
  refine Cv a'.defers σ' (fun b hb=>⟨hA.1.h.ou b hb,fun hM=>hA.1.h.dis b hM hb⟩) (DOK.of' hA.1.df) fun ρ0 ko kO kb=> ?_
  have hI':Inv ρ0 s'.env s'.hp {a' with defers:=[]} fn.ntmps (σ.w.heap.size,false):=⟨hA.1.h.oth ko,hA.1.t.ev ko.ev,hA.1.sz,DOK.nil (Nat.le_trans hA.1.df.le ko.sz) (hA.1.df.gl.ev ko.ev)⟩
  obtain⟨v',k1,k2,k3⟩:=Ko (τ:=σ) hr hI' hk fun b hb=>by rw[kO];exact h2.out b hb
  exact⟨v',k1,_,rfl,fun b o hb=>kb b o (.inl (Array.getElem?_eq_some_iff.1 hb).1) (h2.old b (Array.getElem?_eq_some_iff.1 hb).1 (fun h=>h) o hb (fun h=>h)).1,h2.io.trans ko.io,k2,k3⟩
 cases e with
 |normal=>simp[AE.of] at h4;subst h4;exact key s' h3 h5
 |ret=>simp[AE.of] at h4;subst h4;exact key s' h3 h5
 |exit i=>simp[AE.of] at h4;subst h4;exact h5.elim
 |goto l=>simp[AE.of] at h4
 |panic c=>obtain⟨v,rfl,rfl⟩:=AE.of_panic h4;exact h5.elim
 |outgrown=>simp[AE.of] at h4
def MR (b:Nat) (l':List UInt8) (rvs:List RV) (r:AV):AE→St→Prop
 | .n,s=>lk s.env bk=gB b l'∧B4 rvs r s
 | .r,s=>lk s.env bk=gB b l'∧B4 rvs r s
 | .x _,_=>False
 | .p _,_=>False
theorem Pe {b:Nat} {l':List UInt8} {rvs:List RV} {r:AV} {e:Env} {h:Hp} {c:Nat} {vc:Prop} {xs:List AV} (h0:lk e bk=gB b l') (h1:BD e h rvs=some (vc,xs)) (h2:vc) (h3:rvc h (one xs)) (h4:wk (res h (one xs)) r) (h5:A4 r=true):MR b l' rvs r .n ⟨e,h,c⟩:=⟨h0,vc,xs,h1,h2,h3,h4,h5⟩
theorem MS {P:Program} {S:Tab} (hS:TabOK P S) {f:Nat} {fn:Func} {c:AC} {rvs:List RV} {args:List AV} {r:AV} {l l':List UInt8} (nt:Nat) (hf:P.funcs[f]? =some fn) (hc:Bl P fn=some (c,rvs)) (hnt:fn.ntmps=nt) (hbk:nt≤bk)
  (hn:args.length+1≤nt) (h:∀hb N X b,awp (Ctx.bd P S nt hb N X hbk) c (MR b l' rvs r) ⟨(bk,gB b l)::A1 0 (.v (.pointer (some ⟨b,0,none⟩))::args),[],0⟩):Hx P f args l (some l') r:=by
 subst hnt
 unfold Bl at hc
 split at hc
 rotate_left
 ·simp at hc
 rename_i code hbd
 split at hc
 rotate_left
 ·simp at hc
 rename_i c' r' hcc hr
 simp only[yE,Prod.mk.injEq] at hc
 obtain⟨rfl,rfl⟩:=hc
 intro σ vs b hgl hlt hp hx hK hbo hbr
 let τ:=σ.fresh
 have hgt:Gl τ:=fun b j hj=>⟨⟨fun h=>h,by rintro(h|h);exact(hgl b j hj).1.1 h;exact(hgl b j hj).1.2.1 h,(hgl b j hj).1.2.2⟩,(hgl b j hj).2⟩
 have hx':RepL τ args vs:=RepL.ofPure (σ:=σ) (σ':=τ) (fun b hb=>⟨fun h=>h,by rintro(h|h);exact hb.1 h;exact hb.2.1 h,hb.2.2⟩) (fun _ _=>rfl) args vs hp hx
 have hx2:RepL τ (.v (.pointer (some ⟨b,0,none⟩))::args) (.pointer (some ⟨b,0,none⟩)::vs):=⟨_,_,rfl,by simp[Rep],hx'⟩
 have hlen:=AP hx2
 have hn2:(AV.v (.pointer (some ⟨b,0,none⟩))::args).length≤fn.ntmps:=by simpa using hn
 have hst:=Kn hx2 hn2
 have hsz:((Value.pointer (some ⟨b,0,none⟩)::vs).toArray++Array.replicate (fn.ntmps-(Value.pointer (some ⟨b,0,none⟩)::vs).toArray.size) undef).size=fn.ntmps:=by
  simp only[Array.size_append,Array.size_replicate,List.size_toArray]
  omega
 have hI:Inv τ ((bk,gB b l)::A1 0 (.v (.pointer (some ⟨b,0,none⟩))::args)) [] {tmps:=(Value.pointer (some ⟨b,0,none⟩)::vs).toArray++Array.replicate (fn.ntmps-(Value.pointer (some ⟨b,0,none⟩)::vs).toArray.size) undef,defers:=[]} fn.ntmps (σ.w.heap.size,false):=by
  refine⟨⟨fun n=>rfl,fun n j c h=>by simp[hl] at h,fun n sz live rows d h=>by simp[hl] at h, ?_,fun b h=>h.elim,hlt,fun b h=>h.elim⟩,fun t=> ?_,hsz,DOK.nil (Nat.le_refl _) hgt⟩
  ·rintro p q b (⟨_,_,j,c,h⟩|⟨_,⟨_,_,_,h⟩,_⟩) _<;>simp[hl] at h
  ·simp only[lk]
   by_cases ht:bk=t
   ·rw[if_pos ht]
    subst ht
    have:¬bk<((Value.pointer (some ⟨b,0,none⟩)::vs).toArray++Array.replicate (fn.ntmps-(Value.pointer (some ⟨b,0,none⟩)::vs).toArray.size) undef).size:=by rw[hsz];exact Nat.not_lt.2 hbk
    have h2:((Value.pointer (some ⟨b,0,none⟩)::vs).toArray++Array.replicate (fn.ntmps-(Value.pointer (some ⟨b,0,none⟩)::vs).toArray.size) undef).getD bk undef=undef:=by simp only[Array.getD,this,dif_neg,not_false_eq_true]
    rw[h2]
    simp[Rep]
   ·rw[if_neg ht];exact hst t
 let X:Nat→Prop:=fun x=>x=b∨Bx σ.w b=some x
 have hbi:BI σ.w.heap.size X τ b l:=⟨hK,⟨.inr hbo.1,fun h=>h,.inr (.inl rfl)⟩,fun g hg=>⟨.inr (hbr g hg).1,fun h=>h,.inr (.inr hg)⟩⟩
 have hw:=h σ.w.heap.size σ.w.heap.size X b code hcc τ _ ⟨hI,fun m hm=>hm.elim,Nat.le_refl _,fun b' m hl=>by
  have hl1:gB b l=gB b' m:=by simpa [lk] using hl
  obtain⟨rfl,rfl⟩:=Jf hl1
  exact hbi⟩
 refine callsIn_wide.1 (callsIn_of_wp_marks (n:=0) hf hbd trivial (wpIn_mono hw ?_))
 rintro e a' w' ⟨σ',s',e',rfl,h2,h3,h4,h5⟩
 have h2:EvoB σ.w.heap.size X τ σ':=h2
 have key:∀(s':St),At (Ctx.bd P S fn.ntmps σ.w.heap.size σ.w.heap.size X hbk) σ' s' a'→lk s'.env bk=gB b l'∧B4 r' r s'→LeavesInM Fence.wide 0 P fn a'.tmps (fun e w'=>∃v,e= .returned v∧(∀m,some l'=some m→∃T,BT T∧KB T w' b m)∧KStep σ.w w' b∧Rep (σ.at w') r v) a'.defers .returning σ'.w:=by
  rintro s' hA ⟨hgb,hk⟩
  obtain⟨⟨T,hT,hk2⟩,o1,o2⟩:=hA.2.2.2 b l' hgb
  obtain⟨p,v0,c1,c2,c3⟩:=hk2.cells
  refine Cv a'.defers σ' (fun b hb=>⟨hA.1.h.ou b hb,fun hM=>hA.1.h.dis b hM hb⟩) (DOK.of' hA.1.df) fun ρ0 ko kO kb=> ?_
  have hI':Inv ρ0 s'.env s'.hp {a' with defers:=[]} fn.ntmps (σ.w.heap.size,false):=⟨hA.1.h.oth ko,hA.1.t.ev ko.ev,hA.1.sz,DOK.nil (Nat.le_trans hA.1.df.le ko.sz) (hA.1.df.gl.ev ko.ev)⟩
  obtain⟨v',k1,k2,k3⟩:=Ko (τ:=σ) hr hI' hk fun b hb=>by rw[kO];exact h2.out b hb
  have hob:∀x,x<σ'.w.heap.size→σ'.O x→ρ0.w.heap[x]? =σ'.w.heap[x]? :=fun x hx hO=>(kb x _ (.inr hO) (Array.getElem?_eq_getElem hx)).trans (Array.getElem?_eq_getElem hx).symm
  obtain⟨q1,q2⟩:=hk2.keep (w':=ρ0.w) (hob b hk2.lt o1.1) fun g hg=>hob g (c3 g (c2▸hg)).1 (o2 g hg).1
  refine⟨v',k1,v',rfl,fun m hm=> ?_,⟨fun x hx h1 h3=> ?_,fun g hg=> ?_,Nat.le_trans h2.sz ko.sz,h2.io.trans ko.io⟩,k3⟩
  ·cases hm
   exact⟨T,hT,q1⟩
  ·have:=h2.old x hx (fun h=>h.elim h1 h3) _ (Array.getElem?_eq_getElem hx) (fun h=>h)
   rw[kb x _ (.inl hx) this.1]
   exact(Array.getElem?_eq_getElem hx).symm
  ·rw[q2] at hg
   rcases(o2 g hg).2.2 with h|h|h
   ·exact .inr h
   ·subst h
    exact absurd hg hk2.ne_row
   ·exact .inl h
 cases e with
 |normal=>simp[AE.of] at h4;subst h4;exact key s' h3 h5
 |ret=>simp[AE.of] at h4;subst h4;exact key s' h3 h5
 |exit i=>simp[AE.of] at h4;subst h4;exact h5.elim
 |goto l=>simp[AE.of] at h4
 |panic c=>obtain⟨v,rfl,rfl⟩:=AE.of_panic h4;exact h5.elim
 |outgrown=>simp[AE.of] at h4
theorem Kd {l m:List UInt8} (hl:l.length+m.length≤140737488355328):Hx Tryz.prog 79 [.v (.string (sB m))] l (some (l++m)) (.tup [.i m.length,.v .nilIface]):=by
 intro σ vs b hgl hlt hp hx hK hbo hbr
 simp only[RepL,Rep] at hx
 obtain⟨y,ys,rfl,rfl,rfl⟩:=hx
 obtain⟨T,hT,hk⟩:=hK
 refine(Ny hT b l m σ.w hk hl).mono ?_
 rintro e w' ⟨rfl,h1,h2⟩
 exact⟨_,rfl,fun n hn=>by cases hn;exact⟨T,hT,h1⟩,h2,⟨[_,_],rfl,_,_,rfl,by simp[Rep],_,_,rfl,by simp[Rep],rfl⟩⟩
theorem Jg {l:List UInt8} (hl:l≠[]):Hx Tryz.prog 57 [] l none (.v (.string (sB l))):=by
 intro σ vs b hgl hlt hp hx hK hbo hbr
 simp only[RepL] at hx
 subst hx
 obtain⟨T,hT,hk⟩:=hK
 refine(L7 b l σ.w hk hl).mono ?_
 rintro e w' ⟨rfl,h2⟩
 exact⟨_,rfl,fun n hn=>(by cases hn),h2,(by simp only[Rep,sB])⟩
attribute [go_sem] bk MM Q0 dk
end Go.Proofs.YtdabfcbelkjmgaaGreatDoor.Am
