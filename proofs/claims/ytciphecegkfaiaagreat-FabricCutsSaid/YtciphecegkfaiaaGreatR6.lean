import Derived.Test.YtciphecegkfaiaaGreatF2
import Derived.Shelf.Lay
import Derived.WalkKit
import Derived.Sort.Grow
import Derived.StillTailTactics
import Derived.Deep.RegionWith
import Derived.Test.YtciphecegkfaiaaGreatR4
import Derived.Shelf.SlSortCmp.NoneTotal
import Derived.Ground.SlsfProg
import Derived.Test.YtciphecegkfaiaaGreatA25
import Derived.Test.YtciphecegkfaiaaGreatE1
namespace Go.Proofs.YtciphecegkfaiaaGreat.Am
open Go Go.RowKit Go.Lib Go.Sort
set_option linter.unusedVariables false
set_option linter.unusedSimpArgs false
set_option maxHeartbeats 1000000
set_option maxRecDepth 100000
def cOr (x y:Int):Int:=if x=0 then y else x
theorem or2 (x y:Int) (b:Nat) (w:World) (h0:w.cell? ⟨b,0,none⟩=some (.int .i64 x)) (h1:w.cell? ⟨b,1,none⟩=some (.int .i64 y)):
  Calls Tryz.prog 127 #[.slice (some ⟨b,0,none⟩) 2 2] w fun e w'=>e= .returned (.int .i64 (cOr x y))∧w'=w:=by
 have e0:(x !=0)=decide (x≠0):=by by_cases h:x=0<;>simp[h]
 by_cases hx:x=0
 ·subst hx
  by_cases hy:y=0
  ·subst hy
   go_enter Tryz.func127,Tryz.ntmps127
   go_wp2
   refine wp_loop_rounds 3 ?_
   rw[rounds_succ]
   go_wp2
   rw[rounds_succ]
   go_wp2
   rw[rounds_succ]
   go_wp2
   all_goals (go_ret;exact⟨by simp[cOr],rfl⟩)
  ·have hy2:(y==0)=false:=by simpa using hy
   go_enter Tryz.func127,Tryz.ntmps127
   go_wp2
   refine wp_loop_rounds 3 ?_
   rw[rounds_succ]
   go_wp2
   rw[rounds_succ]
   go_wp2
   all_goals (go_ret;exact⟨by simp[cOr,hy],rfl⟩)
 ·have hx2:(x==0)=false:=by simpa using hx
  go_enter Tryz.func127,Tryz.ntmps127
  go_wp2
  refine wp_loop_rounds 3 ?_
  rw[rounds_succ]
  go_wp2
  all_goals (go_ret;exact⟨by simp[cOr,hx],rfl⟩)
theorem qP (x:Int) (w:World):Calls Tryz.prog 128 #[.int .i64 x] w fun e w'=>e= .returned (.bool false)∧w'=w:=by
 go_enter Tryz.func128,Tryz.ntmps128
 go_wp2
 go_ret
 exact⟨by simp,rfl⟩
def cI (x y:Int):Int:=if x<y then-1 else if y<x then 1 else 0
theorem U6 (x y:Int) (w:World):Calls Tryz.prog 87 #[.int .i64 x,.int .i64 y] w fun e w'=>e= .returned (.int .i64 (cI x y))∧w'=w:=by
 go_enter Tryz.func87,Tryz.ntmps87
 go_wp2_with (go_at_call 128;refine(qP _ _).mono ?_;rintro e w' ⟨rfl,rfl⟩)
 all_goals (go_ret;refine⟨?_,rfl⟩;unfold cI;(repeat' split)<;>first|rfl|(exfalso;omega))
theorem wst {P:Program} {id:Nat} {Q:Exit→Act→World→Prop} {a:Act} {w W2:World} {l:List Oper} (n:Nat) (hm:P.follows .mixedOrders=true) (hB:Region.lexTailB .any l.toArray n=true) (hW:W2=w.drew)
  (h:wpStill P l.toArray W2 (fun a'=>wpList P l.toArray Q (l.drop n) a' W2) (l.take n) a):(Code.region id l.toArray true).wp P Q a w:=by
 subst hW;exact wp_region_still_tail n hm hB h
theorem jT (a0 a1 a2 a3 a4 a5 a6 a7 b0 b1 b2 b3 b4 b5 b6 b7:Int) (w:World):
  Calls Tryz.prog 126 #[.agg #[.int .i64 a0,.int .i64 a1,.int .i64 a2,.int .i64 a3,.int .i64 a4,.int .i64 a5,.int .i64 a6,.int .i64 a7],.agg #[.int .i64 b0,.int .i64 b1,.int .i64 b2,.int .i64 b3,.int .i64 b4,.int .i64 b5,.int .i64 b6,.int .i64 b7]] w fun e w'=>e= .returned (.int .i64 (cOr (cI a0 b0) (cI a1 b1)))∧∃q os',w'=grow (w.drewN q) os':=by
 obtain⟨W2,hW2⟩:∃W2:World,W2=((w.alloc (.cells #[.int .i64 a0,.int .i64 a1,.int .i64 a2,.int .i64 a3,.int .i64 a4,.int .i64 a5,.int .i64 a6,.int .i64 a7] 66)).alloc (.cells #[.int .i64 b0,.int .i64 b1,.int .i64 b2,.int .i64 b3,.int .i64 b4,.int .i64 b5,.int .i64 b6,.int .i64 b7] 66)).drew:=⟨_,rfl⟩
 have c0:W2.cell? ⟨w.heap.size,0,none⟩=some (.int .i64 a0):=by rw[hW2];go_simp
 have c1:W2.cell? ⟨w.heap.size,1,none⟩=some (.int .i64 a1):=by rw[hW2];go_simp
 have d0:W2.cell? ⟨w.heap.size+1,0,none⟩=some (.int .i64 b0):=by rw[hW2];go_simp
 have d1:W2.cell? ⟨w.heap.size+1,1,none⟩=some (.int .i64 b1):=by rw[hW2];go_simp
 have hend:∀o:Obj,∃q os',W2.alloc o=grow (w.drewN q) os':=fun o=>⟨1,_,by rw[hW2];show((((w.drewN 1).alloc _).alloc _).alloc _)=_;rw[alloc_eq_grow,alloc_eq_grow,alloc_eq_grow,grow_grow,grow_grow]⟩
 go_enter Tryz.func126,Tryz.ntmps126
 go_wp2
 refine wst 10 (by kernel_rfl) (by kernel_rfl) hW2 ?_
 simp only[List.take_succ_cons,List.take_zero,List.drop_succ_cons,List.drop_zero]
 repeat still_step
 still_call (U6 _ _ _)
 repeat still_step
 still_call (U6 _ _ _)
 refine wpStill_nil ?_
 clear c0 c1 d0 d1 hW2
 have g0:∀(u v:Value) (T:Nat),(W2.alloc (.cells #[u,v] T)).cell? ⟨W2.heap.size,0,none⟩=some u:=fun u v T=>by go_simp
 have g1:∀(u v:Value) (T:Nat),(W2.alloc (.cells #[u,v] T)).cell? ⟨W2.heap.size,1,none⟩=some v:=fun u v T=>by go_simp
 go_wp2_with fail
 go_at_call 127
 refine(or2 _ _ _ _ (g0 _ _ _) (g1 _ _ _)).mono ?_
 rintro e w' ⟨rfl,rfl⟩
 go_wp2
 go_ret
 exact⟨rfl,hend _⟩
end Go.Proofs.YtciphecegkfaiaaGreat.Am
namespace Go.Proofs.YtciphecegkfaiaaGreat.Am
open Go Go.Shelf Go.RowKit Go.Lib Go.Sort
set_option linter.unusedVariables false
set_option linter.unusedSimpArgs false
set_option maxHeartbeats 1000000
set_option maxRecDepth 100000
shelf_lay_g SlLaysF0.n6 Slsf 6 at Tryz 125 as sortC
def Gy (c:Ct):List Value:=[.int .i64 c.1,.int .i64 c.2.1,.int .i64 c.2.2.1,.int .i64 c.2.2.2.1,.int .i64 c.2.2.2.2.1,.int .i64 c.2.2.2.2.2.1,.int .i64 c.2.2.2.2.2.2.1,.int .i64 c.2.2.2.2.2.2.2]
def cfC (x y:Ct):Int:=cOr (cI x.1 y.1) (cI x.2.1 y.2.1)
def ltC (x y:Ct):Bool:=decide (x.1<y.1∨x.1=y.1∧x.2.1<y.2.1)
theorem WY:ltOf cfC=ltC:=by
 funext x y
 simp only[ltOf,cfC,cOr,cI,ltC,decide_eq_decide]
 by_cases h1:x.1<y.1
 ·simp[h1]
 ·by_cases h2:y.1<x.1
  ·simp[h1,h2];omega
  ·have h3:x.1=y.1:=by omega
   by_cases h4:x.2.1<y.2.1
   ·simp[h3,h4]
   ·by_cases h5:y.2.1<x.2.1<;>simp[h3,h4,h5]
theorem qQ:SWO (ltOf cfC):=by
 rw[WY]
 refine⟨fun x=> ?_,fun x y z h1 h2=> ?_,fun x y z h1 h2=> ?_⟩
 ·simp[ltC]
 ·simp only[ltC,decide_eq_true_eq] at h1 h2⊢;omega
 ·simp only[ltC,decide_eq_false_iff_not] at h1 h2⊢;omega
theorem qR (blk off size:Nat) (w:World):CmpLays Tryz.prog 126 #[] Gy 8 cfC blk off size w:=
 fun _ _ _ _ x y=>jT _ _ _ _ _ _ _ _ _ _ _ _ _ _ _ _ _
theorem qS (w:World):(isAgg 66).run Tryz.prog w= .ok true w:=by
 have h:(Tryz.prog.underlying 66).map BU=some true:=by kernel_rfl
 cases hd:Tryz.prog.underlying 66 with
 |none=>rw[hd] at h;cases h
 |some d=>rw[hd] at h;rw[Is hd,yJ h]
theorem qT (w:World):(Go.sizeOf 66).run Tryz.prog w= .ok 8 w:=by
 have h:(Tryz.prog.info? 66).map (fun i=>i.size)=some 8:=by kernel_rfl
 obtain⟨i,hi,h2⟩:=Option.map_eq_some_iff.1 h
 rw[Dw hi,h2]
theorem L3 (c:Ct):(Gy c).length=8:=rfl
theorem Zt:∀(l:List Ct) (t:Nat),(l.flatMap Gy)[t]? =(l[t/8]?).bind fun c=>(Gy c)[t%8]?
 |[],t=>by simp
 |c::l,t=>by
  rw[List.flatMap_cons,List.getElem?_append,L3]
  split
  ·rename_i h
   rw[Nat.div_eq_of_lt h,Nat.mod_eq_of_lt h];rfl
  ·rename_i h
   rw[Zt l (t-8),show t/8=(t-8)/8+1 by omega,show t%8=(t-8)%8 by omega]
   rfl
theorem WZ (l:List Ct) (t:Nat) (h:t<l.length*8):(l.flatMap Gy)[t]? =some ((flatK Gy 8 l.toArray)[t]!):=by
 have h1:t/8<l.length:=by omega
 rw[get_flatK Gy 8 l.toArray t (by simpa using h),Zt,List.getElem?_eq_getElem h1]
 have h2:t%8<(Gy l[t/8]).length:=by rw[L3];omega
 rw[Option.bind_some,List.getElem?_eq_getElem h2,getElem!_pos l.toArray (t/8) (by simpa using h1),List.getElem_toArray,getElem!_pos (Gy l[t/8]) (t%8) h2]
def srt (l:List Ct):List Ct:=l.mergeSort fun x y=> !ltC y x
theorem TP (l:List Ct):(srt l).length=l.length:=(List.mergeSort_perm _ _).length_eq
theorem QA {α β:Type} {f:α→β}:∀{l:List α},(l.map f).Nodup→∀{a b:α},a∈l→b∈l→f a=f b→a=b
 |[],_,a,b,ha,_,_=>by cases ha
 |c::l,h,a,b,ha,hb,e=>by
  rw[List.map_cons,List.nodup_cons] at h
  cases ha with
  |head=>
   cases hb with
   |head=>rfl
   |tail _ hb=>exact absurd (e▸List.mem_map_of_mem hb) h.1
  |tail _ ha=>
   cases hb with
   |head=>exact absurd (e▸List.mem_map_of_mem ha) h.1
   |tail _ hb=>exact QA h.2 ha hb e
theorem qU {blk off cap:Nat} {l:List Ct} {w:World} (hl:Lies w blk off (l.flatMap Gy)) (hf:∃cs T,w.heap[blk]? =some (.cells cs T (0,0))) (hsz:l.length<4611686018427387904) (hnd:(l.map fun c=>(c.1,c.2.1)).Nodup):
  Calls Tryz.prog 125 #[.slice (some ⟨blk,off,none⟩) l.length cap,.func (.func 126) #[] #[]] w fun e w'=>e= .returned (.tuple #[])∧KeptB blk w w'∧Lies w' blk off ((srt l).flatMap Gy):=by
 have eg:∀args w,(callFunc 126 args).run Tryz.prog w= .ok (.enter 126 args) w:=enters_of Tryz.func126 (by kernel_rfl) rfl
 have hblk:blk<w.heap.size:=by obtain⟨cs,T,h⟩:=hf;exact(Array.getElem?_eq_some_iff.1 h).1
 have hH:HoldsK Gy 8 w blk off l.toArray:=fun j hj=>by
  rw[size_flatK,List.size_toArray] at hj
  refine⟨hl j _ (WZ l j hj), ?_⟩
  obtain⟨cs,T,h⟩:=hf
  simp[World.frozen?,h]
 have hS:=AnyQ.slices_SortFunc sortC 8 qS qT Gy L3 (fun x v hv=>by simp[Gy] at hv;rcases hv with rfl|rfl|rfl|rfl|rfl|rfl|rfl|rfl<;>rfl) cfC qQ 126 #[] blk off cap l.toArray w eg (qR blk off l.toArray.size w) hH hblk (by simpa using hsz)
 refine hS.mono ?_
 rintro e w' ⟨rfl,d',n,os,hp,hs,rfl⟩
 have hd:d'.toList=srt l:=by
  obtain⟨hsz',_,hperm⟩:=hp
  have e1:d'.extract 0 l.toArray.size=d':=by rw[←hsz'];exact Array.extract_size
  rw[e1,Array.extract_size] at hperm
  rw[WY] at hs
  refine List.Perm.eq_of_pairwise (le:=fun x y=>(!ltC y x)=true) ?_ ?_ ?_ (hperm.trans (List.mergeSort_perm _ _).symm)
  ·intro a b ha hb h1 h2
   simp only[Bool.not_eq_true',ltC,decide_eq_false_iff_not] at h1 h2
   refine QA hnd (hperm.mem_iff.1 ha) ((List.mergeSort_perm _ _).mem_iff.1 hb) ?_
   simp only[Prod.mk.injEq]
   omega
  ·rw[List.pairwise_iff_getElem]
   intro i j hi hj hij
   have hi':i<d'.size:=by simpa using hi
   have hj':j<d'.size:=by simpa using hj
   have:=hs i j (Nat.zero_le _) hij (by omega)
   rw[getElem!_pos d' j hj',getElem!_pos d' i hi'] at this
   simpa using this
  ·refine List.pairwise_mergeSort ?_ ?_ _
   ·intro a b c h1 h2
    simp only[Bool.not_eq_true',ltC,decide_eq_false_iff_not] at h1 h2⊢
    omega
   ·intro a b
    simp only[ltC,Bool.or_eq_true,Bool.not_eq_true',decide_eq_false_iff_not]
    omega
 have hsd:d'.size=l.length:=by rw[←TP l,←hd];simp
 refine⟨rfl,⟨fun x hx hb=> ?_, ?_,rfl,rfl⟩,fun j v hj=> ?_⟩
 ·have hx2:x<(putRowK Gy 8 (Sort.ahead w n) blk off d').heap.size:=by rw[size_putRowK];exact hx
  show((putRowK Gy 8 (Sort.ahead w n) blk off d').heap++os)[x]? =_
  rw[Array.getElem?_append_left hx2]
  show(Array.modify w.heap blk _)[x]? =_
  rw[Array.getElem?_modify,if_neg (Ne.symm hb)]
 ·exact size_sortWorldK_c Gy 8 w blk off n d' os
 ·have hK:=holdsK_sortWorldK Gy 8 w blk off n l.toArray d' os hblk hH (by simpa using hsd)
  have hlt:j<(srt l).length*8:=by
   have:=(List.getElem?_eq_some_iff.1 hj).1
   rw[List.length_flatMap] at this
   simpa [L3,List.map_const',List.sum_replicate_nat] using this
  have:=(hK j (by rw[size_flatK,hsd,←TP l];exact hlt)).1
  rw[this,←hj,WZ _ j hlt,←hd]
  rfl
theorem jU {σ:Cf}:∀{l:List Ct} {vals:List Value},RepL σ (l.map eCt).flatten vals↔vals=l.flatMap Gy:=by
 intro l
 induction l with
 |nil=>intro vals;simp[RepL]
 |cons c l ih=>
  intro vals
  simp only[List.map_cons,List.flatten_cons,eCt,List.cons_append,List.nil_append,RepL,Rep,List.flatMap_cons,Gy]
  constructor
  ·rintro⟨_,_,rfl,rfl,_,_,rfl,rfl,_,_,rfl,rfl,_,_,rfl,rfl,_,_,rfl,rfl,_,_,rfl,rfl,_,_,rfl,rfl,_,_,rfl,rfl,h⟩
   rw[ih.1 h]
  ·rintro rfl
   exact⟨_,_,rfl,rfl,_,_,rfl,rfl,_,_,rfl,rfl,_,_,rfl,rfl,_,_,rfl,rfl,_,_,rfl,rfl,_,_,rfl,rfl,_,_,rfl,rfl,ih.2 rfl⟩
theorem jV:okF Tryz.prog 125:=⟨_,Tryz.func125,by kernel_rfl,by kernel_rfl⟩
theorem jW {l:List Ct} (hsz:l.length<4611686018427387904) (hnd:(l.map fun c=>(c.1,c.2.1)).Nodup):
  QP Tryz.prog 125 8 (l.map eCt) [.clo (.func 126) [] []] ((srt l).map eCt):=by
 intro σ vs vals base b o cap gl hlt hvs hvals h1 hlen hcap hk
 obtain rfl:=jU.1 hvals
 simp only[RepL,Rep] at hvs
 obtain⟨_,_,rfl,⟨xs,ys,rfl,rfl,rfl⟩,rfl⟩:=hvs
 rw[List.length_map] at hcap⊢
 cases l with
 |nil=>
  refine(AnyF.slices_SortFunc_none sortC base cap _ σ.w).mono ?_
  rintro e w' ⟨rfl,rfl⟩
  exact⟨[],rfl,⟨fun _ _ _=>rfl,Nat.le_refl _,SameO.refl _⟩,.inl rfl⟩
 |cons c l=>
  rcases hk with⟨rfl,h2,h3,h4,cs,T,h5,h6⟩|⟨rfl,_⟩
  ·refine(qU (cap:=cap) h3 ⟨cs,T,h5⟩ hsz hnd).mono ?_
   rintro e w' ⟨rfl,hk,hl⟩
   refine⟨_,rfl,hk,.inr ⟨hl,jU.2 rfl,fun x hx=> ?_⟩⟩
   obtain⟨c,_,hx⟩:=List.mem_flatMap.1 hx
   simp[Gy] at hx
   rcases hx with rfl|rfl|rfl|rfl|rfl|rfl|rfl|rfl<;>rfl
  ·simp at hcap
abbrev CtN:=Int×Int×((Int×Int)×(Int×Int))×Int×Int
def SA (c:CtN):Ct:=(c.1,c.2.1,c.2.2.1.1.1,c.2.2.1.1.2,c.2.2.1.2.1,c.2.2.1.2.2,c.2.2.2.1,c.2.2.2.2)
def N4 (l:List CtN):List CtN:=l.mergeSort fun x y=> !decide (y.1<x.1∨y.1=x.1∧y.2.1<x.2.1)
theorem cW (l:List CtN):srt (l.map SA)=(N4 l).map SA:=by
 unfold srt N4
 rw[List.map_mergeSort (s:=fun x y=> !ltC y x)]
 intro a _ b _
 rfl
theorem YR (l:List CtN):l.map BG=(l.map SA).map eCt:=by rw[List.map_map];rfl
theorem jX {l:List CtN} (hsz:l.length<4611686018427387904) (hnd:(l.map fun c=>(c.1,c.2.1)).Nodup):
  QP Tryz.prog 125 8 (l.map BG) [.clo (.func 126) [] []] ((N4 l).map BG):=by
 rw[YR,YR,←cW]
 exact jW (by rw[List.length_map];exact hsz) (by rw[List.map_map];exact hnd)
theorem cX {l:List CtN}:∀r∈l.map BG,r.length=8∧AB r=true:=by
 intro r hr
 obtain⟨c,_,rfl⟩:=List.mem_map.1 hr
 exact⟨rfl,rfl⟩
theorem nA:okF Tryz.prog 125:=jV
end Go.Proofs.YtciphecegkfaiaaGreat.Am
namespace Go.Proofs.YtciphecegkfaiaaGreat.Am
open Go
attribute [local irreducible] awp B5 BR Bx B3 Bw Bn BS B1 itK
set_option maxRecDepth 100000
set_option maxHeartbeats 8000000
set_option linter.unusedSimpArgs false
set_option linter.unusedVariables false
attribute [local go_sem] Pg
def D0 (N:Nat) (f1:List (Int×Int×Int×(List (Int×Int))×Int×Int)):Nat→Int→(List (Int×Int×((Int×Int)×(Int×Int))×Int×Int))→Option ((List (Int×Int×((Int×Int)×(Int×Int))×Int×Int)))
 |0,_,_=>none
 |n+1,x41,l42=>
  bif decide (x41<(f1.length:Int)) then(
   (nth f1 x41).bind fun(x43,x44,x45,x46,x47,x48)=>
   (Dl N x43 x44 x45 x46 x47 x48).bind fun((bq,bp,((bo,bm),(bj,bi)),bh,bg),db)=>
   bif db then(
    gd ((l42.length+1)*64≤140737488355328)<|
    gd (I64 (x41+1))<|
    D0 N f1 n (x41+1) (l42++[(bq,bp,((bo,bm),(bj,bi)),bh,bg)]))
   else(
    gd (I64 (x41+1))<|
    D0 N f1 n (x41+1) l42))
  else(
   some l42)
def Dj (N:Nat):List ((Int×Int×Int×(List (Int×Int))×Int×Int)×(Int×Int×Int×(List (Int×Int))×Int×Int))→(List (Int×Int×((Int×Int)×(Int×Int))×Int×Int))→Option ((List (Int×Int×((Int×Int)×(Int×Int))×Int×Int)))
 |[],l90=>
  some l90
 |((cz,cy,cu,cr,cq,co),(ce,b9,bz,av,au,aq))::ys,l90=>
  (Eg N cz cy cu cr cq co ce b9 bz av au aq).bind fun((an,r104,((am,ak),(aj,ai)),ah,af),aw)=>
  bif aw then(
   gd ((l90.length+1)*64≤140737488355328)<|
   Dj N ys (l90++[(an,r104,((am,ak),(aj,ai)),ah,af)]))
  else(
   Dj N ys l90)
def Dr (N:Nat) (f1:List (Int×Int×Int×(List (Int×Int))×Int×Int)):Option (List (Int×Int×((Int×Int)×(Int×Int))×Int×Int)):=
 (D0 N f1 N 0 []).bind fun br=>
 gd (f1.length≤1000000000)<|
 (Dj N (DC f1) br).bind fun l116=>
 gd ((l116.length:Int)<4611686018427387904)<|
 gd ((l116.map fun c=>(c.1,c.2.1)).Nodup)<|
 some (N4 l116)
@[go_sem] def s86 (N:Nat):Spec:=p0<|pG<|pD Ak fun f1=>pE<|pE<|pF (Dr N f1) [] fun r=>BD r
theorem U7 (N:Nat):FOK Tryz.prog 86 (s86 N):=by
 refine Al x86.ok<|AW<|CQ fun f1=>Ah<|Ah<|An fun r h=>wx x86 (Aa (QT N)<|Aa Qu<|Aa (QS N)<|Aj) fun _ hS F=> ?_
 dsimp only[x86,mkX,Ak]
 unfold Dr at h
 refine go hS F ?_
 refine DR 1000001 (100,2) 0 8 [.i 0,.i 0,.i 0,.i 0,.i 0,.i 0,.i 0,.i 0] (by omega) (ev F) ?_
 obtain⟨dg,dt,h⟩:=un h
 refine go hS F ?_
 refine Au dg (fun z:(List (Int×Int×((Int×Int)×(Int×Int))×Int×Int))×Nat=>⟨[(1,.box (0,1) 0),(3,.box (100,2) 0)],[(.c (100,2) 0,.own (1000001,4) z.1.length),(.a (1000001,4),BH z.1),(.c (0,1) 0,Af f1)],z.2⟩) (fun z=>(z.1:(List (Int×Int×((Int×Int)×(Int×Int))×Int×Int)))) (.x 0) ?_ ?_
 ·refine Aq (fun n (y:Int×(List (Int×Int×((Int×Int)×(Int×Int))×Int×Int))×Nat)=>D0 N f1 n y.1 y.2.1) (fun y=>⟨[(1,.box (0,1) 0),(3,.box (100,2) 0),(13,Af f1),(14,.i (f1.length:Int)),(15,.i y.1)],[(.c (100,2) 0,.own (1000001,4) y.2.1.length),(.a (1000001,4),BH y.2.1),(.c (0,1) 0,Af f1)],y.2.2⟩) (0,[],4) dt (leF F) ?_
  rintro n ⟨x41,l42,bw⟩ aa
  simp only[D0] at aa
  refine gcb hS F aa (fun _ aa=> ?_) (fun _ aa=> ?_)
  ·obtain⟨⟨x43,x44,x45,x46,x47,x48⟩,bv,aa⟩:=un aa
   obtain⟨dp,F⟩:=rqG Ai bv F
   obtain⟨⟨⟨bq,bp,⟨⟨bo,bm⟩,⟨bj,bi⟩⟩,bh,bg⟩,db⟩,bu,aa⟩:=un aa
   replace F:=fc bu F
   refine gcb hS F aa (fun _ aa=> ?_) (fun _ aa=> ?_)
   ·obtain⟨d7,d6,aa⟩:=un aa
    exact gbk hS F (n,x41+1,l42++[(bq,bp,((bo,bm),(bj,bi)),bh,bg)],bw+1+1+1+1+1+1) aa
   ·obtain⟨d5,aa⟩:=un aa
    exact gbk hS F (n,x41+1,l42,bw+1+1+1+1+1) aa
  ·exact gck hS F (l42,bw+1) aa
 ·rintro⟨br,du⟩ rfl
  obtain⟨dz,h⟩:=un h
  obtain⟨ay,dq,h⟩:=un h
  refine go hS F ?_
  refine Au ay (fun z:(List (Int×Int×((Int×Int)×(Int×Int))×Int×Int))×Nat=>⟨[(3,.box (100,2) 0)],[(.c (100,2) 0,.own (1000001,4) z.1.length),(.a (1000001,4),BH z.1)],z.2⟩) (fun z=>(z.1:(List (Int×Int×((Int×Int)×(Int×Int))×Int×Int)))) .n ?_ ?_
  ·refine Kd (fun y:Nat×(List (Int×Int×((Int×Int)×(Int×Int))×Int×Int))×Nat=>([(.c (100,2) 0,.own (1000001,4) y.2.1.length),(.a (1000001,4),BH y.2.1)],y.2.2)) (fun y=>Dj N ((DC f1).drop y.1) y.2.1=some ay∧y.1≤(DC f1).length) (fun y=>y.1) (0,br,du+1) (ev F) (Sr f1 false (by assumption)) x124.ok ⟨rfl,rfl⟩ (by simp[x86,mkX]) (by intro a ha;obtain⟨y,_,rfl⟩:=List.mem_map.1 ha;exact⟨rfl,rfl⟩) ⟨dq,Nat.zero_le _⟩ rfl ?_ ?_ ?_
   ·exact leF F
   ·rintro l ⟨n,l90,be⟩ ⟨ae,hle⟩ args de
    obtain⟨⟨⟨cz,cy,cu,cr,cq,co⟩,⟨ce,b9,bz,av,au,aq⟩⟩,az,rfl,hlt⟩:=Iv de
    simp only[az,Dj] at ae
    clear de az
    simp only[prA,FF]
    obtain⟨⟨⟨an,r104,⟨⟨am,ak⟩,⟨aj,ai⟩⟩,ah,af⟩,aw⟩,bb,ae⟩:=un ae
    replace F:=fc bb F
    refine gcb hS F ae (fun _ ae=> ?_) (fun _ ae=> ?_)
    ·obtain⟨dm,ae⟩:=un ae
     exact grg hS F (n+1,l90++[(an,r104,((am,ak),(aj,ai)),ah,af)],be+1+1+1+1+1) ae
    ·exact grg hS F (n+1,l90,be+1+1+1+1) ae
   ·rintro⟨n,l90,be⟩ ⟨ae,hle⟩ hk
    rw[show n=_ from hk,Io] at ae
    simp only[Dj] at ae
    exact gck hS F (l90,be) ae
  ·rintro⟨l116,dw⟩ rfl
   obtain⟨dl,dh,h⟩:=un h
   refine go hS F ?_
   refine ZY (bn:=(100,2)) (j:=0) (Ctx.fn_ok hS) 1 nA rfl (ev F) ?_ (ev F) (ev F) (by simp) (ev F) (ev F) (ev F) (by simp only[go_sem,seval,F]<;>simp) (ev F) cX (by simp[N4]) (jX (l:=l116) (by omega) (by assumption)) (ev F) ?_ ?_
   ·exact goc hS F
   ·exact goc hS F
   exact Ad hS F h
end Go.Proofs.YtciphecegkfaiaaGreat.Am
namespace Go.Proofs.YtciphecegkfaiaaGreat.Am
open Go
attribute [local irreducible] awp B5 BR Bx B3 Bw Bn BS B1 itK
set_option maxRecDepth 100000
set_option maxHeartbeats 8000000
set_option linter.unusedSimpArgs false
set_option linter.unusedVariables false
def Bi (N:Nat) (aa:List (Int×Int×Int×(List (Int×Int))×Int×Int)):Option (List (Int×Int×((Int×Int)×(Int×Int))×Int×Int)):=
 (AT N aa).bind fun af=>
 bif !af then(
  some [])
 else(
  (Dr N aa).bind fun ae=>
  some ae)
@[go_sem] def s30 (N:Nat):Spec:=p0<|pG<|pD Ak fun aa=>pE<|pE<|pF (Bi N aa) [] fun r=>BD r
theorem Q7 (N:Nat):FOK Tryz.prog 30 (s30 N):=by
 refine Al x30.ok<|AW<|CQ fun aa=>Ah<|Ah<|An fun r h=>wx x30 (Aa (G5 N)<|Aa (U7 N)<|Aj) fun _ hS F=> ?_
 dsimp only[x30,mkX,Ak]
 unfold Bi at h
 obtain⟨af,ai,h⟩:=un h
 replace F:=fc ai F
 refine gcb hS F h (fun _ h=> ?_) (fun _ h=> ?_)
 ·exact Ad hS F h
 ·obtain⟨ae,ah,h⟩:=un h
  exact Ad hS (fc ah F) h
end Go.Proofs.YtciphecegkfaiaaGreat.Am
namespace Go.Proofs.YtciphecegkfaiaaGreat.Am
open Go Go.RowKit Go.Lib Go.Sort
set_option linter.unusedVariables false
set_option linter.unusedSimpArgs false
set_option maxHeartbeats 1000000
set_option maxRecDepth 100000
theorem nB (x0 x1 y0 y1:Int) (b c:Nat) (w:World) (h0:w.cell? ⟨b,0,none⟩=some (.int .i64 x0)) (h1:w.cell? ⟨b,1,none⟩=some (.int .i64 x1)) (g0:w.cell? ⟨c,0,none⟩=some (.int .i64 y0)) (g1:w.cell? ⟨c,1,none⟩=some (.int .i64 y1)):
  Calls Tryz.prog 90 #[.slice (some ⟨b,0,none⟩) 2 2,.slice (some ⟨c,0,none⟩) 2 2] w fun e w'=>e= .returned (.int .i64 (cOr (cI x0 y0) (cI x1 y1)))∧w'=w:=by
 have k0:=fun w=>U6 x0 y0 w
 have k1:=fun w=>U6 x1 y1 w
 generalize cI x0 y0=p at k0⊢
 generalize cI x1 y1=q at k1⊢
 by_cases hp:p=0
 ·subst hp
  by_cases hq:q=0
  ·subst hq
   go_enter Tryz.func90,Tryz.ntmps90
   go_wp2
   refine wp_loop_rounds 3 ?_
   rw[rounds_succ]
   go_wp2_with (go_at_call 87;refine(k0 _).mono ?_;rintro e w' ⟨rfl,rfl⟩)
   rw[rounds_succ]
   go_wp2_with (go_at_call 87;refine(k1 _).mono ?_;rintro e w' ⟨rfl,rfl⟩)
   rw[rounds_succ]
   go_wp2
   all_goals (go_ret;exact⟨by simp[cOr],rfl⟩)
  ·have hq2:(q==0)=false:=by simpa using hq
   go_enter Tryz.func90,Tryz.ntmps90
   go_wp2
   refine wp_loop_rounds 3 ?_
   rw[rounds_succ]
   go_wp2_with (go_at_call 87;refine(k0 _).mono ?_;rintro e w' ⟨rfl,rfl⟩)
   rw[rounds_succ]
   go_wp2_with (go_at_call 87;refine(k1 _).mono ?_;rintro e w' ⟨rfl,rfl⟩)
   all_goals (go_ret;exact⟨by simp[cOr],rfl⟩)
 ·have hp2:(p==0)=false:=by simpa using hp
  go_enter Tryz.func90,Tryz.ntmps90
  go_wp2
  refine wp_loop_rounds 3 ?_
  rw[rounds_succ]
  go_wp2_with (go_at_call 87;refine(k0 _).mono ?_;rintro e w' ⟨rfl,rfl⟩)
  all_goals (go_ret;exact⟨by simp[cOr,hp],rfl⟩)
theorem nC (a0 a1 b0 b1:Int) (w:World):
  Calls Tryz.prog 89 #[.agg #[.int .i64 a0,.int .i64 a1],.agg #[.int .i64 b0,.int .i64 b1]] w fun e w'=>e= .returned (.int .i64 (cOr (cI a0 b0) (cI a1 b1)))∧∃q os',w'=grow (w.drewN q) os':=by
 obtain⟨W2,hW2⟩:∃W2:World,W2=((w.alloc (.cells #[.int .i64 a0,.int .i64 a1] 60)).alloc (.cells #[.int .i64 b0,.int .i64 b1] 60)).drew:=⟨_,rfl⟩
 have c0:W2.cell? ⟨w.heap.size,0,none⟩=some (.int .i64 a0):=by rw[hW2];go_simp
 have c1:W2.cell? ⟨w.heap.size,1,none⟩=some (.int .i64 a1):=by rw[hW2];go_simp
 have d0:W2.cell? ⟨w.heap.size+1,0,none⟩=some (.int .i64 b0):=by rw[hW2];go_simp
 have d1:W2.cell? ⟨w.heap.size+1,1,none⟩=some (.int .i64 b1):=by rw[hW2];go_simp
 have hend:∃q os',W2=grow (w.drewN q) os':=⟨1,_,by rw[hW2];show(((w.drewN 1).alloc _).alloc _)=_;rw[alloc_eq_grow,alloc_eq_grow,grow_grow]⟩
 go_enter Tryz.func89,Tryz.ntmps89
 go_wp2
 refine wst 3 (by kernel_rfl) (by kernel_rfl) hW2 ?_
 simp only[List.take_succ_cons,List.take_zero,List.drop_succ_cons,List.drop_zero]
 clear hW2
 repeat still_step
 still_call (nB _ _ _ _ _ _ _ c0 c1 d0 d1)
 refine wpStill_nil ?_
 clear c0 c1 d0 d1
 go_wp2
 go_ret
 exact⟨rfl,hend⟩
end Go.Proofs.YtciphecegkfaiaaGreat.Am
namespace Go.Proofs.YtciphecegkfaiaaGreat.Am
open Go Go.Shelf Go.RowKit Go.Lib Go.Sort
set_option linter.unusedVariables false
set_option linter.unusedSimpArgs false
set_option maxHeartbeats 1000000
set_option maxRecDepth 100000
shelf_lay_g SlLaysF0.n6 Slsf 6 at Tryz 88 as sortP
def FH (c:Int×Int):List Value:=[.int .i64 c.1,.int .i64 c.2]
def cfP (x y:(Int×Int)):Int:=cOr (cI x.1 y.1) (cI x.2 y.2)
def ltP (x y:(Int×Int)):Bool:=decide (x.1<y.1∨x.1=y.1∧x.2<y.2)
theorem W0:ltOf cfP=ltP:=by
 funext x y
 simp only[ltOf,cfP,cOr,cI,ltP,decide_eq_decide]
 by_cases h1:x.1<y.1
 ·simp[h1]
 ·by_cases h2:y.1<x.1
  ·simp[h1,h2];omega
  ·have h3:x.1=y.1:=by omega
   by_cases h4:x.2<y.2
   ·simp[h3,h4]
   ·by_cases h5:y.2<x.2<;>simp[h3,h4,h5]
theorem qW:SWO (ltOf cfP):=by
 rw[W0]
 refine⟨fun x=> ?_,fun x y z h1 h2=> ?_,fun x y z h1 h2=> ?_⟩
 ·simp[ltP]
 ·simp only[ltP,decide_eq_true_eq] at h1 h2⊢;omega
 ·simp only[ltP,decide_eq_false_iff_not] at h1 h2⊢;omega
theorem qX (blk off size:Nat) (w:World):CmpLays Tryz.prog 89 #[] FH 2 cfP blk off size w:=
 fun _ _ _ _ x y=>nC _ _ _ _ _
theorem qY (w:World):(isAgg 60).run Tryz.prog w= .ok true w:=by
 have h:(Tryz.prog.underlying 60).map BU=some true:=by kernel_rfl
 cases hd:Tryz.prog.underlying 60 with
 |none=>rw[hd] at h;cases h
 |some d=>rw[hd] at h;rw[Is hd,yJ h]
theorem qZ (w:World):(Go.sizeOf 60).run Tryz.prog w= .ok 2 w:=by
 have h:(Tryz.prog.info? 60).map (fun i=>i.size)=some 2:=by kernel_rfl
 obtain⟨i,hi,h2⟩:=Option.map_eq_some_iff.1 h
 rw[Dw hi,h2]
theorem L4 (c:(Int×Int)):(FH c).length=2:=rfl
theorem Zu:∀(l:List (Int×Int)) (t:Nat),(l.flatMap FH)[t]? =(l[t/2]?).bind fun c=>(FH c)[t%2]?
 |[],t=>by simp
 |c::l,t=>by
  rw[List.flatMap_cons,List.getElem?_append,L4]
  split
  ·rename_i h
   rw[Nat.div_eq_of_lt h,Nat.mod_eq_of_lt h];rfl
  ·rename_i h
   rw[Zu l (t-2),show t/2=(t-2)/2+1 by omega,show t%2=(t-2)%2 by omega]
   rfl
theorem W3 (l:List (Int×Int)) (t:Nat) (h:t<l.length*2):(l.flatMap FH)[t]? =some ((flatK FH 2 l.toArray)[t]!):=by
 have h1:t/2<l.length:=by omega
 rw[get_flatK FH 2 l.toArray t (by simpa using h),Zu,List.getElem?_eq_getElem h1]
 have h2:t%2<(FH l[t/2]).length:=by rw[L4];omega
 rw[Option.bind_some,List.getElem?_eq_getElem h2,getElem!_pos l.toArray (t/2) (by simpa using h1),List.getElem_toArray,getElem!_pos (FH l[t/2]) (t%2) h2]
def L5 (l:List (Int×Int)):List (Int×Int):=l.mergeSort fun x y=> !ltP y x
theorem N5 (l:List (Int×Int)):(L5 l).length=l.length:=(List.mergeSort_perm _ _).length_eq
theorem nD {blk off cap:Nat} {l:List (Int×Int)} {w:World} (hl:Lies w blk off (l.flatMap FH)) (hf:∃cs T,w.heap[blk]? =some (.cells cs T (0,0))) (hsz:l.length<4611686018427387904):
  Calls Tryz.prog 88 #[.slice (some ⟨blk,off,none⟩) l.length cap,.func (.func 89) #[] #[]] w fun e w'=>e= .returned (.tuple #[])∧KeptB blk w w'∧Lies w' blk off ((L5 l).flatMap FH)∧∀cs T,w.heap[blk]? =some (.cells cs T (0,0))→∃cs',w'.heap[blk]? =some (.cells cs' T (0,0))∧cs'.size=cs.size:=by
 have eg:∀args w,(callFunc 89 args).run Tryz.prog w= .ok (.enter 89 args) w:=enters_of Tryz.func89 (by kernel_rfl) rfl
 have hblk:blk<w.heap.size:=by obtain⟨cs,T,h⟩:=hf;exact(Array.getElem?_eq_some_iff.1 h).1
 have hH:HoldsK FH 2 w blk off l.toArray:=fun j hj=>by
  rw[size_flatK,List.size_toArray] at hj
  refine⟨hl j _ (W3 l j hj), ?_⟩
  obtain⟨cs,T,h⟩:=hf
  simp[World.frozen?,h]
 have hS:=AnyQ.slices_SortFunc sortP 2 qY qZ FH L4 (fun x v hv=>by simp[FH] at hv;rcases hv with rfl|rfl<;>rfl) cfP qW 89 #[] blk off cap l.toArray w eg (qX blk off l.toArray.size w) hH hblk (by simpa using hsz)
 refine hS.mono ?_
 rintro e w' ⟨rfl,d',n,os,hp,hs,rfl⟩
 have hd:d'.toList=L5 l:=by
  obtain⟨hsz',_,hperm⟩:=hp
  have e1:d'.extract 0 l.toArray.size=d':=by rw[←hsz'];exact Array.extract_size
  rw[e1,Array.extract_size] at hperm
  rw[W0] at hs
  refine List.Perm.eq_of_pairwise (le:=fun x y=>(!ltP y x)=true) ?_ ?_ ?_ (hperm.trans (List.mergeSort_perm _ _).symm)
  ·intro a b ha hb h1 h2
   simp only[Bool.not_eq_true',ltP,decide_eq_false_iff_not] at h1 h2
   exact Prod.ext (by omega) (by omega)
  ·rw[List.pairwise_iff_getElem]
   intro i j hi hj hij
   have hi':i<d'.size:=by simpa using hi
   have hj':j<d'.size:=by simpa using hj
   have:=hs i j (Nat.zero_le _) hij (by omega)
   rw[getElem!_pos d' j hj',getElem!_pos d' i hi'] at this
   simpa using this
  ·refine List.pairwise_mergeSort ?_ ?_ _
   ·intro a b c h1 h2
    simp only[Bool.not_eq_true',ltP,decide_eq_false_iff_not] at h1 h2⊢
    omega
   ·intro a b
    simp only[ltP,Bool.or_eq_true,Bool.not_eq_true',decide_eq_false_iff_not]
    omega
 have hsd:d'.size=l.length:=by rw[←N5 l,←hd];simp
 refine⟨rfl,⟨fun x hx hb=> ?_, ?_,rfl,rfl⟩,fun j v hj=> ?_,fun cs T hcs=> ?_⟩
 ·have hx2:x<(putRowK FH 2 (Sort.ahead w n) blk off d').heap.size:=by rw[size_putRowK];exact hx
  show((putRowK FH 2 (Sort.ahead w n) blk off d').heap++os)[x]? =_
  rw[Array.getElem?_append_left hx2]
  show(Array.modify w.heap blk _)[x]? =_
  rw[Array.getElem?_modify,if_neg (Ne.symm hb)]
 ·exact size_sortWorldK_c FH 2 w blk off n d' os
 ·have hK:=holdsK_sortWorldK FH 2 w blk off n l.toArray d' os hblk hH (by simpa using hsd)
  have hlt:j<(L5 l).length*2:=by
   have:=(List.getElem?_eq_some_iff.1 hj).1
   rw[List.length_flatMap] at this
   simpa [L4,List.map_const',List.sum_replicate_nat] using this
  have:=(hK j (by rw[size_flatK,hsd,←N5 l];exact hlt)).1
  rw[this,←hj,W3 _ j hlt,←hd]
  rfl
 ·have hx2:blk<(putRowK FH 2 (Sort.ahead w n) blk off d').heap.size:=by rw[size_putRowK];exact hblk
  refine⟨putCells id off (flatK FH 2 d') cs, ?_,by simp[putCells]⟩
  show((putRowK FH 2 (Sort.ahead w n) blk off d').heap++os)[blk]? =_
  rw[Array.getElem?_append_left hx2]
  show(Array.modify w.heap blk _)[blk]? =_
  rw[Array.getElem?_modify,if_pos rfl,hcs]
  rfl
attribute [go_sem] N5
theorem jY {σ:Cf}:∀{l:List (Int×Int)} {vals:List Value},RepL σ (l.map Br).flatten vals↔vals=l.flatMap FH:=by
 intro l
 induction l with
 |nil=>intro vals;simp[RepL]
 |cons c l ih=>
  intro vals
  simp only[List.map_cons,List.flatten_cons,Br,List.cons_append,List.nil_append,RepL,Rep,List.flatMap_cons,FH]
  constructor
  ·rintro⟨_,_,rfl,rfl,_,_,rfl,rfl,h⟩
   rw[ih.1 h]
  ·rintro rfl
   exact⟨_,_,rfl,rfl,_,_,rfl,rfl,ih.2 rfl⟩
theorem rA:okF Tryz.prog 88:=⟨_,Tryz.func88,by kernel_rfl,by kernel_rfl⟩
theorem jZ {l:List (Int×Int)} (hsz:l.length<4611686018427387904):
  Ud Tryz.prog 88 2 (l.map Br) [.clo (.func 89) [] []] ((L5 l).map Br):=by
 intro σ vs vals base b o cap gl hlt hvs hvals h1 hlen hcap hk
 obtain rfl:=jY.1 hvals
 simp only[RepL,Rep] at hvs
 obtain⟨_,_,rfl,⟨xs,ys,rfl,rfl,rfl⟩,rfl⟩:=hvs
 rw[List.length_map] at hcap⊢
 cases l with
 |nil=>
  refine(AnyF.slices_SortFunc_none sortP base cap _ σ.w).mono ?_
  rintro e w' ⟨rfl,rfl⟩
  exact⟨[],rfl,⟨fun _ _ _=>rfl,Nat.le_refl _,SameO.refl _⟩,fun cs T h=>⟨cs,h,rfl⟩,.inl rfl⟩
 |cons c l=>
  rcases hk with⟨rfl,h2,h3,h4,cs,T,h5,h6⟩|⟨rfl,_⟩
  ·refine(nD (cap:=cap) h3 ⟨cs,T,h5⟩ hsz).mono ?_
   rintro e w' ⟨rfl,hk,hl,hs⟩
   refine⟨_,rfl,hk,hs,.inr ⟨hl,jY.2 rfl,fun x hx=> ?_⟩⟩
   obtain⟨c,_,hx⟩:=List.mem_flatMap.1 hx
   simp[FH] at hx
   rcases hx with rfl|rfl<;>rfl
  ·simp at hcap
theorem cY {l:List (Int×Int)}:∀r∈l.map Br,r.length=2∧AB r=true:=by
 intro r hr
 obtain⟨c,_,rfl⟩:=List.mem_map.1 hr
 exact⟨rfl,rfl⟩
end Go.Proofs.YtciphecegkfaiaaGreat.Am
namespace Go.Proofs.YtciphecegkfaiaaGreat.Am
open Go
attribute [local irreducible] awp B5 BR Bx B3 Bw Bn BS B1 itK
set_option maxRecDepth 100000
set_option maxHeartbeats 8000000
set_option linter.unusedSimpArgs false
set_option linter.unusedVariables false
def EP (N:Nat) (r4:List (Int×Int×((Int×Int)×(Int×Int))×Int×Int)):Nat→Int→(List (Int×Int))→Option ((List (Int×Int)))
 |0,_,_=>none
 |n+1,x32,l33=>
  bif decide (x32<(r4.length:Int)) then(
   (nth r4 x32).bind fun(x34,x35,((x36,x37),(x38,x39)),x40,x41)=>
   (CU N x36 x38).bind fun af=>
   bif decide (af=(-1)) then(
    gd ((l33.length+1)*16≤140737488355328)<|
    gd (I64 (x32+1))<|
    EP N r4 n (x32+1) (l33++[(x34,x35)]))
   else(
    bif decide (af=1) then(
     gd ((l33.length+1)*16≤140737488355328)<|
     gd (I64 (x32+1))<|
     EP N r4 n (x32+1) (l33++[(x35,x34)]))
    else(
     gd (I64 (x32+1))<|
     EP N r4 n (x32+1) l33)))
  else(
   some l33)
def Co (N:Nat) (f1:List (Int×Int×Int×(List (Int×Int))×Int×Int)):Option (List (Int×Int)):=
 (AT N f1).bind fun r2=>
 bif !r2 then(
  some [])
 else(
  (Dr N f1).bind fun r4=>
  (EP N r4 N 0 []).bind fun l49=>
  gd ((l49.length:Int)<4611686018427387904)<|
  some (L5 l49))
@[go_sem] def s29 (N:Nat):Spec:=p0<|pG<|pD Ak fun f1=>pE<|pE<|pF (Co N f1) [] fun r=>A1 r
theorem Q8 (N:Nat):FOK Tryz.prog 29 (s29 N):=by
 refine Al x29.ok<|AW<|CQ fun f1=>Ah<|Ah<|An fun r h=>wx x29 (Aa (G5 N)<|Aa (U7 N)<|Aa (QR N)<|Aj) fun _ hS F=> ?_
 dsimp only[x29,mkX,Ak]
 unfold Co at h
 obtain⟨r2,am,h⟩:=un h
 replace F:=fc am F
 refine gcb hS F h (fun _ h=> ?_) (fun _ h=> ?_)
 ·exact Ad hS F h
 ·obtain⟨r4,ak,h⟩:=un h
  replace F:=fc ak F
  refine go hS F ?_
  refine Cb 1000001 3 2 [.i 0,.i 0] (by show(3:Nat)<49;omega) (by omega) (ev F) ?_
  obtain⟨aj,aq,h⟩:=un h
  refine go hS F ?_
  refine Au aj (fun z:(List (Int×Int))×Nat=>⟨[(3,.own (1000001,5) z.1.length)],[(.a (1000001,5),Gw z.1)],z.2⟩) (fun z=>(z.1:(List (Int×Int)))) (.x 0) ?_ ?_
  ·refine Aq (fun n (y:Int×(List (Int×Int))×Nat)=>EP N r4 n y.1 y.2.1) (fun y=>⟨[(3,.own (1000001,5) y.2.1.length),(10,BD r4),(11,.i (r4.length:Int)),(12,.i y.1)],[(.a (1000001,5),Gw y.2.1)],y.2.2⟩) (0,[],5) aq (leF F) ?_
   rintro n ⟨x32,l33,ae⟩ aa
   simp only[EP] at aa
   refine gcb hS F aa (fun _ aa=> ?_) (fun _ aa=> ?_)
   ·obtain⟨⟨x34,x35,⟨⟨x36,x37⟩,⟨x38,x39⟩⟩,x40,x41⟩,ai,aa⟩:=un aa
    obtain⟨an,F⟩:=rqG BG ai F
    obtain⟨af,ah,aa⟩:=un aa
    replace F:=fc ah F
    refine gcb hS F aa (fun _ aa=> ?_) (fun _ aa=> ?_)
    ·obtain⟨bb,az,aa⟩:=un aa
     exact gbk hS F (n,x32+1,l33++[(x34,x35)],ae+1+1+1+1+1+1) aa
    ·refine gcb hS F aa (fun _ aa=> ?_) (fun _ aa=> ?_)
     ·obtain⟨ay,aw,aa⟩:=un aa
      exact gbk hS F (n,x32+1,l33++[(x35,x34)],ae+1+1+1+1+1+1+1) aa
     ·obtain⟨av,aa⟩:=un aa
      exact gbk hS F (n,x32+1,l33,ae+1+1+1+1+1+1) aa
   ·exact gck hS F (l33,ae+1) aa
  ·rintro⟨l49,be⟩ rfl
   obtain⟨au,h⟩:=un h
   refine go hS F ?_
   refine Z0 (Ctx.fn_ok hS) 1 rA rfl (ev F) ?_ (ev F) (ev F) (by simp) (ev F) (ev F) (ev F) (by simp only[go_sem,seval,F]<;>simp) cY (by simp[L5]) (jZ (l:=l49) (by omega)) (ev F) ?_ ?_
   ·exact goc hS F
   ·exact goc hS F
   exact Ad hS F h
end Go.Proofs.YtciphecegkfaiaaGreat.Am
namespace Go.Proofs.YtciphecegkfaiaaGreat.Am
open Go
attribute [local irreducible] awp B5 BR Bx B3 Bw Bn BS B1 itK
set_option maxRecDepth 100000
set_option maxHeartbeats 8000000
set_option linter.unusedSimpArgs false
set_option linter.unusedVariables false
theorem jS {α β:Type} (o:Option α) (f:α→β) (z:α) (g:β→AV):pF (o.map f) (f z) g=pF o z (fun x=>g (f x)):=by
 funext st;cases st<;>cases o<;>simp[pF]
def CA (N:Nat) (us:List Un):Option (List Ct):=(Dr N us).map (List.map SA)
theorem cV (N:Nat):Kn CA N=s86 N:=by
 have h:∀us:List Un,pF (CA N us) [] (fun r=>AV.sl 8 false (r.map eCt) zCt)=pF (Dr N us) [] fun r=>BD r:=fun us=>by
  refine(jS (Dr N us) (List.map SA) [] _).trans ?_
  congr 1
  funext r
  rw[←YR];rfl
 unfold Kn s86
 simp only[h]
theorem WV (N:Nat):FOK Tryz.prog 86 (Kn CA N):=by
 rw[cV];exact U7 N
theorem SZ (N:Nat):FOK Tryz.prog 34 (jO CA N):=jP (WV N)
theorem WW (N:Nat):FOK Tryz.prog 33 (jQ CA N):=jR (WV N)
end Go.Proofs.YtciphecegkfaiaaGreat.Am
namespace Go.Proofs.YtciphecegkfaiaaGreat.Am
open Go
attribute [local irreducible] awp B5 BR Bx B3 Bw Bn BS B1 itK
set_option maxRecDepth 100000
set_option maxHeartbeats 8000000
set_option linter.unusedSimpArgs false
set_option linter.unusedVariables false
@[go_sem] def Q5 (N:Nat):Spec:=p0<|pG<|pD Ak fun us=>pE<|pE<|pF (CE CA N us) [] fun r=>L_i r
theorem PU (N:Nat):FOK Tryz.prog 34 (Q5 N):=SZ N
@[go_sem] def Q6 (N:Nat):Spec:=p0<|pG<|pD Ak fun us=>pE<|pE<|pF (Dv CA N us) [] fun r=>JC r
theorem PV (N:Nat):FOK Tryz.prog 33 (Q6 N):=WW N
end Go.Proofs.YtciphecegkfaiaaGreat.Am
