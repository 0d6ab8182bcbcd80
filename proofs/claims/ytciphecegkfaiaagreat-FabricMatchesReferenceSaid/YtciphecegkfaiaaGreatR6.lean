import Derived.StillTailTactics
import Derived.Test.YtciphecegkfaiaaGreatR4
import Derived.Shelf.SlSortCmp.NoneTotal
set_option linter.unusedVariables false
set_option linter.unusedSimpArgs false
namespace Go.Proofs.YtciphecegkfaiaaGreat.Am
section
open Go Go.RowKit Go.Lib Go.Sort
set_option maxHeartbeats 1000000
set_option maxRecDepth 100000
def M5(x y:Int):Int:=if x=0 then y else x
theorem or2(x y:Int)(b:Nat)(w:World)(h0:w.cell? ⟨b,0,none⟩=some (.int .i64 x))(h1:w.cell? ⟨b,1,none⟩=some (.int .i64 y)):Calls Tryz.prog 127 #[.slice (some ⟨b,0,none⟩) 2 2] w λe w'=>e=.returned (.int .i64 (M5 x y))/\w'=w:=by
 have e0:(x !=0)=decide (x≠0):=by by_cases h:x=0<;>simp[h]
 by_cases hx:x=0
 ·subst hx;by_cases hy:y=0
  ·subst hy
   go_enter Tryz.func127,Tryz.ntmps127
   go_wp2
   refine wp_loop_rounds 3 ?_;rw[rounds_succ]
   go_wp2
   rw[rounds_succ]
   go_wp2
   rw[rounds_succ]
   go_wp2
   all_goals (go_ret;exact⟨by simp[M5],rfl⟩)
  ·have hy2:(y==0)=false:=by simpa using hy
   go_enter Tryz.func127,Tryz.ntmps127
   go_wp2
   refine wp_loop_rounds 3 ?_;rw[rounds_succ]
   go_wp2
   rw[rounds_succ]
   go_wp2
   all_goals (go_ret;exact⟨by simp[M5,hy],rfl⟩)
 ·have hx2:(x==0)=false:=by simpa using hx
  go_enter Tryz.func127,Tryz.ntmps127
  go_wp2
  refine wp_loop_rounds 3 ?_;rw[rounds_succ]
  go_wp2
  all_goals (go_ret;exact⟨by simp[M5,hx],rfl⟩)
theorem AdK(x:Int)(w:World):Calls Tryz.prog 128 #[.int .i64 x] w λe w'=>e=.returned (.bool false)/\w'=w:=by
 go_enter Tryz.func128,Tryz.ntmps128
 go_wp2
 go_ret
 exact⟨by simp,rfl⟩
def cI(x y:Int):Int:=if x<y then-1 else if y<x then 1 else 0
theorem Z1(x y:Int)(w:World):Calls Tryz.prog 87 #[.int .i64 x,.int .i64 y] w λe w'=>e=.returned (.int .i64 (cI x y))/\w'=w:=by
 go_enter Tryz.func87,Tryz.ntmps87
 go_wp2_with (go_at_call 128;refine(AdK _ _).mono ?_;rintro e w' ⟨rfl,rfl⟩)
 all_goals (go_ret;refine⟨?_,rfl⟩;unfold cI;(repeat' split)<;>first|rfl|(exfalso;omega))
theorem wst{P:Program}{id:Nat}{Q:Exit->Act->World->Prop}{a:Act}{w W2:World}{l:List Oper}(n:Nat)(hm:P.follows .mixedOrders=true)(hB:Region.lexTailB .any l.toArray n=true)(hW:W2=w.drew)(h:wpStill P l.toArray W2 (λa'=>wpList P l.toArray Q (l.drop n) a' W2) (l.take n) a):(Code.region id l.toArray true).wp P Q a w:=by subst hW;exact wp_region_still_tail n hm hB h
theorem AaO(a0 a1 a2 a3 a4 a5 a6 a7 b0 b1 b2 b3 b4 b5 b6 b7:Int)(w:World):Calls Tryz.prog 126 #[.agg #[.int .i64 a0,.int .i64 a1,.int .i64 a2,.int .i64 a3,.int .i64 a4,.int .i64 a5,.int .i64 a6,.int .i64 a7],.agg #[.int .i64 b0,.int .i64 b1,.int .i64 b2,.int .i64 b3,.int .i64 b4,.int .i64 b5,.int .i64 b6,.int .i64 b7]] w λe w'=>e=.returned (.int .i64 (M5 (cI a0 b0) (cI a1 b1)))/\∃q os',w'=grow (w.drewN q) os':=by
 obtain⟨W2,hW2⟩:∃W2:World,W2=((w.alloc (.cells #[.int .i64 a0,.int .i64 a1,.int .i64 a2,.int .i64 a3,.int .i64 a4,.int .i64 a5,.int .i64 a6,.int .i64 a7] 66)).alloc (.cells #[.int .i64 b0,.int .i64 b1,.int .i64 b2,.int .i64 b3,.int .i64 b4,.int .i64 b5,.int .i64 b6,.int .i64 b7] 66)).drew:=⟨_,rfl⟩
 have c0:W2.cell? ⟨w.heap.size,0,none⟩=some (.int .i64 a0):=by rw[hW2];go_simp
 have c1:W2.cell? ⟨w.heap.size,1,none⟩=some (.int .i64 a1):=by rw[hW2];go_simp
 have d0:W2.cell? ⟨w.heap.size+1,0,none⟩=some (.int .i64 b0):=by rw[hW2];go_simp
 have d1:W2.cell? ⟨w.heap.size+1,1,none⟩=some (.int .i64 b1):=by rw[hW2];go_simp
 have hend:∀o:Obj,∃q os',W2.alloc o=grow (w.drewN q) os':=λo=>⟨1,_,by rw[hW2];show((((w.drewN 1).alloc _).alloc _).alloc _)=_;rw[alloc_eq_grow,alloc_eq_grow,alloc_eq_grow,grow_grow,grow_grow]⟩
 go_enter Tryz.func126,Tryz.ntmps126
 go_wp2
 refine wst 10 (by kernel_rfl) (by kernel_rfl) hW2 ?_;simp only[QZ,Ws,List.drop_succ_cons,uP];repeat still_step
 still_call (Z1 _ _ _)
 repeat still_step
 still_call (Z1 _ _ _)
 refine wpStill_nil ?_;clear c0 c1 d0 d1 hW2;have g0:∀(u v:Value)(T:Nat),(W2.alloc (.cells #[u,v] T)).cell? ⟨W2.heap.size,0,none⟩=some u:=λu v T=>by go_simp
 have g1:∀(u v:Value)(T:Nat),(W2.alloc (.cells #[u,v] T)).cell? ⟨W2.heap.size,1,none⟩=some v:=λu v T=>by go_simp
 go_wp2_with fail
 go_at_call 127
 refine(or2 _ _ _ _ (g0 _ _ _) (g1 _ _ _)).mono ?_;rintro e w' ⟨rfl,rfl⟩
 go_wp2
 go_ret
 exact⟨rfl,hend _⟩
end
section
open Go Go.Shelf Go.RowKit Go.Lib Go.Sort
set_option maxHeartbeats 1000000
set_option maxRecDepth 100000
shelf_lay_g SlLaysF0.n6 Slsf 6 at Tryz 125 as sortC
def HW(c:Ct):List Value:=[.int .i64 c.1,.int .i64 c.2.1,.int .i64 c.2.2.1,.int .i64 c.2.2.2.1,.int .i64 c.2.2.2.2.1,.int .i64 c.2.2.2.2.2.1,.int .i64 c.2.2.2.2.2.2.1,.int .i64 c.2.2.2.2.2.2.2]
def gR(x y:Ct):Int:=M5 (cI x.1 y.1) (cI x.2.1 y.2.1)
def PH(x y:Ct):Bool:=decide (x.1<y.1\/x.1=y.1/\x.2.1<y.2.1)
theorem gS:ltOf gR=PH:=by
 funext x y;simp only[ltOf,gR,M5,cI,PH,decide_eq_decide];by_cases h1:x.1<y.1
 ·simp[h1]
 ·by_cases h2:y.1<x.1
  ·simp[h1,h2];omega
  ·have h3:x.1=y.1:=by omega
   by_cases h4:x.2.1<y.2.1
   ·simp[h3,h4]
   ·by_cases h5:y.2.1<x.2.1<;>simp[h3,h4,h5]
theorem AdL:SWO (ltOf gR):=by
 rw[gS];refine⟨λx=>?_,λx y z h1 h2=>?_,λx y z h1 h2=>?_⟩
 ·simp[PH]
 ·simp only[PH,eR]at h1 h2⊢;omega
 ·simp only[PH,eS]at h1 h2⊢;omega
theorem AdM(blk off size:Nat)(w:World):CmpLays Tryz.prog 126 #[] HW 8 gR blk off size w:=λ_ _ _ _ x y=>AaO _ _ _ _ _ _ _ _ _ _ _ _ _ _ _ _ _
theorem AdN(w:World):(isAgg 66).run Tryz.prog w=.ok true w:=by
 have h:(Tryz.prog.underlying 66).map B8=some true:=by kernel_rfl
 cases hd:Tryz.prog.underlying 66 with
 |none=>rw[hd]at h;cases h
 |some d=>rw[hd]at h;rw[JZ hd,yJ h]
theorem AdO(w:World):(Go.sizeOf 66).run Tryz.prog w=.ok 8 w:=by
 have h:(Tryz.prog.info? 66).map (λi=>i.size)=some 8:=by kernel_rfl
 obtain⟨i,hi,h2⟩:=L9.1 h;rw[Eu hi,h2]
theorem OH(c:Ct):(HW c).length=8:=rfl
theorem qO:∀(l:List Ct)(t:Nat),(l.flatMap HW)[t]? =(l[t/8]?).bind λc=>(HW c)[t%8]?
 |[],t=>by simp
 |c::l,t=>by
  rw[List.flatMap_cons,List.getElem?_append,OH];split
  ·rename_i h;rw[Nat.div_eq_of_lt h,tT h];rfl
  ·rename_i h;rw[qO l (t-8),show t/8=(t-8)/8+1 by omega,show t%8=(t-8)%8 by omega];rfl
theorem gT(l:List Ct)(t:Nat)(h:t<l.length*8):(l.flatMap HW)[t]? =some ((flatK HW 8 l.toArray)[t]!):=by
 have h1:t/8<l.length:=by omega
 rw[get_flatK HW 8 l.toArray t (by simpa using h),qO,eV h1];have h2:t%8<(HW l[t/8]).length:=by rw[OH];omega
 rw[pA,eV h2,getElem!_pos l.toArray (t/8) (by simpa using h1),List.getElem_toArray,getElem!_pos (HW l[t/8]) (t%8) h2]
def srt(l:List Ct):List Ct:=l.mergeSort λx y=> !PH y x
theorem YI(l:List Ct):(srt l).length=l.length:=(TR _ _).length_eq
theorem Ui{E J:Type}{f:E->J}:∀{l:List E},(l.map f).Nodup->∀{a b:E},a∈l->b∈l->f a=f b->a=b
 |[],_,a,b,ha,_,_=>by cases ha
 |c::l,h,a,b,ha,hb,e=>by
  rw[eZ,To]at h;cases ha with
  |head=>
   cases hb with
   |head=>rfl
   |tail _ hb=>exact absurd (e▸L1 hb) h.1
  |tail _ ha=>
   cases hb with
   |head=>exact absurd (e▸L1 ha) h.1
   |tail _ hb=>exact Ui h.2 ha hb e
theorem AdP{blk off cap:Nat}{l:List Ct}{w:World}(hl:Lies w blk off (l.flatMap HW))(hf:∃cs T,w.heap[blk]? =some (.cells cs T (0,0)))(hsz:l.length<4611686018427387904)(hnd:(l.map λc=>(c.1,c.2.1)).Nodup):Calls Tryz.prog 125 #[.slice (some ⟨blk,off,none⟩) l.length cap,.func (.func 126) #[] #[]] w λe w'=>e=.returned (.tuple #[])/\KeptB blk w w'/\Lies w' blk off ((srt l).flatMap HW):=by
 have eg:∀args w,(callFunc 126 args).run Tryz.prog w=.ok (.enter 126 args) w:=enters_of Tryz.func126 (by kernel_rfl) rfl;have hblk:blk<w.heap.size:=by obtain⟨cs,T,h⟩:=hf;exact(eY.1 h).1
 have hH:HoldsK HW 8 w blk off l.toArray:=λj hj=>by rw[size_flatK,List.size_toArray]at hj;refine⟨hl j _ (gT l j hj),?_⟩;obtain⟨cs,T,h⟩:=hf;simp[World.frozen?,h]
 have hS:=AnyQ.slices_SortFunc sortC 8 AdN AdO HW OH (λx v hv=>by simp[HW]at hv;rcases hv with rfl|rfl|rfl|rfl|rfl|rfl|rfl|rfl<;>rfl) gR AdL 126 #[] blk off cap l.toArray w eg (AdM blk off l.toArray.size w) hH hblk (by simpa using hsz);refine hS.mono ?_;rintro e w' ⟨rfl,d',n,os,hp,hs,rfl⟩;have hd:d'.toList=srt l:=by
  obtain⟨hsz',_,hperm⟩:=hp;have e1:d'.extract 0 l.toArray.size=d':=by rw[<-hsz'];exact Array.extract_size
  rw[e1,Array.extract_size]at hperm;rw[gS]at hs;refine List.Perm.eq_of_pairwise (le:=λx y=>(!PH y x)=true) ?_ ?_ ?_ (hperm.trans (TR _ _).symm)
  ·intro a b ha hb h1 h2;simp only[zT,PH,eS]at h1 h2;refine Ui hnd (hperm.mem_iff.1 ha) ((TR _ _).mem_iff.1 hb) ?_;simp only[Wt];omega
  ·rw[L6];intro i j hi hj hij;have hi':i<d'.size:=by simpa using hi
   have hj':j<d'.size:=by simpa using hj
   have:=hs i j (t7 _) hij (by omega);rw[getElem!_pos d' j hj',getElem!_pos d' i hi']at this;simpa using this
  ·refine List.pairwise_mergeSort ?_ ?_ _
   ·intro a b c h1 h2;simp only[zT,PH,eS]at h1 h2⊢;omega
   ·intro a b;simp only[PH,tV,zT,eS];omega
 have hsd:d'.size=l.length:=by rw[<-YI l,<-hd];simp
 refine⟨rfl,⟨λx hx hb=>?_,?_,rfl,rfl⟩,λj v hj=>?_⟩
 ·have hx2:x<(putRowK HW 8 (Sort.ahead w n) blk off d').heap.size:=by rw[size_putRowK];exact hx
  show((putRowK HW 8 (Sort.ahead w n) blk off d').heap++os)[x]? =_;rw[z7 hx2];show(Array.modify w.heap blk _)[x]? =_;rw[C8,eW (Ss hb)]
 ·exact size_sortWorldK_c HW 8 w blk off n d' os
 ·have hK:=holdsK_sortWorldK HW 8 w blk off n l.toArray d' os hblk hH (by simpa using hsd);have hlt:j<(srt l).length*8:=by have:=(i5.1 hj).1;rw[List.length_flatMap]at this;simpa[OH,List.map_const',List.sum_replicate_nat]using this
  have:=(hK j (by rw[size_flatK,hsd,<-YI l];exact hlt)).1;rw[this,<-hj,gT _ j hlt,<-hd];rfl
theorem AaP{U:Cf}:∀{l:List Ct}{vals:List Value},RepL U (l.map MA).flatten vals↔vals=l.flatMap HW:=by
 intro l;induction l with
 |nil=>intro vals;simp[RepL]
 |cons c l ih=>
  intro vals;simp only[eZ,CV,MA,s8,nJ,RepL,Rep,List.flatMap_cons,HW];constructor
  ·rintro⟨_,_,rfl,rfl,_,_,rfl,rfl,_,_,rfl,rfl,_,_,rfl,rfl,_,_,rfl,rfl,_,_,rfl,rfl,_,_,rfl,rfl,_,_,rfl,rfl,h⟩;rw[ih.1 h]
  ·rintro rfl;exact⟨_,_,rfl,rfl,_,_,rfl,rfl,_,_,rfl,rfl,_,_,rfl,rfl,_,_,rfl,rfl,_,_,rfl,rfl,_,_,rfl,rfl,_,_,rfl,rfl,ih.2 rfl⟩
theorem AaQ:FU Tryz.prog 125:=⟨_,Tryz.func125,by kernel_rfl,by kernel_rfl⟩
theorem AaR{l:List Ct}(hsz:l.length<4611686018427387904)(hnd:(l.map λc=>(c.1,c.2.1)).Nodup):UA Tryz.prog 125 8 (l.map MA) [.clo (.func 126) [] []] ((srt l).map MA):=by
 intro U vs vals base b o cap gl hlt hvs hvals h1 hlen hcap hk;obtain rfl:=AaP.1 hvals;simp only[RepL,Rep]at hvs;obtain⟨_,_,rfl,⟨xs,ys,rfl,rfl,rfl⟩,rfl⟩:=hvs;rw[p9]at hcap⊢;cases l with
 |nil=>refine(AnyF.slices_SortFunc_none sortC base cap _ U.w).mono ?_;rintro e w' ⟨rfl,rfl⟩;exact⟨[],rfl,⟨λ_ _ _=>rfl,fA _,SameO.refl _⟩,.inl rfl⟩
 |cons c l=>
  rcases hk with⟨rfl,h2,h3,h4,cs,T,h5,h6⟩|⟨rfl,_⟩
  ·refine(AdP (cap:=cap) h3 ⟨cs,T,h5⟩ hsz hnd).mono ?_;rintro e w' ⟨rfl,hk,hl⟩;refine⟨_,rfl,hk,.inr ⟨hl,AaP.2 rfl,λx hx=>?_⟩⟩;obtain⟨c,_,hx⟩:=List.mem_flatMap.1 hx;simp[HW]at hx;rcases hx with rfl|rfl|rfl|rfl|rfl|rfl|rfl|rfl<;>rfl
  ·simp at hcap
abbrev MC:=Int×Int×((Int×Int)×(Int×Int))×Int×Int
def Ie(c:MC):Ct:=(c.1,c.2.1,c.2.2.1.1.1,c.2.2.1.1.2,c.2.2.1.2.1,c.2.2.1.2.2,c.2.2.2.1,c.2.2.2.2)
def PI(l:List MC):List MC:=l.mergeSort λx y=> !decide (y.1<x.1\/y.1=x.1/\y.2.1<x.2.1)
theorem vH(l:List MC):srt (l.map Ie)=(PI l).map Ie:=by unfold srt PI;rw[List.map_mergeSort (s:=λx y=> !PH y x)];intro a _ b _;rfl
theorem nE(l:List MC):l.map B0=(l.map Ie).map MA:=by rw[LB];rfl
theorem AaS{l:List MC}(hsz:l.length<4611686018427387904)(hnd:(l.map λc=>(c.1,c.2.1)).Nodup):UA Tryz.prog 125 8 (l.map B0) [.clo (.func 126) [] []] ((PI l).map B0):=by rw[nE,nE,<-vH];exact AaR (by rw[p9];exact hsz) (by rw[LB];exact hnd)
theorem vI{l:List MC}:∀r∈l.map B0,r.length=8/\AS r=true:=by intro r hr;obtain⟨c,_,rfl⟩:=tI.1 hr;exact⟨rfl,rfl⟩
theorem Ab8:FU Tryz.prog 125:=AaQ
end
section
open Go
attribute [local irreducible] As Cn B6 BK CA BJ Bv Cl Cv Dx
set_option maxRecDepth 100000
set_option maxHeartbeats 8000000
attribute [local go_sem] SC
def Dw(N:Nat)(f1:List (Int×Int×Int×(List (Int×Int))×Int×Int)):Nat->Int->(List (Int×Int×((Int×Int)×(Int×Int))×Int×Int))->Option ((List (Int×Int×((Int×Int)×(Int×Int))×Int×Int)))|0,_,_=>none|n+1,x41,l42=>bif decide (x41<(f1.length:Int))then((AA f1 x41).bind λ(x43,x44,VC,xW,x47,x48)=>(Ef N x43 x44 VC xW x47 x48).bind λ((bq,bp,((bo,bm),(bj,bi)),bh,bg),db)=>bif db then(gd ((l42.length+1)*64<=140737488355328)<|gd (Ab (x41+1))<|Dw N f1 n (x41+1) (l42++[(bq,bp,((bo,bm),(bj,bi)),bh,bg)]))else(gd (Ab (x41+1))<|Dw N f1 n (x41+1) l42))else(some l42)
def CF(N:Nat):List ((Int×Int×Int×(List (Int×Int))×Int×Int)×(Int×Int×Int×(List (Int×Int))×Int×Int))->(List (Int×Int×((Int×Int)×(Int×Int))×Int×Int))->Option ((List (Int×Int×((Int×Int)×(Int×Int))×Int×Int)))|[],l90=>some l90|((cz,cy,cu,cr,cq,co),(ce,b9,bz,av,au,aq))::ys,l90=>(Ff N cz cy cu cr cq co ce b9 bz av au aq).bind λ((an,r104,((am,ak),(aj,ai)),ah,af),aw)=>bif aw then(gd ((l90.length+1)*64<=140737488355328)<|CF N ys (l90++[(an,r104,((am,ak),(aj,ai)),ah,af)]))else(CF N ys l90)
def Di(N:Nat)(f1:List (Int×Int×Int×(List (Int×Int))×Int×Int)):Option (List (Int×Int×((Int×Int)×(Int×Int))×Int×Int)):=(Dw N f1 N 0 []).bind λbr=>gd (f1.length<=1000000000)<|(CF N (B1 f1) br).bind λl116=>gd ((l116.length:Int)<4611686018427387904)<|gd ((l116.map λc=>(c.1,c.2.1)).Nodup)<|some (PI l116)
@[go_sem] def s86(N:Nat):Spec:=p0<|pG<|pD Ar λf1=>pE<|pE<|pF (Di N f1) [] λr=>Bq r
theorem Z2(N:Nat):AZ Tryz.prog 86 (s86 N):=by
 refine Ax x86.ok<|A2<|Dj λf1=>Ai<|Ai<|Ay λr h=>wx x86 (Ac (Zm N)<|Ac Ud<|Ac (Zl N)<|An) λ_ hS F=>?_
 dsimp only[x86,Al,Ar];unfold Di at h;refine go hS F ?_;refine Dy 1000001 (100,2) 0 8 [.i 0,.i 0,.i 0,.i 0,.i 0,.i 0,.i 0,.i 0] (by omega) (ev F) ?_;obtain⟨dg,dt,h⟩:=un h;refine go hS F ?_;refine AM dg (λz:(List (Int×Int×((Int×Int)×(Int×Int))×Int×Int))×Nat=>⟨[(1,.box (0,1) 0),(3,.box (100,2) 0)],[(.c (100,2) 0,.own (1000001,4) z.1.length),(.a (1000001,4),Ej z.1),(.c (0,1) 0,Aj f1)],z.2⟩) (λz=>(z.1:(List (Int×Int×((Int×Int)×(Int×Int))×Int×Int)))) (.x 0) ?_ ?_
 ·refine AH (λn (y:Int×(List (Int×Int×((Int×Int)×(Int×Int))×Int×Int))×Nat)=>Dw N f1 n y.1 y.2.1) (λy=>⟨[(1,.box (0,1) 0),(3,.box (100,2) 0),(13,Aj f1),(14,.i (f1.length:Int)),(15,.i y.1)],[(.c (100,2) 0,.own (1000001,4) y.2.1.length),(.a (1000001,4),Ej y.2.1),(.c (0,1) 0,Aj f1)],y.2.2⟩) (0,[],4) dt (Bn F) ?_;rintro n ⟨x41,l42,bw⟩ aa;simp only[Dw]at aa;refine Ap hS F aa (λ_ aa=>?_) (λ_ aa=>?_)
  ·obtain⟨⟨x43,x44,VC,xW,x47,x48⟩,bv,aa⟩:=un aa;obtain⟨dp,F⟩:=Bt Ak bv F;obtain⟨⟨⟨bq,bp,⟨⟨bo,bm⟩,⟨bj,bi⟩⟩,bh,bg⟩,db⟩,bu,aa⟩:=un aa;replace F:=fc bu F;refine Ap hS F aa (λ_ aa=>?_) (λ_ aa=>?_)
   ·obtain⟨d7,d6,aa⟩:=un aa;exact Bk hS F (n,x41+1,l42++[(bq,bp,((bo,bm),(bj,bi)),bh,bg)],bw+1+1+1+1+1+1) aa
   ·obtain⟨d5,aa⟩:=un aa;exact Bk hS F (n,x41+1,l42,bw+1+1+1+1+1) aa
  ·exact A9 hS F (l42,bw+1) aa
 ·rintro⟨br,du⟩ rfl;obtain⟨dz,h⟩:=un h;obtain⟨ay,dq,h⟩:=un h;refine go hS F ?_;refine AM ay (λz:(List (Int×Int×((Int×Int)×(Int×Int))×Int×Int))×Nat=>⟨[(3,.box (100,2) 0)],[(.c (100,2) 0,.own (1000001,4) z.1.length),(.a (1000001,4),Ej z.1)],z.2⟩) (λz=>(z.1:(List (Int×Int×((Int×Int)×(Int×Int))×Int×Int)))) .n ?_ ?_
  ·refine Mg (λy:Nat×(List (Int×Int×((Int×Int)×(Int×Int))×Int×Int))×Nat=>([(.c (100,2) 0,.own (1000001,4) y.2.1.length),(.a (1000001,4),Ej y.2.1)],y.2.2)) (λy=>CF N ((B1 f1).drop y.1) y.2.1=some ay/\y.1<=(B1 f1).length) (λy=>y.1) (0,br,du+1) (ev F) (WH f1 false (by assumption)) x124.ok ⟨rfl,rfl⟩ (by simp[x86,Al]) (by intro a ha;obtain⟨y,_,rfl⟩:=tI.1 ha;exact⟨rfl,rfl⟩) ⟨dq,t7 _⟩ rfl ?_ ?_ ?_
   ·exact Bn F
   ·rintro l ⟨n,l90,be⟩ ⟨ae,hle⟩ args de;obtain⟨⟨⟨cz,cy,cu,cr,cq,co⟩,⟨ce,b9,bz,av,au,aq⟩⟩,az,rfl,hlt⟩:=J6 de;simp only[az,CF]at ae;clear de az;simp only[gE,GU];obtain⟨⟨⟨an,r104,⟨⟨am,ak⟩,⟨aj,ai⟩⟩,ah,af⟩,aw⟩,bb,ae⟩:=un ae;replace F:=fc bb F;refine Ap hS F ae (λ_ ae=>?_) (λ_ ae=>?_)
    ·obtain⟨dm,ae⟩:=un ae;exact RO hS F (n+1,l90++[(an,r104,((am,ak),(aj,ai)),ah,af)],be+1+1+1+1+1) ae
    ·exact RO hS F (n+1,l90,be+1+1+1+1) ae
   ·rintro⟨n,l90,be⟩ ⟨ae,hle⟩ hk;rw[show n=_ from hk,JU]at ae;simp only[CF]at ae;exact A9 hS F (l90,be) ae
  ·rintro⟨l116,dw⟩ rfl;obtain⟨dl,dh,h⟩:=un h;refine go hS F ?_;refine rX (bn:=(100,2)) (j:=0) (Ctx.fn_ok hS) 1 Ab8 rfl (ev F) ?_ (ev F) (ev F) (by simp) (ev F) (ev F) (ev F) (by simp only[go_sem,seval,F]<;>simp) (ev F) vI (by simp[PI]) (AaS (l:=l116) (by omega) (by assumption)) (ev F) ?_ ?_
   ·exact Hk hS F
   ·exact Hk hS F
   exact Af hS F h
end
section
open Go
attribute [local irreducible] As Cn B6 BK CA BJ Bv Cl Cv Dx
set_option maxRecDepth 100000
set_option maxHeartbeats 8000000
def Be(N:Nat)(aa:List (Int×Int×Int×(List (Int×Int))×Int×Int)):Option (List (Int×Int×((Int×Int)×(Int×Int))×Int×Int)):=(Br N aa).bind λaf=>bif !af then(some [])else((Di N aa).bind λae=>some ae)
@[go_sem] def s30(N:Nat):Spec:=p0<|pG<|pD Ar λaa=>pE<|pE<|pF (Be N aa) [] λr=>Bq r
theorem Z3(N:Nat):AZ Tryz.prog 30 (s30 N):=by
 refine Ax x30.ok<|A2<|Dj λaa=>Ai<|Ai<|Ay λr h=>wx x30 (Ac (JI N)<|Ac (Z2 N)<|An) λ_ hS F=>?_
 dsimp only[x30,Al,Ar];unfold Be at h;obtain⟨af,ai,h⟩:=un h;replace F:=fc ai F;refine Ap hS F h (λ_ h=>?_) (λ_ h=>?_)
 ·exact Af hS F h
 ·obtain⟨ae,ah,h⟩:=un h;exact Af hS (fc ah F) h
end
section
open Go Go.RowKit Go.Lib Go.Sort
set_option maxHeartbeats 1000000
set_option maxRecDepth 100000
theorem Ab9(x0 x1 y0 y1:Int)(b c:Nat)(w:World)(h0:w.cell? ⟨b,0,none⟩=some (.int .i64 x0))(h1:w.cell? ⟨b,1,none⟩=some (.int .i64 x1))(g0:w.cell? ⟨c,0,none⟩=some (.int .i64 y0))(g1:w.cell? ⟨c,1,none⟩=some (.int .i64 y1)):Calls Tryz.prog 90 #[.slice (some ⟨b,0,none⟩) 2 2,.slice (some ⟨c,0,none⟩) 2 2] w λe w'=>e=.returned (.int .i64 (M5 (cI x0 y0) (cI x1 y1)))/\w'=w:=by
 have k0:=λw=>Z1 x0 y0 w
 have k1:=λw=>Z1 x1 y1 w
 generalize cI x0 y0=p at k0⊢;generalize cI x1 y1=q at k1⊢;by_cases hp:p=0
 ·subst hp;by_cases hq:q=0
  ·subst hq
   go_enter Tryz.func90,Tryz.ntmps90
   go_wp2
   refine wp_loop_rounds 3 ?_;rw[rounds_succ]
   go_wp2_with (go_at_call 87;refine(k0 _).mono ?_;rintro e w' ⟨rfl,rfl⟩)
   rw[rounds_succ]
   go_wp2_with (go_at_call 87;refine(k1 _).mono ?_;rintro e w' ⟨rfl,rfl⟩)
   rw[rounds_succ]
   go_wp2
   all_goals (go_ret;exact⟨by simp[M5],rfl⟩)
  ·have hq2:(q==0)=false:=by simpa using hq
   go_enter Tryz.func90,Tryz.ntmps90
   go_wp2
   refine wp_loop_rounds 3 ?_;rw[rounds_succ]
   go_wp2_with (go_at_call 87;refine(k0 _).mono ?_;rintro e w' ⟨rfl,rfl⟩)
   rw[rounds_succ]
   go_wp2_with (go_at_call 87;refine(k1 _).mono ?_;rintro e w' ⟨rfl,rfl⟩)
   all_goals (go_ret;exact⟨by simp[M5],rfl⟩)
 ·have hp2:(p==0)=false:=by simpa using hp
  go_enter Tryz.func90,Tryz.ntmps90
  go_wp2
  refine wp_loop_rounds 3 ?_;rw[rounds_succ]
  go_wp2_with (go_at_call 87;refine(k0 _).mono ?_;rintro e w' ⟨rfl,rfl⟩)
  all_goals (go_ret;exact⟨by simp[M5,hp],rfl⟩)
theorem Aca(a0 a1 b0 b1:Int)(w:World):Calls Tryz.prog 89 #[.agg #[.int .i64 a0,.int .i64 a1],.agg #[.int .i64 b0,.int .i64 b1]] w λe w'=>e=.returned (.int .i64 (M5 (cI a0 b0) (cI a1 b1)))/\∃q os',w'=grow (w.drewN q) os':=by
 obtain⟨W2,hW2⟩:∃W2:World,W2=((w.alloc (.cells #[.int .i64 a0,.int .i64 a1] 60)).alloc (.cells #[.int .i64 b0,.int .i64 b1] 60)).drew:=⟨_,rfl⟩
 have c0:W2.cell? ⟨w.heap.size,0,none⟩=some (.int .i64 a0):=by rw[hW2];go_simp
 have c1:W2.cell? ⟨w.heap.size,1,none⟩=some (.int .i64 a1):=by rw[hW2];go_simp
 have d0:W2.cell? ⟨w.heap.size+1,0,none⟩=some (.int .i64 b0):=by rw[hW2];go_simp
 have d1:W2.cell? ⟨w.heap.size+1,1,none⟩=some (.int .i64 b1):=by rw[hW2];go_simp
 have hend:∃q os',W2=grow (w.drewN q) os':=⟨1,_,by rw[hW2];show(((w.drewN 1).alloc _).alloc _)=_;rw[alloc_eq_grow,alloc_eq_grow,grow_grow]⟩
 go_enter Tryz.func89,Tryz.ntmps89
 go_wp2
 refine wst 3 (by kernel_rfl) (by kernel_rfl) hW2 ?_;simp only[QZ,Ws,List.drop_succ_cons,uP];clear hW2;repeat still_step
 still_call (Ab9 _ _ _ _ _ _ _ c0 c1 d0 d1)
 refine wpStill_nil ?_;clear c0 c1 d0 d1
 go_wp2
 go_ret
 exact⟨rfl,hend⟩
end
section
open Go Go.Shelf Go.RowKit Go.Lib Go.Sort
set_option maxHeartbeats 1000000
set_option maxRecDepth 100000
shelf_lay_g SlLaysF0.n6 Slsf 6 at Tryz 88 as sortP
def GW(c:Int×Int):List Value:=[.int .i64 c.1,.int .i64 c.2]
def gU(x y:(Int×Int)):Int:=M5 (cI x.1 y.1) (cI x.2 y.2)
def QI(x y:(Int×Int)):Bool:=decide (x.1<y.1\/x.1=y.1/\x.2<y.2)
theorem gV:ltOf gU=QI:=by
 funext x y;simp only[ltOf,gU,M5,cI,QI,decide_eq_decide];by_cases h1:x.1<y.1
 ·simp[h1]
 ·by_cases h2:y.1<x.1
  ·simp[h1,h2];omega
  ·have h3:x.1=y.1:=by omega
   by_cases h4:x.2<y.2
   ·simp[h3,h4]
   ·by_cases h5:y.2<x.2<;>simp[h3,h4,h5]
theorem AdR:SWO (ltOf gU):=by
 rw[gV];refine⟨λx=>?_,λx y z h1 h2=>?_,λx y z h1 h2=>?_⟩
 ·simp[QI]
 ·simp only[QI,eR]at h1 h2⊢;omega
 ·simp only[QI,eS]at h1 h2⊢;omega
theorem AdS(blk off size:Nat)(w:World):CmpLays Tryz.prog 89 #[] GW 2 gU blk off size w:=λ_ _ _ _ x y=>Aca _ _ _ _ _
theorem AdT(w:World):(isAgg 60).run Tryz.prog w=.ok true w:=by
 have h:(Tryz.prog.underlying 60).map B8=some true:=by kernel_rfl
 cases hd:Tryz.prog.underlying 60 with
 |none=>rw[hd]at h;cases h
 |some d=>rw[hd]at h;rw[JZ hd,yJ h]
theorem AdU(w:World):(Go.sizeOf 60).run Tryz.prog w=.ok 2 w:=by
 have h:(Tryz.prog.info? 60).map (λi=>i.size)=some 2:=by kernel_rfl
 obtain⟨i,hi,h2⟩:=L9.1 h;rw[Eu hi,h2]
theorem OI(c:(Int×Int)):(GW c).length=2:=rfl
theorem qP:∀(l:List (Int×Int))(t:Nat),(l.flatMap GW)[t]? =(l[t/2]?).bind λc=>(GW c)[t%2]?
 |[],t=>by simp
 |c::l,t=>by
  rw[List.flatMap_cons,List.getElem?_append,OI];split
  ·rename_i h;rw[Nat.div_eq_of_lt h,tT h];rfl
  ·rename_i h;rw[qP l (t-2),show t/2=(t-2)/2+1 by omega,show t%2=(t-2)%2 by omega];rfl
theorem gW(l:List (Int×Int))(t:Nat)(h:t<l.length*2):(l.flatMap GW)[t]? =some ((flatK GW 2 l.toArray)[t]!):=by
 have h1:t/2<l.length:=by omega
 rw[get_flatK GW 2 l.toArray t (by simpa using h),qP,eV h1];have h2:t%2<(GW l[t/2]).length:=by rw[OI];omega
 rw[pA,eV h2,getElem!_pos l.toArray (t/2) (by simpa using h1),List.getElem_toArray,getElem!_pos (GW l[t/2]) (t%2) h2]
def OJ(l:List (Int×Int)):List (Int×Int):=l.mergeSort λx y=> !QI y x
theorem Rj(l:List (Int×Int)):(OJ l).length=l.length:=(TR _ _).length_eq
theorem Acb{blk off cap:Nat}{l:List (Int×Int)}{w:World}(hl:Lies w blk off (l.flatMap GW))(hf:∃cs T,w.heap[blk]? =some (.cells cs T (0,0)))(hsz:l.length<4611686018427387904):Calls Tryz.prog 88 #[.slice (some ⟨blk,off,none⟩) l.length cap,.func (.func 89) #[] #[]] w λe w'=>e=.returned (.tuple #[])/\KeptB blk w w'/\Lies w' blk off ((OJ l).flatMap GW)/\∀cs T,w.heap[blk]? =some (.cells cs T (0,0))->∃cs',w'.heap[blk]? =some (.cells cs' T (0,0))/\cs'.size=cs.size:=by
 have eg:∀args w,(callFunc 89 args).run Tryz.prog w=.ok (.enter 89 args) w:=enters_of Tryz.func89 (by kernel_rfl) rfl;have hblk:blk<w.heap.size:=by obtain⟨cs,T,h⟩:=hf;exact(eY.1 h).1
 have hH:HoldsK GW 2 w blk off l.toArray:=λj hj=>by rw[size_flatK,List.size_toArray]at hj;refine⟨hl j _ (gW l j hj),?_⟩;obtain⟨cs,T,h⟩:=hf;simp[World.frozen?,h]
 have hS:=AnyQ.slices_SortFunc sortP 2 AdT AdU GW OI (λx v hv=>by simp[GW]at hv;rcases hv with rfl|rfl<;>rfl) gU AdR 89 #[] blk off cap l.toArray w eg (AdS blk off l.toArray.size w) hH hblk (by simpa using hsz);refine hS.mono ?_;rintro e w' ⟨rfl,d',n,os,hp,hs,rfl⟩;have hd:d'.toList=OJ l:=by
  obtain⟨hsz',_,hperm⟩:=hp;have e1:d'.extract 0 l.toArray.size=d':=by rw[<-hsz'];exact Array.extract_size
  rw[e1,Array.extract_size]at hperm;rw[gV]at hs;refine List.Perm.eq_of_pairwise (le:=λx y=>(!QI y x)=true) ?_ ?_ ?_ (hperm.trans (TR _ _).symm)
  ·intro a b ha hb h1 h2;simp only[zT,QI,eS]at h1 h2;exact Rl (by omega) (by omega)
  ·rw[L6];intro i j hi hj hij;have hi':i<d'.size:=by simpa using hi
   have hj':j<d'.size:=by simpa using hj
   have:=hs i j (t7 _) hij (by omega);rw[getElem!_pos d' j hj',getElem!_pos d' i hi']at this;simpa using this
  ·refine List.pairwise_mergeSort ?_ ?_ _
   ·intro a b c h1 h2;simp only[zT,QI,eS]at h1 h2⊢;omega
   ·intro a b;simp only[QI,tV,zT,eS];omega
 have hsd:d'.size=l.length:=by rw[<-Rj l,<-hd];simp
 refine⟨rfl,⟨λx hx hb=>?_,?_,rfl,rfl⟩,λj v hj=>?_,λcs T hcs=>?_⟩
 ·have hx2:x<(putRowK GW 2 (Sort.ahead w n) blk off d').heap.size:=by rw[size_putRowK];exact hx
  show((putRowK GW 2 (Sort.ahead w n) blk off d').heap++os)[x]? =_;rw[z7 hx2];show(Array.modify w.heap blk _)[x]? =_;rw[C8,eW (Ss hb)]
 ·exact size_sortWorldK_c GW 2 w blk off n d' os
 ·have hK:=holdsK_sortWorldK GW 2 w blk off n l.toArray d' os hblk hH (by simpa using hsd);have hlt:j<(OJ l).length*2:=by have:=(i5.1 hj).1;rw[List.length_flatMap]at this;simpa[OI,List.map_const',List.sum_replicate_nat]using this
  have:=(hK j (by rw[size_flatK,hsd,<-Rj l];exact hlt)).1;rw[this,<-hj,gW _ j hlt,<-hd];rfl
 ·have hx2:blk<(putRowK GW 2 (Sort.ahead w n) blk off d').heap.size:=by rw[size_putRowK];exact hblk
  refine⟨putCells id off (flatK GW 2 d') cs,?_,by simp[putCells]⟩;show((putRowK GW 2 (Sort.ahead w n) blk off d').heap++os)[blk]? =_;rw[z7 hx2];show(Array.modify w.heap blk _)[blk]? =_;rw[C8,eX rfl,hcs];rfl
attribute [go_sem] Rj
theorem AaU{U:Cf}:∀{l:List (Int×Int)}{vals:List Value},RepL U (l.map By).flatten vals↔vals=l.flatMap GW:=by
 intro l;induction l with
 |nil=>intro vals;simp[RepL]
 |cons c l ih=>
  intro vals;simp only[eZ,CV,By,s8,nJ,RepL,Rep,List.flatMap_cons,GW];constructor
  ·rintro⟨_,_,rfl,rfl,_,_,rfl,rfl,h⟩;rw[ih.1 h]
  ·rintro rfl;exact⟨_,_,rfl,rfl,_,_,rfl,rfl,ih.2 rfl⟩
theorem AdV:FU Tryz.prog 88:=⟨_,Tryz.func88,by kernel_rfl,by kernel_rfl⟩
theorem AaV{l:List (Int×Int)}(hsz:l.length<4611686018427387904):Y3 Tryz.prog 88 2 (l.map By) [.clo (.func 89) [] []] ((OJ l).map By):=by
 intro U vs vals base b o cap gl hlt hvs hvals h1 hlen hcap hk;obtain rfl:=AaU.1 hvals;simp only[RepL,Rep]at hvs;obtain⟨_,_,rfl,⟨xs,ys,rfl,rfl,rfl⟩,rfl⟩:=hvs;rw[p9]at hcap⊢;cases l with
 |nil=>refine(AnyF.slices_SortFunc_none sortP base cap _ U.w).mono ?_;rintro e w' ⟨rfl,rfl⟩;exact⟨[],rfl,⟨λ_ _ _=>rfl,fA _,SameO.refl _⟩,λcs T h=>⟨cs,h,rfl⟩,.inl rfl⟩
 |cons c l=>
  rcases hk with⟨rfl,h2,h3,h4,cs,T,h5,h6⟩|⟨rfl,_⟩
  ·refine(Acb (cap:=cap) h3 ⟨cs,T,h5⟩ hsz).mono ?_;rintro e w' ⟨rfl,hk,hl,hs⟩;refine⟨_,rfl,hk,hs,.inr ⟨hl,AaU.2 rfl,λx hx=>?_⟩⟩;obtain⟨c,_,hx⟩:=List.mem_flatMap.1 hx;simp[GW]at hx;rcases hx with rfl|rfl<;>rfl
  ·simp at hcap
theorem vJ{l:List (Int×Int)}:∀r∈l.map By,r.length=2/\AS r=true:=by intro r hr;obtain⟨c,_,rfl⟩:=tI.1 hr;exact⟨rfl,rfl⟩
end
section
open Go
attribute [local irreducible] As Cn B6 BK CA BJ Bv Cl Cv Dx
set_option maxRecDepth 100000
set_option maxHeartbeats 8000000
def Eo(N:Nat)(r4:List (Int×Int×((Int×Int)×(Int×Int))×Int×Int)):Nat->Int->(List (Int×Int))->Option ((List (Int×Int)))|0,_,_=>none|n+1,x32,l33=>bif decide (x32<(r4.length:Int))then((AA r4 x32).bind λ(x34,x35,((x36,x37),(x38,x39)),x40,x41)=>(DK N x36 x38).bind λaf=>bif decide (af=(-1))then(gd ((l33.length+1)*16<=140737488355328)<|gd (Ab (x32+1))<|Eo N r4 n (x32+1) (l33++[(x34,x35)]))else(bif decide (af=1)then(gd ((l33.length+1)*16<=140737488355328)<|gd (Ab (x32+1))<|Eo N r4 n (x32+1) (l33++[(x35,x34)]))else(gd (Ab (x32+1))<|Eo N r4 n (x32+1) l33)))else(some l33)
def Ck(N:Nat)(f1:List (Int×Int×Int×(List (Int×Int))×Int×Int)):Option (List (Int×Int)):=(Br N f1).bind λr2=>bif !r2 then(some [])else((Di N f1).bind λr4=>(Eo N r4 N 0 []).bind λl49=>gd ((l49.length:Int)<4611686018427387904)<|some (OJ l49))
@[go_sem] def s29(N:Nat):Spec:=p0<|pG<|pD Ar λf1=>pE<|pE<|pF (Ck N f1) [] λr=>A3 r
theorem Z4(N:Nat):AZ Tryz.prog 29 (s29 N):=by
 refine Ax x29.ok<|A2<|Dj λf1=>Ai<|Ai<|Ay λr h=>wx x29 (Ac (JI N)<|Ac (Z2 N)<|Ac (UC N)<|An) λ_ hS F=>?_
 dsimp only[x29,Al,Ar];unfold Ck at h;obtain⟨r2,am,h⟩:=un h;replace F:=fc am F;refine Ap hS F h (λ_ h=>?_) (λ_ h=>?_)
 ·exact Af hS F h
 ·obtain⟨r4,ak,h⟩:=un h;replace F:=fc ak F;refine go hS F ?_;refine Df 1000001 3 2 [.i 0,.i 0] (by show(3:Nat)<49;omega) (by omega) (ev F) ?_;obtain⟨aj,aq,h⟩:=un h;refine go hS F ?_;refine AM aj (λz:(List (Int×Int))×Nat=>⟨[(3,.own (1000001,5) z.1.length)],[(.a (1000001,5),JS z.1)],z.2⟩) (λz=>(z.1:(List (Int×Int)))) (.x 0) ?_ ?_
  ·refine AH (λn (y:Int×(List (Int×Int))×Nat)=>Eo N r4 n y.1 y.2.1) (λy=>⟨[(3,.own (1000001,5) y.2.1.length),(10,Bq r4),(11,.i (r4.length:Int)),(12,.i y.1)],[(.a (1000001,5),JS y.2.1)],y.2.2⟩) (0,[],5) aq (Bn F) ?_;rintro n ⟨x32,l33,ae⟩ aa;simp only[Eo]at aa;refine Ap hS F aa (λ_ aa=>?_) (λ_ aa=>?_)
   ·obtain⟨⟨x34,x35,⟨⟨x36,x37⟩,⟨x38,x39⟩⟩,x40,x41⟩,ai,aa⟩:=un aa;obtain⟨an,F⟩:=Bt B0 ai F;obtain⟨af,ah,aa⟩:=un aa;replace F:=fc ah F;refine Ap hS F aa (λ_ aa=>?_) (λ_ aa=>?_)
    ·obtain⟨bb,az,aa⟩:=un aa;exact Bk hS F (n,x32+1,l33++[(x34,x35)],ae+1+1+1+1+1+1) aa
    ·refine Ap hS F aa (λ_ aa=>?_) (λ_ aa=>?_)
     ·obtain⟨ay,aw,aa⟩:=un aa;exact Bk hS F (n,x32+1,l33++[(x35,x34)],ae+1+1+1+1+1+1+1) aa
     ·obtain⟨av,aa⟩:=un aa;exact Bk hS F (n,x32+1,l33,ae+1+1+1+1+1+1) aa
   ·exact A9 hS F (l33,ae+1) aa
  ·rintro⟨l49,be⟩ rfl;obtain⟨au,h⟩:=un h;refine go hS F ?_;refine rY (Ctx.fn_ok hS) 1 AdV rfl (ev F) ?_ (ev F) (ev F) (by simp) (ev F) (ev F) (ev F) (by simp only[go_sem,seval,F]<;>simp) vJ (by simp[OJ]) (AaV (l:=l49) (by omega)) (ev F) ?_ ?_
   ·exact Hk hS F
   ·exact Hk hS F
   exact Af hS F h
end
section
open Go
attribute [local irreducible] As Cn B6 BK CA BJ Bv Cl Cv Dx
set_option maxRecDepth 100000
set_option maxHeartbeats 8000000
theorem AaN{E J:Type}(o:Option E)(f:E->J)(z:E)(g:J->AV):pF (o.map f) (f z) g=pF o z (λx=>g (f x)):=by funext st;cases st<;>cases o<;>simp[pF]
def Dv(N:Nat)(us:List Un):Option (List Ct):=(Di N us).map (List.map Ie)
theorem vG(N:Nat):MB Dv N=s86 N:=by
 have h:∀us:List Un,pF (Dv N us) [] (λr=>AV.sl 8 false (r.map MA) Ue)=pF (Di N us) [] λr=>Bq r:=λus=>by refine(AaN (Di N us) (List.map Ie) [] _).trans ?_;congr 1;funext r;rw[<-nE];rfl
 unfold MB s86;simp only[h]
theorem gO(N:Nat):AZ Tryz.prog 86 (MB Dv N):=by rw[vG];exact Z2 N
theorem Xl(N:Nat):AZ Tryz.prog 34 (AaJ Dv N):=AaK (gO N)
theorem gP(N:Nat):AZ Tryz.prog 33 (AaL Dv N):=AaM (gO N)
end
open Go
attribute [local irreducible] As Cn B6 BK CA BJ Bv Cl Cv Dx
set_option maxRecDepth 100000
set_option maxHeartbeats 8000000
@[go_sem] def UO(N:Nat):Spec:=p0<|pG<|pD Ar λus=>pE<|pE<|pF (C3 Dv N us) [] λr=>GY r
theorem Tj(N:Nat):AZ Tryz.prog 34 (UO N):=Xl N
@[go_sem] def UQ(N:Nat):Spec:=p0<|pG<|pD Ar λus=>pE<|pE<|pF (E4 Dv N us) [] λr=>Lz r
theorem Tk(N:Nat):AZ Tryz.prog 33 (UQ N):=gP N
