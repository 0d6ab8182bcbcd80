import Derived.Test.YtciphecegkfaiaaGreatF9
import Derived.Test.YtciphecegkfaiaaGreatR6
import Derived.Test.YtciphecegkfaiaaGreatF4
namespace Go.Proofs.YtciphecegkfaiaaGreat.Am
open Go
attribute [local irreducible] awp B5 BR Bx B3 Bw Bn BS B1 itK
set_option maxRecDepth 100000
set_option maxHeartbeats 8000000
set_option linter.unusedSimpArgs false
set_option linter.unusedVariables false
attribute [local go_sem] Q5 Q6
def Cy (N:Nat):Option Bool:=
 (GM N).bind fun r1=>
 (Cn N r1 1).bind fun(r3,r4)=>
 (Cn N r3 2).bind fun(r6,r7)=>
 (Cn N r6 2).bind fun(r9,gx)=>
 (nth r1 0).bind fun(x12,x13,x14,x15,x16,x17)=>
 (EM N r3 x12 x13 x14 x15 x16 x17).bind fun(an,gw)=>
 (EM N r1 x12 x13 x14 x15 x16 x17).bind fun(ij,gu)=>
 (El N r1 7).bind fun((gt,gj,gi,gh,gf,gc),fq)=>
 (El N r1 5).bind fun((ig,ie,ic,r36,g9,g8),fj)=>
 (Ge N r1).bind fun(am,fh)=>
 (Fp N am).bind fun(aw,fg)=>
 (Ic N r1 1 0).bind fun(r47,fb)=>
 gd ((am++[120]).length≤140737488355328)<|
 (Fp N (am++[120])).bind fun(gz,e9)=>
 bif (((((((((((decide (r4≠0))||(decide (r7≠0)))||(decide (gx≠120)))||(decide (gw≠0)))||(decide (gu≠120)))||(!fq))||fj)||(decide (fh≠0)))||(decide (fg≠0)))||(decide (fb≠0)))||(decide (e9≠120)))||(decide ((r47.length:Int)≠4)) then(
  some false)
 else(
  (Bi N r1).bind fun ez=>
  (Av N 0 0).bind fun(eh,d9)=>
  (Av N 4 0).bind fun(d8,r59)=>
  (Av N 4 4).bind fun(r61,d7)=>
  (Av N 0 4).bind fun(d6,d5)=>
  (Av N 8 0).bind fun(r67,dz)=>
  (Av N 12 0).bind fun(dw,r71)=>
  (Av N 12 4).bind fun(du,dt)=>
  (Av N 8 4).bind fun(dq,dp)=>
  (Bj N ez [(1,(-1),((eh,d9),(d8,r59)),0,2),(1,3,((r61,d7),(d6,d5)),0,2),(2,(-1),((r67,dz),(dw,r71)),0,2),(2,3,((du,dt),(dq,dp)),0,2)]).bind fun ak=>
  (Co N r1).bind fun dm=>
  (Cq N dm [(1,(-1)),(2,(-1)),(3,1),(3,2)]).bind fun av=>
  gd (av=true→((Dv CA N r1).isSome=true))<|
  gd (av=true)<|
  (Ce N ((Dv CA N r1).getD []) [[1,2,3],[7]]).bind fun aj=>
  (CE CA N r1).bind fun dl=>
  (C8 N dl [7]).bind fun au=>
  gd (au=true→((CE CA N r3).isSome=true))<|
  gd (au=true)<|
  (C8 N ((CE CA N r3).getD []) [7]).bind fun aq=>
  gd (aq=true→((CE CA N r6).isSome=true))<|
  gd (aq=true)<|
  (C8 N ((CE CA N r6).getD []) [3,7]).bind fun ai=>
  gd (((ak&&aj)&&ai)=true→((AD N an r1).isSome=true))<|
  gd ((((ak&&aj)&&ai)&&((AD N an r1).getD false))=true→((AD N aw r1).isSome=true))<|
  gd (((((ak&&aj)&&ai)&&((AD N an r1).getD false))&&((AD N aw r1).getD false))=true)<|
  (nth r1 3).bind fun(x95,x96,x97,x98,x99,x100)=>
  (Ep N gt gj gi gh gf gc x95 x96 x97 x98 x99 x100).bind fun aa=>
  gd (aa=true→((Bk N r1).isSome=true))<|
  gd ((aa&&(decide ((Bk N r1).getD 0=256)))=true→((AT N r1).isSome=true))<|
  gd (((aa&&(decide ((Bk N r1).getD 0=256)))&&((AT N r1).getD false))=true)<|
  (AT N [(0,0,0,[],0,0)]).bind fun r104=>
  some (!r104))
@[go_sem] def s11 (N:Nat):Spec:=p0<|pE<|pF (Cy N) false fun r=> .b r
theorem Nb (N:Nat):FOK Tryz.prog 11 (s11 N):=by
 refine Al x11.ok<|Ah<|An fun r h=>wx x11 (Aa (lW N)<|Aa (UH N)<|Aa (UG N)<|Aa (QX N)<|Aa (Y9 N)<|Aa (Za N)<|Aa (Y7 N)<|Aa (Q7 N)<|Aa (QW N)<|Aa (UB N)<|Aa (Q8 N)<|Aa (UC N)<|Aa (PV N)<|Aa (Y6 N)<|Aa (PU N)<|Aa (UD N)<|Aa (UA N)<|Aa (Y4 N)<|Aa (UE N)<|Aa (G5 N)<|Aj) fun _ hS F=> ?_
 dsimp only[x11,mkX,CZ]
 unfold Cy at h
 obtain⟨r1,i7,⟨r3,r4⟩,i6,h⟩:=un h
 obtain⟨⟨r6,r7⟩,iz,h⟩:=un h
 obtain⟨⟨r9,gx⟩,dg,h⟩:=un h
 obtain⟨⟨x12,x13,x14,x15,x16,x17⟩,dh,h⟩:=un h
 obtain⟨i8,F⟩:=rqN 0 Ai dh (fc dg (fc iz (fc i6 (fc i7 F))))
 obtain⟨⟨an,gw⟩,de,h⟩:=un h
 obtain⟨⟨ij,gu⟩,db,h⟩:=un h
 obtain⟨⟨⟨gt,gj,gi,gh,gf,gc⟩,fq⟩,cz,h⟩:=un h
 obtain⟨⟨⟨ig,ie,ic,r36,g9,g8⟩,fj⟩,cy,h⟩:=un h
 obtain⟨⟨am,fh⟩,cu,h⟩:=un h
 obtain⟨⟨aw,fg⟩,cr,h⟩:=un h
 obtain⟨⟨r47,fb⟩,cq,h⟩:=un h
 obtain⟨je,⟨gz,e9⟩,co,h⟩:=un h
 replace F:=fc co (fc cq (fc cr (fc cu (fc cy (fc cz (fc db (fc de F)))))))
 refine gcb hS F h (fun _ h=> ?_) (fun _ h=> ?_)
 ·exact Ad hS F h
 ·obtain⟨ez,ce,⟨eh,d9⟩,b9,h⟩:=un h
  obtain⟨⟨d8,r59⟩,bz,h⟩:=un h
  obtain⟨⟨r61,d7⟩,bw,h⟩:=un h
  obtain⟨⟨d6,d5⟩,bv,h⟩:=un h
  obtain⟨⟨r67,dz⟩,bu,h⟩:=un h
  obtain⟨⟨dw,r71⟩,br,h⟩:=un h
  obtain⟨⟨du,dt⟩,bq,h⟩:=un h
  obtain⟨⟨dq,dp⟩,bp,h⟩:=un h
  obtain⟨ak,bo,dm,bm,av,bj,jd,iv,aj,bi,dl,bh,au,bg,jc,iq,aq,be,jb,ip,ai,bb,ja,i9,az,⟨x95,x96,x97,x98,x99,x100⟩,ah,h⟩:=un h
  obtain⟨gy,F⟩:=rqN 3 Ai ah (fc az (fc bb (fc ip (fc be (fc iq (fc bg (fc bh (fc bi (fc iv (fc bj (fc bm (fc bo (fc bp (fc bq (fc br (fc bu (fc bv (fc bw (fc bz (fc b9 (fc ce F)))))))))))))))))))))
  obtain⟨aa,af,iy,iw,ay,r104,ae,h⟩:=un h
  exact Ad hS (fc ae (fc ay (fc af F))) h
end Go.Proofs.YtciphecegkfaiaaGreat.Am
namespace Go.Proofs.YtciphecegkfaiaaGreat.Am
set_option linter.unusedVariables false
section
variable {α:Type} (le:α→α→Bool)
def NU (x:α):List α→List α
 |[]=>[x]
 |y::r=>bif le x y then x::y::r else y::NU x r
def MN:List α→List α
 |[]=>[]
 |x::r=>NU le x (MN r)
theorem NV (x:α):∀l:List α,(NU le x l).Perm (x::l)
 |[]=> .refl _
 |y::r=>by
  unfold NU
  cases le x y with
  |true=>exact .refl _
  |false=>exact((NV x r).cons y).trans (List.Perm.swap x y r)
theorem MO:∀l:List α,(MN le l).Perm l
 |[]=> .refl _
 |x::r=>(NV le x _).trans ((MO r).cons x)
variable {le} (tr:∀a b c,le a b=true→le b c=true→le a c=true) (tot:∀a b,(le a b||le b a)=true)
include tr tot
theorem WF (x:α):∀l:List α,l.Pairwise (fun a b=>le a b=true)→(NU le x l).Pairwise fun a b=>le a b=true
 |[],_=>by simp[NU]
 |y::r,h=>by
  unfold NU
  rw[List.pairwise_cons] at h
  cases hc:le x y with
  |true=>
   rw[cond_true,List.pairwise_cons,List.pairwise_cons]
   refine⟨fun z hz=> ?_,h⟩
   rcases List.mem_cons.1 hz with rfl|hz
   ·exact hc
   ·exact tr _ _ _ hc (h.1 z hz)
  |false=>
   rw[cond_false,List.pairwise_cons]
   refine⟨fun z hz=> ?_,WF x r h.2⟩
   rcases List.mem_cons.1 ((NV le x r).mem_iff.1 hz) with rfl|hz
   ·have:=tot z y
    rw[hc,Bool.false_or] at this
    exact this
   ·exact h.1 z hz
theorem TL:∀l:List α,(MN le l).Pairwise fun a b=>le a b=true
 |[]=>List.Pairwise.nil
 |x::r=>WF tr tot x _ (TL r)
theorem Zq {l:List α} (anti:∀a b,a∈l→b∈l→le a b=true→le b a=true→a=b):l.mergeSort le=MN le l:=
 List.Perm.eq_of_pairwise (fun a b ha hb=>anti a b ((List.mergeSort_perm l le).mem_iff.1 ha) ((MO le l).mem_iff.1 hb)) (List.pairwise_mergeSort tr tot l) (TL tr tot l) ((List.mergeSort_perm l le).trans (MO le l).symm)
end
def leN (x y:CtN):Bool:= !decide (y.1<x.1∨y.1=x.1∧y.2.1<x.2.1)
def leP (x y:Int×Int):Bool:= !decide (y.1<x.1∨y.1=x.1∧y.2<x.2)
theorem Pc {x y:CtN}:leN x y=true↔x.1<y.1∨x.1=y.1∧x.2.1≤y.2.1:=by
 unfold leN;rw[Bool.not_eq_true',decide_eq_false_iff_not];omega
theorem Q4 {x y:Int×Int}:leP x y=true↔x.1<y.1∨x.1=y.1∧x.2≤y.2:=by
 unfold leP;rw[Bool.not_eq_true',decide_eq_false_iff_not];omega
theorem jG (a b c:CtN) (h1:leN a b=true) (h2:leN b c=true):leN a c=true:=by rw[Pc] at*;omega
theorem jH (a b c:Int×Int) (h1:leP a b=true) (h2:leP b c=true):leP a c=true:=by rw[Q4] at*;omega
theorem bX (a b:CtN):(leN a b||leN b a)=true:=by rw[Bool.or_eq_true,Pc,Pc];omega
theorem bY (a b:Int×Int):(leP a b||leP b a)=true:=by rw[Bool.or_eq_true,Q4,Q4];omega
theorem bZ {l:List CtN} (h:(l.map fun c=>(c.1,c.2.1)).Nodup) {a b:CtN} (ha:a∈l) (hb:b∈l) (e1:a.1=b.1) (e2:a.2.1=b.2.1):a=b:=by
 induction l with
 |nil=>cases ha
 |cons x r ih=>
  rw[List.map_cons,List.nodup_cons] at h
  rcases List.mem_cons.1 ha with e|ka<;>rcases List.mem_cons.1 hb with f|kb
  ·rw[e,f]
  ·exact absurd (List.mem_map.2 ⟨b,kb,by rw[←e,e1,e2]⟩) h.1
  ·exact absurd (List.mem_map.2 ⟨a,ka,by rw[←f,e1,e2]⟩) h.1
  ·exact ih h.2 ka kb
theorem cC {l:List CtN} (h:(l.map fun c=>(c.1,c.2.1)).Nodup):N4 l=MN leN l:=
 Zq jG bX fun a b ha hb h1 h2=>bZ h ha hb (by rw[Pc] at h1 h2;omega) (by rw[Pc] at h1 h2;omega)
theorem cD (l:List (Int×Int)):L5 l=MN leP l:=
 Zq jH bY fun a b ha hb h1 h2=>by rw[Q4] at h1 h2;exact Prod.ext (by omega) (by omega)
theorem bnd {α β:Type} {o:Option α} {f g:α→Option β} (h:∀a,f a=g a):o.bind f=o.bind g:=by rw[funext h]
theorem U2 {α:Type} {p:Prop} [Decidable p] {k k':Option α} (h:p→k=k'):gd p k=gd p k':=by
 unfold gd
 split
 ·rename_i c;exact h c
 ·rfl
theorem SY:Dr=fun N f=>
  (D0 N f N 0 []).bind fun l64=>
  gd (f.length≤1000000000)<|
  (Dj N (DC f) l64).bind fun l116=>
  gd ((l116.length:Int)<4611686018427387904)<|
  gd ((l116.map fun c=>(c.1,c.2.1)).Nodup)<|
  some (MN leN l116):=by
 funext N f
 exact bnd fun _=>U2 fun _=>bnd fun l=>U2 fun _=>U2 fun h=>by rw[cC h]
theorem YF:L5=MN leP:=funext cD
set_option maxRecDepth 100000 in
theorem jI:Cy 2000=some true:=by
 unfold Cy Bi Co CA
 rw[SY,YF]
 decide+kernel
end Go.Proofs.YtciphecegkfaiaaGreat.Am
