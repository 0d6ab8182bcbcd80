import Derived.Test.YtciphecegkfaiaaGreatF9
import Derived.Test.YtciphecegkfaiaaGreatR6
import Derived.Test.YtciphecegkfaiaaGreatF4
import Derived.Test.YtciphecegkfaiaaGreatDC
import Derived.Test.YtciphecegkfaiaaGreatN4
namespace Go.Proofs.YtciphecegkfaiaaGreat.Am
open Go
attribute [local irreducible] awp B5 BR Bx B3 Bw Bn BS B1 itK
set_option maxRecDepth 100000
set_option maxHeartbeats 8000000
set_option linter.unusedSimpArgs false
set_option linter.unusedVariables false
attribute [local go_sem] Q5 Q6
def Cy (N:Nat):Option Bool:=
 (GM N).bind fun r1=>
 (Cn N r1 1).bind fun(r3,r4)=>
 (Cn N r3 2).bind fun(r6,r7)=>
 (Cn N r6 2).bind fun(r9,fj)=>
 (nth r1 0).bind fun(x12,x13,x14,x15,x16,x17)=>
 (EM N r3 x12 x13 x14 x15 x16 x17).bind fun(am,fh)=>
 (EM N r1 x12 x13 x14 x15 x16 x17).bind fun(gc,fg)=>
 (El N r1 7).bind fun((fb,e9,e8,ez,eu,em),ej)=>
 (El N r1 5).bind fun((fy,fx,fr,r36,fq,fp),ei)=>
 (Ge N r1).bind fun(ak,eh)=>
 (Fp N ak).bind fun(av,d9)=>
 (Ic N r1 1 0).bind fun(r47,d8)=>
 gd ((ak++[120]).length≤140737488355328)<|
 (Fp N (ak++[120])).bind fun(fo,d7)=>
 bif (((((((((((decide (r4≠0))||(decide (r7≠0)))||(decide (fj≠120)))||(decide (fh≠0)))||(decide (fg≠120)))||(!ej))||ei)||(decide (eh≠0)))||(decide (d9≠0)))||(decide (d8≠0)))||(decide (d7≠120)))||(decide ((r47.length:Int)≠4)) then(
  some false)
 else(
  (Bi N r1).bind fun d6=>
  (Av N 0 0).bind fun(d5,dz)=>
  (Av N 4 0).bind fun(dw,r59)=>
  (Av N 4 4).bind fun(r61,du)=>
  (Av N 0 4).bind fun(dt,dq)=>
  (Av N 8 0).bind fun(r67,dp)=>
  (Av N 12 0).bind fun(dm,dl)=>
  (Av N 12 4).bind fun(dh,dg)=>
  (Av N 8 4).bind fun(de,db)=>
  (Bj N d6 [(1,(-1),((d5,dz),(dw,r59)),0,2),(1,3,((r61,du),(dt,dq)),0,2),(2,(-1),((r67,dp),(dm,dl)),0,2),(2,3,((dh,dg),(de,db)),0,2)]).bind fun aj=>
  (Co N r1).bind fun cz=>
  (Cq N cz [(1,(-1)),(2,(-1)),(3,1),(3,2)]).bind fun au=>
  gd (au=true→((Dv CA N r1).isSome=true))<|
  gd (au=true)<|
  (Ce N ((Dv CA N r1).getD []) [[1,2,3],[7]]).bind fun ai=>
  (CE CA N r1).bind fun cy=>
  (C8 N cy [7]).bind fun aq=>
  gd (aq=true→((CE CA N r3).isSome=true))<|
  gd (aq=true)<|
  (C8 N ((CE CA N r3).getD []) [7]).bind fun an=>
  gd (an=true→((CE CA N r6).isSome=true))<|
  gd (an=true)<|
  (C8 N ((CE CA N r6).getD []) [3,7]).bind fun ah=>
  gd (((aj&&ai)&&ah)=true→((AD N am r1).isSome=true))<|
  gd ((((aj&&ai)&&ah)&&((AD N am r1).getD false))=true→((AD N av r1).isSome=true))<|
  gd (((((aj&&ai)&&ah)&&((AD N am r1).getD false))&&((AD N av r1).getD false))=true)<|
  (nth r1 3).bind fun(x95,x96,x97,x98,x99,x100)=>
  (Ep N fb e9 e8 ez eu em x95 x96 x97 x98 x99 x100).bind fun aa=>
  gd (aa=true→((Bk N r1).isSome=true))<|
  gd ((aa&&(decide ((Bk N r1).getD 0=256)))=true→((AT N r1).isSome=true))<|
  gd (((aa&&(decide ((Bk N r1).getD 0=256)))&&((AT N r1).getD false))=true)<|
  (AT N [(0,0,0,[],0,0)]).bind fun r104=>
  some (!r104))
@[go_sem] def s11 (N:Nat):Spec:=p0<|pE<|pF (Cy N) false fun r=> .b r
theorem Nb (N:Nat):FOK Tryz.prog 11 (s11 N):=by
 refine Al x11.ok<|Ah<|An fun r h=>wx x11 (Aa (lW N)<|Aa (UH N)<|Aa (UG N)<|Aa (QX N)<|Aa (Y9 N)<|Aa (Za N)<|Aa (Y7 N)<|Aa (Q7 N)<|Aa (QW N)<|Aa (UB N)<|Aa (Q8 N)<|Aa (UC N)<|Aa (PV N)<|Aa (Y6 N)<|Aa (PU N)<|Aa (UD N)<|Aa (UA N)<|Aa (Y4 N)<|Aa (UE N)<|Aa (G5 N)<|Aj) fun _ hS F=> ?_
 dsimp only[x11,mkX,CZ]
 unfold Cy at h
 obtain⟨r1,gu,⟨r3,r4⟩,gt,h⟩:=un h
 obtain⟨⟨r6,r7⟩,gr,h⟩:=un h
 obtain⟨⟨r9,fj⟩,cr,h⟩:=un h
 obtain⟨⟨x12,x13,x14,x15,x16,x17⟩,cu,h⟩:=un h
 obtain⟨gw,F⟩:=rqN 0 Ai cu (fc cr (fc gr (fc gt (fc gu F))))
 obtain⟨⟨am,fh⟩,cq,h⟩:=un h
 obtain⟨⟨gc,fg⟩,co,h⟩:=un h
 obtain⟨⟨⟨fb,e9,e8,ez,eu,em⟩,ej⟩,cn,h⟩:=un h
 obtain⟨⟨⟨fy,fx,fr,r36,fq,fp⟩,ei⟩,ck,h⟩:=un h
 obtain⟨⟨ak,eh⟩,cj,h⟩:=un h
 obtain⟨⟨av,d9⟩,ci,h⟩:=un h
 obtain⟨⟨r47,d8⟩,ce,h⟩:=un h
 obtain⟨ib,⟨fo,d7⟩,b9,h⟩:=un h
 replace F:=fc b9 (fc ce (fc ci (fc cj (fc ck (fc cn (fc co (fc cq F)))))))
 refine gcb hS F h (fun _ h=> ?_) (fun _ h=> ?_)
 ·exact Ad hS F h
 ·obtain⟨d6,bz,⟨d5,dz⟩,bw,h⟩:=un h
  obtain⟨⟨dw,r59⟩,bv,h⟩:=un h
  obtain⟨⟨r61,du⟩,bu,h⟩:=un h
  obtain⟨⟨dt,dq⟩,br,h⟩:=un h
  obtain⟨⟨r67,dp⟩,bq,h⟩:=un h
  obtain⟨⟨dm,dl⟩,bp,h⟩:=un h
  obtain⟨⟨dh,dg⟩,bo,h⟩:=un h
  obtain⟨⟨de,db⟩,bm,h⟩:=un h
  obtain⟨aj,bj,cz,bi,au,bh,g9,gh,ai,bg,cy,be,aq,bb,g8,gg,an,ba,gz,gf,ah,az,gy,gx,ay,⟨x95,x96,x97,x98,x99,x100⟩,af,h⟩:=un h
  obtain⟨fm,F⟩:=rqN 3 Ai af (fc ay (fc az (fc gf (fc ba (fc gg (fc bb (fc be (fc bg (fc gh (fc bh (fc bi (fc bj (fc bm (fc bo (fc bp (fc bq (fc br (fc bu (fc bv (fc bw (fc bz F)))))))))))))))))))))
  obtain⟨aa,ae,gj,gi,aw,r104,ab,h⟩:=un h
  exact Ad hS (fc ab (fc aw (fc ae F))) h
end Go.Proofs.YtciphecegkfaiaaGreat.Am
namespace Go.Proofs.YtciphecegkfaiaaGreat.Am
open Go
attribute [local irreducible] awp B5 BR Bx B3 Bw Bn BS B1 itK
set_option maxRecDepth 100000
set_option maxHeartbeats 8000000
set_option linter.unusedSimpArgs false
set_option linter.unusedVariables false
def B4 (N:Nat) (r36:List (Int×Int×Int×(List (Int×Int))×Int×Int)) (aj:Int) (am:Int) (ak:Int):Nat→Int→Int→Int→Option (Int×Int)
 |0,_,_,_=>none
 |n+1,af,aa,ai=>
  bif decide (ai<(r36.length:Int)) then(
   (nth r36 ai).bind fun(x69,x70,x71,x72,x73,x74)=>
   (BA N x69 x70 x71 x72 x73 x74).bind fun bv=>
   bif ((!bv)||(decide (aj<x73)))||(decide (x74≤aj)) then(
    gd (I64 (ai+1))<|
    B4 N r36 aj am ak n af aa (ai+1))
   else(
    (GK N x72 am ak).bind fun bu=>
    (bif decide (bu=1) then(
      gd (I64 (af+1))<|
      some (af+1))
     else(
      some af):Option (Int)).bind fun an=>
    (HC N x72 am ak).bind fun br=>
    bif decide (br=1) then(
     gd (I64 (aa+1))<|
     gd (I64 (ai+1))<|
     B4 N r36 aj am ak n an (aa+1) (ai+1))
    else(
     gd (I64 (ai+1))<|
     B4 N r36 aj am ak n an aa (ai+1))))
  else(
   some (af,aa))
def EU (N:Nat) (x30:List (Int×Int×Int×Int×Int×Int)) (av:Int) (au:Int) (ae:Int):Option Bool:=
 (Cy N).bind fun b9=>
 bif !b9 then(
  some false)
 else(
  (Cx N x30).bind fun r36=>
  (BB N av 41).bind fun bz=>
  (BB N au 41).bind fun bw=>
  (Av N bz bw).bind fun(am,ak)=>
  (BB N ae 8).bind fun aj=>
  (B4 N r36 aj am ak N 0 0 0).bind fun(ay,ah)=>
  (AT N r36).bind fun bq=>
  some ((bq&&(decide (ay≤1)))&&(decide (ah≤1))))
theorem JE (N:Nat) (x30:List (Int×Int×Int×Int×Int×Int)) (av:Int) (au:Int) (ae:Int) (r:Bool) (h:EU N x30 av au ae=some r):PCall Tryz.prog 9 [G8 x30,.i av,.i au,.i ae] (.b r):=by
 refine wx x9 (Aa (Nb N)<|Aa (M8 N)<|Aa (M7 N)<|Aa (QW N)<|Aa (JQ N)<|Aa (lH N)<|Aa (lJ N)<|Aa (G5 N)<|Aj) fun _ hS F=> ?_
 dsimp only[x9,mkX]
 unfold EU at h
 obtain⟨b9,bo,h⟩:=un h
 replace F:=fc bo F
 refine gcb hS F h (fun _ h=> ?_) (fun _ h=> ?_)
 ·exact Ad hS F h
 ·obtain⟨r36,bm,bz,bj,bw,bi,⟨am,ak⟩,bh,h⟩:=un h
  obtain⟨aj,bg,h⟩:=un h
  replace F:=fc bg (fc bh (fc bi (fc bj (fc bm F))))
  obtain⟨ci,cn,h⟩:=un h
  refine go hS F ?_
  refine Au ci (fun z:Int×Int×Nat=>⟨[(10,.box (402,4) 0),(13,.i z.1),(14,.i z.2.1)],[(.c (402,4) 0,Af r36)],z.2.2⟩) (fun z=>((z.1,z.2.1):Int×Int)) (.x 0) ?_ ?_
  ·refine Aq (fun n (y:Int×Int×Int×Nat)=>B4 N r36 aj am ak n y.1 y.2.1 y.2.2.1) (fun y=>⟨[(10,.box (402,4) 0),(11,.box (505,5) 0),(12,.i aj),(13,.i y.1),(14,.i y.2.1),(15,.i y.2.2.1)],[(.c (505,5) 0,.i am),(.c (505,5) 1,.i ak),(.c (402,4) 0,Af r36)],y.2.2.2⟩) (0,0,0,9) cn (leF F) ?_
   rintro n ⟨af,aa,ai,aq⟩ ab
   simp only[B4] at ab
   refine gcb hS F ab (fun _ ab=> ?_) (fun _ ab=> ?_)
   ·obtain⟨⟨x69,x70,x71,x72,x73,x74⟩,bp,ab⟩:=un ab
    obtain⟨ck,F⟩:=rqG Ai bp F
    obtain⟨bv,be,ab⟩:=un ab
    replace F:=fc be F
    refine gcb hS F ab (fun _ ab=> ?_) (fun _ ab=> ?_)
    ·obtain⟨cy,ab⟩:=un ab
     exact gbk hS F (n,af,aa,ai+1,aq+1+1+1+1) ab
    ·obtain⟨bu,bb,ab⟩:=un ab
     replace F:=fc bb F
     obtain⟨cj,aw,ab⟩:=un ab
     refine go hS F ?_
     refine Au cj (fun z:Int×Nat=>⟨[(10,.box (402,4) 0),(11,.box (505,5) 0),(12,.i aj),(13,.i z.1),(14,.i aa),(15,.i ai),(16,.box (1205,aq+1+1) 0)],[(.c (1205,aq+1+1) 0,.i x69),(.c (1205,aq+1+1) 1,.i x70),(.c (1205,aq+1+1) 2,.i x71),(.c (1205,aq+1+1) 3,A1 x72),(.c (1205,aq+1+1) 4,.i x73),(.c (1205,aq+1+1) 5,.i x74),(.c (505,5) 0,.i am),(.c (505,5) 1,.i ak),(.c (402,4) 0,Af r36)],z.2⟩) (fun z=>(z.1:Int)) .n ?_ ?_
     ·refine gcb hS F aw (fun _ aw=> ?_) (fun _ aw=> ?_)
      ·obtain⟨cu,aw⟩:=un aw
       exact gck hS F (af+1,aq+1+1+1+1+1) aw
      ·exact gck hS F (af,aq+1+1+1+1) aw
     ·rintro⟨an,ce⟩ rfl
      obtain⟨br,ba,ab⟩:=un ab
      replace F:=fc ba F
      refine gcb hS F ab (fun _ ab=> ?_) (fun _ ab=> ?_)
      ·obtain⟨cr,cq,ab⟩:=un ab
       exact gbk hS F (n,an,aa+1,ai+1,ce+1+1+1) ab
      ·obtain⟨co,ab⟩:=un ab
       exact gbk hS F (n,an,aa,ai+1,ce+1+1) ab
   ·exact gck hS F (af,aa,aq+1) ab
  ·rintro⟨ay,ah,cz⟩ rfl
   obtain⟨bq,az,h⟩:=un h
   exact Ad hS (fc az F) h
end Go.Proofs.YtciphecegkfaiaaGreat.Am
namespace Go.Proofs.YtciphecegkfaiaaGreat.Am
set_option linter.unusedVariables false
section
variable {α:Type} (le:α→α→Bool)
def NU (x:α):List α→List α
 |[]=>[x]
 |y::r=>bif le x y then x::y::r else y::NU x r
def MN:List α→List α
 |[]=>[]
 |x::r=>NU le x (MN r)
theorem NV (x:α):∀l:List α,(NU le x l).Perm (x::l)
 |[]=> .refl _
 |y::r=>by
  unfold NU
  cases le x y with
  |true=>exact .refl _
  |false=>exact((NV x r).cons y).trans (List.Perm.swap x y r)
theorem MO:∀l:List α,(MN le l).Perm l
 |[]=> .refl _
 |x::r=>(NV le x _).trans ((MO r).cons x)
variable {le} (tr:∀a b c,le a b=true→le b c=true→le a c=true) (tot:∀a b,(le a b||le b a)=true)
include tr tot
theorem WF (x:α):∀l:List α,l.Pairwise (fun a b=>le a b=true)→(NU le x l).Pairwise fun a b=>le a b=true
 |[],_=>by simp[NU]
 |y::r,h=>by
  unfold NU
  rw[List.pairwise_cons] at h
  cases hc:le x y with
  |true=>
   rw[cond_true,List.pairwise_cons,List.pairwise_cons]
   refine⟨fun z hz=> ?_,h⟩
   rcases List.mem_cons.1 hz with rfl|hz
   ·exact hc
   ·exact tr _ _ _ hc (h.1 z hz)
  |false=>
   rw[cond_false,List.pairwise_cons]
   refine⟨fun z hz=> ?_,WF x r h.2⟩
   rcases List.mem_cons.1 ((NV le x r).mem_iff.1 hz) with rfl|hz
   ·have:=tot z y
    rw[hc,Bool.false_or] at this
    exact this
   ·exact h.1 z hz
theorem TL:∀l:List α,(MN le l).Pairwise fun a b=>le a b=true
 |[]=>List.Pairwise.nil
 |x::r=>WF tr tot x _ (TL r)
theorem Zq {l:List α} (anti:∀a b,a∈l→b∈l→le a b=true→le b a=true→a=b):l.mergeSort le=MN le l:=
 List.Perm.eq_of_pairwise (fun a b ha hb=>anti a b ((List.mergeSort_perm l le).mem_iff.1 ha) ((MO le l).mem_iff.1 hb)) (List.pairwise_mergeSort tr tot l) (TL tr tot l) ((List.mergeSort_perm l le).trans (MO le l).symm)
end
def leN (x y:CtN):Bool:= !decide (y.1<x.1∨y.1=x.1∧y.2.1<x.2.1)
def leP (x y:Int×Int):Bool:= !decide (y.1<x.1∨y.1=x.1∧y.2<x.2)
theorem Pc {x y:CtN}:leN x y=true↔x.1<y.1∨x.1=y.1∧x.2.1≤y.2.1:=by
 unfold leN;rw[Bool.not_eq_true',decide_eq_false_iff_not];omega
theorem Q4 {x y:Int×Int}:leP x y=true↔x.1<y.1∨x.1=y.1∧x.2≤y.2:=by
 unfold leP;rw[Bool.not_eq_true',decide_eq_false_iff_not];omega
theorem jG (a b c:CtN) (h1:leN a b=true) (h2:leN b c=true):leN a c=true:=by rw[Pc] at*;omega
theorem jH (a b c:Int×Int) (h1:leP a b=true) (h2:leP b c=true):leP a c=true:=by rw[Q4] at*;omega
theorem bX (a b:CtN):(leN a b||leN b a)=true:=by rw[Bool.or_eq_true,Pc,Pc];omega
theorem bY (a b:Int×Int):(leP a b||leP b a)=true:=by rw[Bool.or_eq_true,Q4,Q4];omega
theorem bZ {l:List CtN} (h:(l.map fun c=>(c.1,c.2.1)).Nodup) {a b:CtN} (ha:a∈l) (hb:b∈l) (e1:a.1=b.1) (e2:a.2.1=b.2.1):a=b:=by
 induction l with
 |nil=>cases ha
 |cons x r ih=>
  rw[List.map_cons,List.nodup_cons] at h
  rcases List.mem_cons.1 ha with e|ka<;>rcases List.mem_cons.1 hb with f|kb
  ·rw[e,f]
  ·exact absurd (List.mem_map.2 ⟨b,kb,by rw[←e,e1,e2]⟩) h.1
  ·exact absurd (List.mem_map.2 ⟨a,ka,by rw[←f,e1,e2]⟩) h.1
  ·exact ih h.2 ka kb
theorem cC {l:List CtN} (h:(l.map fun c=>(c.1,c.2.1)).Nodup):N4 l=MN leN l:=
 Zq jG bX fun a b ha hb h1 h2=>bZ h ha hb (by rw[Pc] at h1 h2;omega) (by rw[Pc] at h1 h2;omega)
theorem cD (l:List (Int×Int)):L5 l=MN leP l:=
 Zq jH bY fun a b ha hb h1 h2=>by rw[Q4] at h1 h2;exact Prod.ext (by omega) (by omega)
theorem bnd {α β:Type} {o:Option α} {f g:α→Option β} (h:∀a,f a=g a):o.bind f=o.bind g:=by rw[funext h]
theorem U2 {α:Type} {p:Prop} [Decidable p] {k k':Option α} (h:p→k=k'):gd p k=gd p k':=by
 unfold gd
 split
 ·rename_i c;exact h c
 ·rfl
theorem SY:Dr=fun N f=>
  (D0 N f N 0 []).bind fun l64=>
  gd (f.length≤1000000000)<|
  (Dj N (DC f) l64).bind fun l116=>
  gd ((l116.length:Int)<4611686018427387904)<|
  gd ((l116.map fun c=>(c.1,c.2.1)).Nodup)<|
  some (MN leN l116):=by
 funext N f
 exact bnd fun _=>U2 fun _=>bnd fun l=>U2 fun _=>U2 fun h=>by rw[cC h]
theorem YF:L5=MN leP:=funext cD
set_option maxRecDepth 100000 in
theorem jI:Cy 2000=some true:=by
 unfold Cy Bi Co CA
 rw[SY,YF]
 decide+kernel
end Go.Proofs.YtciphecegkfaiaaGreat.Am
namespace Go.Proofs.YtciphecegkfaiaaGreat.Am
set_option linter.unusedSimpArgs false
set_option linter.unusedVariables false
set_option linter.unusedSectionVars false
theorem Qr (N:Nat) {p:Pt} (hp:Sml p):∀(es:List (Pt×Pt)) (m:Int),(∀e∈es,Sml e.1∧Sml e.2)→EJ N p.1 p.2 es m=some (H7 p es m)
 |[],m,_=>rfl
 |e::es,m,h=>by
  obtain⟨h1,h2⟩:=h e (by simp)
  obtain⟨⟨a1,a2⟩,⟨b1,b2⟩⟩:=e
  rw[EJ]
  have tu:=J1 (N:=N) (a:=(a1,a2)) (b:=(b1,b2)) h1 h2 hp
  simp only at tu
  rw[tu,bS]
  exact Qr N hp es _ fun e he=>h e (by simp[he])
theorem TJ (N:Nat) {l:List Pt} {p:Pt} (hl:l.length≤1000) (hs:∀p∈l,Sml p) (hp:Sml p):GJ N l p.1 p.2=some (sd l p):=by
 unfold GJ
 rw[Ab (by omega),Qr N hp _ _ (GV hs),bS,JT,bS]
 congr 1
 have h1:=Qi p (Bm l) 4611686018427387903
 have h2:=R4 p (Bm l) 4611686018427387903
 generalize H7 p (Bm l) 4611686018427387903=m at*
 have e1:0<m↔inn l p:=by
  rw[h1]
  constructor
  ·rintro⟨_,h⟩ i hi;exact h _ (Gg.2 ⟨i,hi,rfl⟩)
  ·intro h
   refine⟨by omega,fun e he=> ?_⟩
   obtain⟨i,hi,rfl⟩:=Gg.1 he
   exact h i hi
 have e2:0≤m↔clo l p:=by
  rw[h2]
  constructor
  ·rintro⟨_,h⟩ i hi;exact h _ (Gg.2 ⟨i,hi,rfl⟩)
  ·intro h
   refine⟨by omega,fun e he=> ?_⟩
   obtain⟨i,hi,rfl⟩:=Gg.1 he
   exact h i hi
 unfold sd
 rw[←e1,←e2]
 split
 ·rw[if_neg (by omega),if_neg (by omega)]
 ·split
  ·rfl
  ·rw[if_pos (by omega)]
theorem WE {N:Nat} (hN:100≤N) {l:List Pt} (h:VP l) (p:Pt):GK N l p.1 p.2=some (if On p then sd l p else-1):=by
 unfold GK
 rw[GP hN h,bS,NN,Ab (fun _=>Option.isSome_some),Option.getD_some]
 by_cases ho:On p
 ·rw[decide_eq_true ho,cF' _ (by rfl),TJ N (by have:=h.l8;omega) h.sml ho.sml,bS,if_pos ho]
 ·rw[decide_eq_false ho,cT' _ (by rfl),if_neg ho]
theorem Qs (N:Nat) {l:List Pt} (hl:l.length≤1000) (hs:∀p∈l,Sml p):∀(n i:Nat),i≤l.length→l.length<n+i→Fj N l n i ((l.take i).map dbl++l.drop i)=some (l.map dbl)
 |0,i,hi,hn=>by omega
 |n+1,i,hi,hn=>by
  rw[Fj]
  by_cases he:i=l.length
  ·subst he
   rw[dge,cF,List.drop_length,List.take_length,List.append_nil]
  have hi':i<l.length:=by omega
  have hp:=hs _ (AA hi')
  unfold Sml at hp
  have e1:nth ((l.take i).map dbl++l.drop i) (i:Int)=some ((pa l i).1,(pa l i).2):=by rw[K7 hi',LV hi']
  rw[dlt hi',cT,e1,bS]
  simp only
  rw[Ab (by unfold I64;omega),Int.toNat_natCast,R5 hi',LV hi',bS]
  simp only
  rw[Ab (by unfold I64;omega),Ab (by unfold I64;omega),Qj hi',←ns,show((pa l i).1*2,(pa l i).2*2)=dbl (pa l i) from rfl,R6 hi']
  exact Qs N hl hs n (i+1) (by omega) (by omega)
theorem bV {N:Nat} (hN:100≤N) {l:List Pt} (h:VP l) (p:Pt):HC N l p.1 p.2=some (if(0≤p.1∧p.1<40)∧0≤p.2∧p.2<40 then sd (l.map dbl) (2*p.1+1,2*p.2+1) else-1):=by
 unfold HC
 have l3:=h.l3
 have l8:=h.l8
 rw[GP hN h,bS]
 by_cases ho:(0≤p.1∧p.1<40)∧0≤p.2∧p.2<40
 ·rw[if_pos ho,cF' _ (by simp;omega),Ab (by rintro rfl;simp at l3),Ab (by omega)]
  have hc:=Qs N (by omega) h.sml N 0 (by omega) (by omega)
  rw[show((0:Nat):Int)=0 from rfl,List.drop_zero,List.take_zero,List.map_nil,List.nil_append] at hc
  rw[hc,bS,Ab (by unfold I64;omega),Ab (by unfold I64;omega),Ab (by unfold I64;omega),Ab (by unfold I64;omega)]
  have:=TJ N (l:=l.map dbl) (p:=(2*p.1+1,2*p.2+1)) (by simp;omega) (fun q hq=>by
   obtain⟨r,hr,rfl⟩:=List.mem_map.1 hq
   have:=h.on r hr
   unfold On at this
   unfold Sml dbl;omega) (by unfold Sml;omega)
  simp only at this
  rw[this,bS]
 ·rw[if_neg ho,cT' _ (by simp;omega)]
def Cnt (P:Nat→Prop) (i:Nat) (c:Int):Prop:=(c=0∧∀j,j<i→¬P j)∨(c=1∧∃j,j<i∧P j)
theorem Cnt.yes {P:Nat→Prop} {i:Nat} {c:Int} (h:Cnt P i c) (u:∀j,j<i→P j→¬P i) (hp:P i):Cnt P (i+1) (c+1):=by
 rcases h with⟨rfl,h⟩|⟨rfl,j,hj,h⟩
 ·exact .inr ⟨rfl,i,by omega,hp⟩
 ·exact absurd hp (u j hj h)
theorem Cnt.no {P:Nat→Prop} {i:Nat} {c:Int} (h:Cnt P i c) (hp:¬P i):Cnt P (i+1) c:=by
 rcases h with⟨rfl,h⟩|⟨rfl,j,hj,h⟩
 ·refine .inl ⟨rfl,fun j hj=> ?_⟩
  by_cases e:j=i
  ·rw[e];exact hp
  ·exact h j (by omega)
 ·exact .inr ⟨rfl,j,by omega,h⟩
theorem Cnt.le {P:Nat→Prop} {i:Nat} {c:Int} (h:Cnt P i c):0≤c∧c≤1:=by
 rcases h with⟨rfl,h⟩|⟨rfl,j,hj,h⟩<;>omega
theorem Cnt.zero (P:Nat→Prop):Cnt P 0 0:= .inl ⟨rfl,fun j hj=>by omega⟩
def atD (u:Un) (z:Int):Prop:=u.2.2.2.2.1≤z∧z<u.2.2.2.2.2
theorem YE {f:List Un} (h:FV f) {i k:Nat} (hik:i<k) (hk:k<f.length) {z:Int} (h1:atD (uat f i) z) (h2:atD (uat f k) z):apart (uat f i).2.2.2.1 (uat f k).2.2.2.1:=by
 have hd:=H9.1 h.dis i k hik hk
 have u1:=h.val _ (FO (f:=f) (k:=i) (by omega))
 have u2:=h.val _ (FO hk)
 unfold atD at h1 h2
 by_cases c:apart (uat f i).2.2.2.1 (uat f k).2.2.2.1
 ·exact c
 ·have:ovB (uat f i) (uat f k)=true:=UX.2 ⟨⟨by omega,u1,u2⟩,c⟩
  rw[hd] at this
  cases this
theorem Pb {N:Nat} (hN:1001≤N) {f:List Un} (hf:FV f) (z:Int) (p:Pt):∀n i c d,i≤f.length→f.length<n+i→
  Cnt (fun j=>atD (uat f j) z∧On p∧sd (uat f j).2.2.2.1 p=1) i c→Cnt (fun j=>atD (uat f j) z∧((0≤p.1∧p.1<40)∧0≤p.2∧p.2<40)∧sd ((uat f j).2.2.2.1.map dbl) (2*p.1+1,2*p.2+1)=1) i d→
  ∃c' d',B4 N f z p.1 p.2 n c d i=some (c',d')∧c'≤1∧d'≤1
 |0,i,c,d,h1,h2,_,_=>by omega
 |n+1,i,c,d,h1,h2,hc,hd=>by
  have hl:=hf.len
  have bc:=hc.le
  have bd:=hd.le
  rw[B4]
  by_cases e:i=f.length
  ·subst e
   rw[dge,cF]
   exact⟨c,d,rfl,by omega,by omega⟩
  ·have hi:i<f.length:=by omega
   have u:=hf.val _ (FO hi)
   rw[dlt hi,cT,GC hi,bS]
   simp only
   rw[UY hN,bS,Pa.2 u]
   by_cases ha:atD (uat f i) z
   ·have ha':=ha
    unfold atD at ha'
    have l3:=u.l.l3
    have dis:∀j,j<i→atD (uat f j) z→apart (uat f j).2.2.2.1 (uat f i).2.2.2.1:=fun j hj hz=>YE hf hj hi hz ha
    have pos:∀j,j<i→0<(uat f j).2.2.2.1.length:=fun j hj=>by
     have:=(hf.val _ (FO (f:=f) (k:=j) (by omega))).l.l3
     omega
    have e1:=WE (N:=N) (by omega) u.l p
    have e2:=bV (N:=N) (by omega) u.l p
    rw[cF' _ (by rw[decide_eq_false (by omega),decide_eq_false (by omega)];rfl),e1,bS]
    have key:∃c',(bif decide ((if On p then sd (uat f i).2.2.2.1 p else-1)=1) then gd (I64 (c+1)) (some (c+1)) else some c)=some c'∧Cnt (fun j=>atD (uat f j) z∧On p∧sd (uat f j).2.2.2.1 p=1) (i+1) c':=by
     by_cases q:On p∧sd (uat f i).2.2.2.1 p=1
     ·rw[if_pos q.1,q.2,cT' _ (by rfl),Ab (by unfold I64;omega)]
      refine⟨_,rfl,hc.yes (fun j hj hp hq=> ?_) ⟨ha,q⟩⟩
      exact Ql (pos j hj) (by omega) (dis j hj hp.1) (PM.1 hp.2.2) (PM.1 q.2)
     ·have nq:¬(if On p then sd (uat f i).2.2.2.1 p else-1)=1:=by
       split
       ·rename_i g;exact fun h=>q ⟨g,h⟩
       ·omega
      rw[cF' _ (decide_eq_false nq)]
      exact⟨_,rfl,hc.no fun h=>q h.2⟩
    obtain⟨c',k1,k2⟩:=key
    rw[k1,bS,e2,bS]
    by_cases q:((0≤p.1∧p.1<40)∧0≤p.2∧p.2<40)∧sd ((uat f i).2.2.2.1.map dbl) (2*p.1+1,2*p.2+1)=1
    ·rw[if_pos q.1,q.2,cT' _ (by rfl),Ab (by unfold I64;omega),Ab (by unfold I64;omega),←ns]
     refine Pb hN hf z p n (i+1) _ _ (by omega) (by omega) k2 (hd.yes (fun j hj hp hq=> ?_) ⟨ha,q⟩)
     exact Ql (by rw[List.length_map];exact pos j hj) (by rw[List.length_map];omega) (Wh (dis j hj hp.1)) (PM.1 hp.2.2) (PM.1 q.2)
    ·have nq:¬(if(0≤p.1∧p.1<40)∧0≤p.2∧p.2<40 then sd ((uat f i).2.2.2.1.map dbl) (2*p.1+1,2*p.2+1) else-1)=1:=by
      split
      ·rename_i g;exact fun h=>q ⟨g,h⟩
      ·omega
     rw[cF' _ (decide_eq_false nq),Ab (by unfold I64;omega),←ns]
     exact Pb hN hf z p n (i+1) _ _ (by omega) (by omega) k2 (hd.no fun h=>q h.2)
   ·have ha':=ha
    unfold atD at ha'
    rw[cT' _ (by rw[Bool.or_eq_true,Bool.or_eq_true,decide_eq_true_eq,decide_eq_true_eq];omega),Ab (by unfold I64;omega),←ns]
    exact Pb hN hf z p n (i+1) _ _ (by omega) (by omega) (hc.no fun h=>ha h.1) (hd.no fun h=>ha h.1)
theorem bW (x:List (Int×Int×Int×Int×Int×Int)) (px py depth:Int) (hx:I6 x) (h1:I64 px) (h2:I64 py) (h3:I64 depth):EU 2000 x px py depth=some true:=by
 unfold EU
 obtain⟨f,hf,fv⟩:=WD (N:=2000) (by omega) hx
 obtain⟨c,d,e,hc,hd⟩:=Pb (N:=2000) (by omega) fv (pk depth 8) (pk px 41,pk py 41) 2000 0 0 0 (by omega) (by have:=fv.len;omega) (Cnt.zero _) (Cnt.zero _)
 simp only at e
 rw[Int.natCast_zero] at e
 rw[jI,bS,cF' _ (by rfl),hf,bS,lpk h1 (by omega),bS,lpk h2 (by omega),bS,show Av 2000 (pk px 41) (pk py 41)=some (pk px 41,pk py 41) from rfl,bS]
 simp only
 rw[lpk h3 (by omega),bS,e,bS]
 simp only
 rw[UZ (by omega),bS,decide_eq_true fv,decide_eq_true hc,decide_eq_true hd]
 rfl
end Go.Proofs.YtciphecegkfaiaaGreat.Am
