import Derived.Test.YtciphecegkfaiaaGreatDR
namespace Go.Proofs.YtciphecegkfaiaaGreat.Am
open Go
attribute [local irreducible] awp B5 BR Bx B3 Bw Bn BS B1 itK
set_option maxRecDepth 100000
set_option maxHeartbeats 8000000
set_option linter.unusedSimpArgs false
set_option linter.unusedVariables false
def wS (x:List (Int×Int)):List AV:=[A1 x]
def xX:List AV→List (Int×Int)
 |[.sl _ _ a1 _]=>(a1.map KV)
 |_=>[]
theorem Abo (x:List (Int×Int)):xX (wS x)=x:=by simp only[wS,xX,A1,LQ]
theorem Abp (R:List (List (Int×Int))):(R.map wS).map xX=R:=by
 induction R with
 |nil=>rfl
 |cons r R ih=>rw[List.map_cons,List.map_cons,ih,Abo]
def Aai:Rw (List (Int×Int)):=⟨1,wS,xX,[.sl 0 true [] []]⟩
def xK (l:List (List (Int×Int))):AV:= .sl 1 false (l.map wS) [.sl 0 true [] []]
def Aby (l:List (List (Int×Int))):AV:= .sl 1 true (l.map wS) [.sl 0 true [] []]
attribute [go_sem] Aai xK Aby wS xX Abp
def vZ (N:Nat) (slices1:List (List (Int×Int))):Nat→Int→Int→Option Int
 |0,_,_=>none
 |n+1,ae,x7=>
  bif decide (x7<(slices1.length:Int)) then(
   (nth slices1 x7).bind fun x8=>
   gd (I64 (ae+(x8.length:Int)))<|
   gd ((decide (ae+(x8.length:Int)<0))=false)<|
   gd (I64 (x7+1))<|
   vZ N slices1 n (ae+(x8.length:Int)) (x7+1))
  else(
   some ae)
def wA (N:Nat) (slices1:List (List (Int×Int))):Nat→Int→(List (Int×Int))→Option ((List (Int×Int)))
 |0,_,_=>none
 |n+1,x34,l35=>
  bif decide (x34<(slices1.length:Int)) then(
   (nth slices1 x34).bind fun x36=>
   gd ((l35.length+x36.length)*16≤140737488355328)<|
   gd (I64 (x34+1))<|
   wA N slices1 n (x34+1) (l35++x36))
  else(
   some l35)
def wE (N:Nat) (slices1:List (List (Int×Int))):Nat→Int→(List (Int×Int))→Option ((List (Int×Int)))
 |0,_,_=>none
 |n+1,x52,l53=>
  bif decide (x52<(slices1.length:Int)) then(
   (nth slices1 x52).bind fun x54=>
   gd ((l53.length+x54.length)*16≤140737488355328)<|
   gd (I64 (x52+1))<|
   wE N slices1 n (x52+1) (l53++x54))
  else(
   some l53)
def wC (N:Nat) (slices1:List (List (Int×Int))):Option (List (Int×Int)):=
 (vZ N slices1 N 0 0).bind fun aa=>
 gd ((decide (aa<0))=false)<|
 gd (I64 (aa-0))<|
 bif decide (0<aa-0) then(
  gd (0≤0∧0≤0∧0≤0)<|
  gd (0<aa-0)<|
  gd ((aa-0)*16≤140737488355328)<|
  (wA N slices1 N 0 []).bind fun l42=>
  some l42)
 else(
  (wE N slices1 N 0 []).bind fun au=>
  some au)
@[go_sem] def AbD (N:Nat):Spec:=p0<|pD Aai fun slices1=>pE<|pF (wC N slices1) [] fun r=>A1 r
theorem Abq (N:Nat):FOK Tryz.prog 102 (AbD N):=by
 refine Al x102.ok<|CQ fun slices1=>Ah<|An fun r h=>wx x102 (rN<|Aj) fun _ hS F=> ?_
 dsimp only[x102,mkX,Aai]
 unfold wC at h
 obtain⟨bb,bw,h⟩:=un h
 refine go hS F ?_
 refine Au bb (fun z:Int×Nat=>⟨[(0,xK slices1),(3,.i z.1)],[],z.2⟩) (fun z=>(z.1:Int)) (.x 0) ?_ ?_
 ·refine Aq (fun n (y:Int×Int×Nat)=>vZ N slices1 n y.1 y.2.1) (fun y=>⟨[(0,xK slices1),(3,.i y.1),(9,xK slices1),(10,.i (slices1.length:Int)),(11,.i y.2.1)],[],y.2.2⟩) (0,0,3) bw (leF F) ?_
  rintro n ⟨ae,x7,c5⟩ ai
  simp only[vZ] at ai
  refine gcb hS F ai (fun _ ai=> ?_) (fun _ ai=> ?_)
  ·obtain⟨x8,br,ce,bg,ai⟩:=un ai
   obtain⟨co,F⟩:=rqG wS br F
   refine go hS F ?_
   refine cb F (decide (ae+(x8.length:Int)<0)) (fun hc5=> ?_) (fun hc5=> ?_)
   ·exact Bool.noConfusion (hc5.symm.trans bg)
   obtain⟨b9,ai⟩:=un ai
   exact gbk hS F (n,ae+(x8.length:Int),x7+1,c5+1+1+1+1+1) ai
  ·exact gck hS F (ae,c5+1) ai
 ·rintro⟨aa,aj⟩ rfl
  refine go hS F ?_
  refine Df hS 1 x139.hf x139.hc x139.hn x139.ok rfl (ev F) (ev F) ?_ rfl (ev F) (Nat.le_of_ble_eq_true rfl) fun hb=> ?_
  ·exact goc hS F
  dsimp only[x139,mkX]
  obtain⟨be,h⟩:=un h
  refine go hS F ?_
  refine cb F (decide (aa<0)) (fun hc8=> ?_) (fun hc8=> ?_)
  ·exact Bool.noConfusion (hc8.symm.trans be)
  obtain⟨bz,h⟩:=un h
  refine gcb hS F h (fun _ h=> ?_) (fun _ h=> ?_)
  ·obtain⟨bq,bp,bo,h⟩:=un h
   obtain⟨az,aq,h⟩:=un h
   refine go hS F ?_
   refine Au az (fun z:(List (Int×Int))×Nat=>⟨[(6,.own (508,aj+1+1+1+1+1+1) z.1.length)],[(.a (508,aj+1+1+1+1+1+1),Gw z.1)],z.2⟩) (fun z=>(z.1:(List (Int×Int)))) (.x 2) ?_ ?_
   ·refine Aq (fun n (y:Int×(List (Int×Int))×Nat)=>wA N slices1 n y.1 y.2.1) (fun y=>⟨[(6,.own (508,aj+1+1+1+1+1+1) y.2.1.length),(25,xK slices1),(26,.i (slices1.length:Int)),(27,.i y.1)],[(.a (508,aj+1+1+1+1+1+1),Gw y.2.1)],y.2.2⟩) (0,[],aj+1+1+1+1+1+1+1+1+1) aq (leF F) ?_
    rintro n ⟨x34,l35,aw⟩ ah
    simp only[wA] at ah
    refine gcb hS F ah (fun _ ah=> ?_) (fun _ ah=> ?_)
    ·obtain⟨x36,am,bm,bj,ah⟩:=un ah
     obtain⟨bv,F⟩:=rqG wS am F
     exact gbk hS F (n,x34+1,l35++x36,aw+1+1+1+1) ah
    ·exact gck hS F (l35,aw+1) ah
   ·rintro⟨l42,cr⟩ rfl
    exact Ad hS F h
  ·refine go hS F ?_
   refine Cb 1000001 6 2 [.i 0,.i 0] (by show(6:Nat)<36;omega) (by omega) (ev F) ?_
   obtain⟨ay,an,h⟩:=un h
   refine go hS F ?_
   refine Au ay (fun z:(List (Int×Int))×Nat=>⟨[(6,.own (1000001,aj+1+1+1+1+1+1+1+1+1) z.1.length)],[(.a (1000001,aj+1+1+1+1+1+1+1+1+1),Gw z.1)],z.2⟩) (fun z=>(z.1:(List (Int×Int)))) (.x 2) ?_ ?_
   ·refine Aq (fun n (y:Int×(List (Int×Int))×Nat)=>wE N slices1 n y.1 y.2.1) (fun y=>⟨[(6,.own (1000001,aj+1+1+1+1+1+1+1+1+1) y.2.1.length),(25,xK slices1),(26,.i (slices1.length:Int)),(27,.i y.1)],[(.a (1000001,aj+1+1+1+1+1+1+1+1+1),Gw y.2.1)],y.2.2⟩) (0,[],aj+1+1+1+1+1+1+1+1+1) an (leF F) ?_
    rintro n ⟨x52,l53,av⟩ af
    simp only[wE] at af
    refine gcb hS F af (fun _ af=> ?_) (fun _ af=> ?_)
    ·obtain⟨x54,ak,bi,bh,af⟩:=un af
     obtain⟨bu,F⟩:=rqG wS ak F
     exact gbk hS F (n,x52+1,l53++x54,av+1+1+1+1) af
    ·exact gck hS F (l53,av+1) af
   ·rintro⟨au,cq⟩ rfl
    exact Ad hS F h
end Go.Proofs.YtciphecegkfaiaaGreat.Am
