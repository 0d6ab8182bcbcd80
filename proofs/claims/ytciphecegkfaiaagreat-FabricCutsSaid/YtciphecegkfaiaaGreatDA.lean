import Derived.Test.YtciphecegkfaiaaGreatD8
import Derived.Test.YtciphecegkfaiaaGreatD9
import Derived.Test.YtciphecegkfaiaaGreatA15
namespace Go.Proofs.YtciphecegkfaiaaGreat.Am
open Go
attribute [local irreducible] awp B5 BR Bx B3 Bw Bn BS B1 itK
set_option maxRecDepth 100000
set_option maxHeartbeats 8000000
set_option linter.unusedSimpArgs false
set_option linter.unusedVariables false
def wR (N:Nat) (l62:List (Int×Int)) (i63:Int) (k64:Int):Option ((List (Int×Int))×(List (Int×Int))×Int):=
 (BC N l62).bind fun ai=>
 bif ((!ai)||(decide (min i63 k64<0)))||(decide ((l62.length:Int)≤max i63 k64)) then(
  some ([],[],70))
 else(
  bif decide (i63≤k64) then(
   gd (I64 (k64+1))<|
   gd (0≤i63∧i63≤k64+1∧k64+1≤(l62.length:Int))<|
   gd ((l62.drop i63.toNat).take ((k64+1).toNat-i63.toNat)≠[])<|
   gd ((((l62.drop i63.toNat).take ((k64+1).toNat-i63.toNat)).length)*16≤140737488355328)<|
   bif decide (k64≤i63) then(
    gd (I64 (i63+1))<|
    gd (0≤k64∧k64≤i63+1∧i63+1≤(l62.length:Int))<|
    gd ((l62.drop k64.toNat).take ((i63+1).toNat-k64.toNat)≠[])<|
    gd ((((l62.drop k64.toNat).take ((i63+1).toNat-k64.toNat)).length)*16≤140737488355328)<|
    bif decide (min (((l62.drop i63.toNat).take ((k64+1).toNat-i63.toNat)).length:Int) (((l62.drop k64.toNat).take ((i63+1).toNat-k64.toNat)).length:Int)<3) then(
     some ([],[],70))
    else(
     some ((l62.drop i63.toNat).take ((k64+1).toNat-i63.toNat),(l62.drop k64.toNat).take ((i63+1).toNat-k64.toNat),0)))
   else(
    gd (0≤k64∧k64≤(l62.length:Int))<|
    gd (I64 (i63+1))<|
    gd (0≤0∧0≤i63+1∧i63+1≤(l62.length:Int))<|
    (wC N [l62.drop k64.toNat,l62.take ((i63+1).toNat-0)]).bind fun r67=>
    bif decide (min (((l62.drop i63.toNat).take ((k64+1).toNat-i63.toNat)).length:Int) (r67.length:Int)<3) then(
     some ([],[],70))
    else(
     some ((l62.drop i63.toNat).take ((k64+1).toNat-i63.toNat),r67,0))))
  else(
   gd (0≤i63∧i63≤(l62.length:Int))<|
   gd (I64 (k64+1))<|
   gd (0≤0∧0≤k64+1∧k64+1≤(l62.length:Int))<|
   (wC N [l62.drop i63.toNat,l62.take ((k64+1).toNat-0)]).bind fun r69=>
   bif decide (k64≤i63) then(
    gd (I64 (i63+1))<|
    gd (0≤k64∧k64≤i63+1∧i63+1≤(l62.length:Int))<|
    gd ((l62.drop k64.toNat).take ((i63+1).toNat-k64.toNat)≠[])<|
    gd ((((l62.drop k64.toNat).take ((i63+1).toNat-k64.toNat)).length)*16≤140737488355328)<|
    bif decide (min (r69.length:Int) (((l62.drop k64.toNat).take ((i63+1).toNat-k64.toNat)).length:Int)<3) then(
     some ([],[],70))
    else(
     some (r69,(l62.drop k64.toNat).take ((i63+1).toNat-k64.toNat),0)))
   else(
    gd (0≤k64∧k64≤(l62.length:Int))<|
    gd (I64 (i63+1))<|
    gd (0≤0∧0≤i63+1∧i63+1≤(l62.length:Int))<|
    (wC N [l62.drop k64.toNat,l62.take ((i63+1).toNat-0)]).bind fun r71=>
    bif decide (min (r69.length:Int) (r71.length:Int)<3) then(
     some ([],[],70))
    else(
     some (r69,r71,0)))))
@[go_sem] def s46 (N:Nat):Spec:=p0<|pS Ap fun l62=>pI fun i63=>pI fun k64=>pE<|pF (wR N l62 i63 k64) ([],[],0) fun r=> .tup [A1 r.1,A1 r.2.1,.i r.2.2]
theorem Abz (N:Nat):FOK Tryz.prog 46 (s46 N):=by
 refine Al x46.ok<|A3 fun l62=>Ac fun i63=>Ac fun k64=>Ah<|An fun r h=>wx x46 (Aa (KF N)<|Aa (Abq N)<|Aj) fun _ hS F=> ?_
 dsimp only[x46,mkX,Ap]
 unfold wR at h
 obtain⟨ai,ah,h⟩:=un h
 replace F:=fc ah F
 refine gcb hS F h (fun _ h=> ?_) (fun _ h=> ?_)
 ·exact Ad hS F h
 ·refine go hS F ?_
  refine Vh hS 3 7 (by decide) x101.hf x101.hc x101.hn x101.ok x101.hf x101.hc x101.hn x101.ok rfl rfl (ev F) (ev F) (ev F) ?_ rfl (ev F) (Nat.le_of_ble_eq_true rfl) fun hb=> ?_
  ·exact goc hS F
  dsimp only[x101,mkX]
  refine gcb hS F h (fun _ h=> ?_) (fun _ h=> ?_)
  ·obtain⟨br,bq,h⟩:=un h
   refine go hS F ?_
   refine Df hS 5 x78.hf x78.hc x78.hn x78.ok rfl (ev F) (ev F) ?_ rfl (ev F) (Nat.le_of_ble_eq_true rfl) fun hb=> ?_
   ·exact goc hS F
   dsimp only[x78,mkX]
   obtain⟨bp,h⟩:=un h
   refine gcf hS F ?_
   obtain⟨bo,h⟩:=un h
   refine go hS F ?_
   first|refine dJ (ev F) (ev F) ?_ ?_ rfl (ev F) (by simp) fun hb=> ?_|refine dH (ev F) (ev F) ?_ ?_ rfl (ev F) (by simp) fun hb=> ?_
   ·exact goc hS F
   ·exact goc hS F
   try dsimp only[x101,mkX]
   refine gcb hS F h (fun _ h=> ?_) (fun _ h=> ?_)
   ·obtain⟨bm,bj,h⟩:=un h
    refine go hS F ?_
    refine Df hS 5 x78.hf x78.hc x78.hn x78.ok rfl (ev F) (ev F) ?_ rfl (ev F) (Nat.le_of_ble_eq_true rfl) fun hb=> ?_
    ·exact goc hS F
    dsimp only[x78,mkX]
    obtain⟨bi,h⟩:=un h
    refine gcf hS F ?_
    obtain⟨bh,h⟩:=un h
    refine gcb hS F h (fun _ h=> ?_) (fun _ h=> ?_)
    ·exact Ad hS F h
    ·exact Ad hS F h
   ·obtain⟨bg,be,bb,r67,af,h⟩:=un h
    replace F:=fc af F
    refine gcb hS F h (fun _ h=> ?_) (fun _ h=> ?_)
    ·exact Ad hS F h
    ·exact Ad hS F h
  ·obtain⟨az,ay,aw,r69,ae,h⟩:=un h
   replace F:=fc ae F
   refine go hS F ?_
   first|refine dJ (ev F) (ev F) ?_ ?_ rfl (ev F) (by simp) fun hb=> ?_|refine dH (ev F) (ev F) ?_ ?_ rfl (ev F) (by simp) fun hb=> ?_
   ·exact goc hS F
   ·exact goc hS F
   try dsimp only[x101,mkX]
   refine gcb hS F h (fun _ h=> ?_) (fun _ h=> ?_)
   ·obtain⟨av,au,h⟩:=un h
    refine go hS F ?_
    refine Df hS 5 x78.hf x78.hc x78.hn x78.ok rfl (ev F) (ev F) ?_ rfl (ev F) (Nat.le_of_ble_eq_true rfl) fun hb=> ?_
    ·exact goc hS F
    dsimp only[x78,mkX]
    obtain⟨aq,h⟩:=un h
    refine gcf hS F ?_
    obtain⟨an,h⟩:=un h
    refine gcb hS F h (fun _ h=> ?_) (fun _ h=> ?_)
    ·exact Ad hS F h
    ·exact Ad hS F h
   ·obtain⟨am,ak,aj,r71,aa,h⟩:=un h
    replace F:=fc aa F
    refine gcb hS F h (fun _ h=> ?_) (fun _ h=> ?_)
    ·exact Ad hS F h
    ·exact Ad hS F h
end Go.Proofs.YtciphecegkfaiaaGreat.Am
