import Derived.Test.YtciphecegkfaiaaGreatNS
namespace Go.Proofs.YtciphecegkfaiaaGreat.Am
open Go
attribute [local irreducible] awp B5 BR Bx B3 Bw Bn BS B1 itK
set_option maxRecDepth 100000
set_option maxHeartbeats 8000000
set_option linter.unusedSimpArgs false
set_option linter.unusedVariables false
attribute [local go_sem] isB KO
def Hq (N:Nat) (x1:List (Int×Int×Int×Int×Int×Int)) (aa:Int) (c3:Int):Option Bool:=
 (Cy N).bind fun r4=>
 bif !r4 then(
  some false)
 else(
  (Cx N x1).bind fun r6=>
  (Ge N r6).bind fun(r8,r9)=>
  (Fp N r8).bind fun(aj,ai)=>
  gd ((!((decide (r9≠0))||(decide (ai≠0))))=true→((AD N r6 aj).isSome=true))<|
  bif (((decide (r9≠0))||(decide (ai≠0)))||(!((AD N r6 aj).getD false)))||(decide ((r8.length:Int)=0)) then(
   some false)
  else(
   (BB N aa (r8.length:Int)).bind fun r14=>
   gd (0≤r14∧r14≤(r8.length:Int))<|
   gd (((r8.take r14.toNat)++[UInt8.ofNat c3.toNat]).length≤140737488355328)<|
   gd (I64 (r14+1))<|
   gd (0≤r14+1∧r14+1≤(r8.length:Int))<|
   gd ((((r8.take r14.toNat)++[UInt8.ofNat c3.toNat])++(r8.drop (r14+1).toNat)).length≤140737488355328)<|
   (Fp N (((r8.take r14.toNat)++[UInt8.ofNat c3.toNat])++(r8.drop (r14+1).toNat))).bind fun(r16,ah)=>
   bif decide (ah=0) then(
    (Ge N r16).bind fun(af,ae)=>
    gd (((decide (ae=0))&&(decide (af=((r8.take r14.toNat)++[UInt8.ofNat c3.toNat])++(r8.drop (r14+1).toNat))))=true→((AT N r16).isSome=true))<|
    some (((decide (ae=0))&&(decide (af=((r8.take r14.toNat)++[UInt8.ofNat c3.toNat])++(r8.drop (r14+1).toNat))))&&((AT N r16).getD false)))
   else(
    some (((decide (ah=120))&&(!decide (((r8.take r14.toNat)++[UInt8.ofNat c3.toNat])++(r8.drop (r14+1).toNat)=r8)))&&(decide ((r16.length:Int)=0))))))
theorem PI (N:Nat) (x1:List (Int×Int×Int×Int×Int×Int)) (aa:Int) (c3:Int) (r:Bool) (h:Hq N x1 aa c3=some r):PCall Tryz.prog 8 [G8 x1,.i aa,.v (.int .u8 c3)] (.b r):=by
 refine wx x8 (Aa (Nb N)<|Aa (M8 N)<|Aa (Y9 N)<|Aa (Za N)<|Aa (UA N)<|Aa (M7 N)<|Aa (G5 N)<|Aj) fun _ hS F=> ?_
 dsimp only[x8,mkX]
 unfold Hq at h
 obtain⟨r4,aw,h⟩:=un h
 replace F:=fc aw F
 refine gcb hS F h (fun _ h=> ?_) (fun _ h=> ?_)
 ·exact Ad hS F h
 ·obtain⟨r6,av,⟨r8,r9⟩,au,h⟩:=un h
  obtain⟨⟨aj,ai⟩,aq,h⟩:=un h
  obtain⟨bi,h⟩:=un h
  replace F:=fc aq (fc au (fc av F))
  refine gcb hS F h (fun _ h=> ?_) (fun _ h=> ?_)
  ·exact Ad hS F h
  ·obtain⟨r14,an,bh,bg,be,bb,az,⟨r16,ah⟩,am,h⟩:=un h
   replace F:=fc am (fc an F)
   refine gcb hS F h (fun _ h=> ?_) (fun _ h=> ?_)
   ·obtain⟨⟨af,ae⟩,ak,h⟩:=un h
    obtain⟨ay,h⟩:=un h
    exact Ad hS (fc ak F) h
   ·exact Ad hS F h
end Go.Proofs.YtciphecegkfaiaaGreat.Am
