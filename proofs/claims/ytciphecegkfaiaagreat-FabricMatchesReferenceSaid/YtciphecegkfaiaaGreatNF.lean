import Derived.Test.YtciphecegkfaiaaGreatNG
import Derived.Test.YtciphecegkfaiaaGreatNR
import Derived.Test.YtciphecegkfaiaaGreatL6
set_option linter.unusedSimpArgs false
set_option linter.unusedVariables false
set_option linter.unusedSectionVars false
namespace Go.Proofs.YtciphecegkfaiaaGreat.Am
theorem Wl{g:List Int}(hs:g.Pairwise λa b=>a<b){r:Int}(hr:r∈g)(hle:∀x∈g,r<=x):g.getD 0 0=r:=by
 cases g with
 |nil=>cases hr
 |cons y t=>
  rw[yI]at hs;show y=r;have:=hle y zW;rcases lJ.1 hr with e|e
  ·exact e.symm
  ·have:=hs.1 r e;omega
section
variable{N:Nat}(hN:1001<=N)(hN2:N<=100000){f:List Un}(h:FV f){R:Int->Int}(hR:GR (A4 f) (KS f) R){g:List Int}{r:Int}
include hN hN2 h hR
end
structure Grp(f:List Un)(R:Int->Int)(r:Int)(g:List Int):Prop where
 srt:g.Pairwise λa b=>a<b
 iff:∀y,y∈g↔y∈A4 f/\R y=r
 self:r∈g
 hd:g.getD 0 0=r
theorem FV.ids_srt{f:List Un}(h:FV f):(A4 f).Pairwise λa b=>a<b:=by unfold A4;rw[List.pairwise_map];exact h.srt
section
variable{N:Nat}(hN:1001<=N)(hN2:N<=100000){f:List Un}(h:FV f){R:Int->Int}(hR:GR (A4 f) (KS f) R)
include hN hN2 h hR
end
