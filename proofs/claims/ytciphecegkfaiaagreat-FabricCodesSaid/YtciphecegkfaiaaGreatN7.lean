import Derived.Test.YtciphecegkfaiaaGreatN6
import Derived.Test.YtciphecegkfaiaaGreatNZ
import Derived.Test.YtciphecegkfaiaaGreatL2
import Derived.Test.YtciphecegkfaiaaGreatNS
namespace Go.Proofs.YtciphecegkfaiaaGreat.Am
set_option linter.unusedSimpArgs false
set_option linter.unusedVariables false
set_option linter.unusedSectionVars false
theorem uW (x:List (Int×Int×Int×Int×Int×Int)) (place c:Int) (hx:I6 x) (h1:I64 place) (h2:0≤c∧c≤255):Hq 2000 x place c=some true:=by
 unfold Hq
 obtain⟨f,hf,fv⟩:=WD (N:=2000) (by omega) hx
 have el:=uZ fv
 have k:= @HW place (tV f).length (by omega)
 have sm:=fv.shp
 have hl:=fv.len
 rw[jI,bS,cF' _ (by rfl),hf,bS,vH (by omega),if_pos fv,bS]
 simp only
 rw[vI (by omega) (by omega),uK fv,bS]
 simp only
 rw[vN (by omega) f (by omega) (fun u hu=>by have:=sm u hu;omega),EO (fun _=>Option.isSome_some),Option.getD_some,decide_eq_true rfl,cF' _ (by rw[decide_eq_false (p:=((tV f).length:Int)=0) (by omega)];rfl),lpk h1 (by omega),bS]
 have l1:((tV f).take (pk place (tV f).length).toNat).length≤20000:=by rw[List.length_take];omega
 have l2:((tV f).drop (pk place (tV f).length+1).toNat).length≤20000:=by rw[List.length_drop];omega
 rw[Ab (by omega),Ab (by rw[List.length_append,List.length_singleton];omega),Ab (by unfold I64;omega),Ab (by omega),Ab (by rw[List.length_append,List.length_append,List.length_singleton];omega)]
 have l3:(((tV f).take (pk place (tV f).length).toNat++[UInt8.ofNat c.toNat])++(tV f).drop (pk place (tV f).length+1).toNat).length≤1000000000:=by rw[List.length_append,List.length_append,List.length_singleton];omega
 generalize hz:((tV f).take (pk place (tV f).length).toNat++[UInt8.ofNat c.toNat])++(tV f).drop (pk place (tV f).length+1).toNat=z at l3⊢
 rw[vI (by omega) l3,bS]
 cases hd:uD z with
 |none=>
  simp only
  rw[cF' _ (by rfl),decide_eq_false (p:=z=tV f) fun e=>by rw[e,uK fv] at hd;cases hd]
  rfl
 |some g=>
  obtain⟨gv,ge⟩:=uV hd
  simp only
  rw[cT' _ (by rfl),vH (by omega),if_pos gv,bS]
  simp only
  rw[UZ (by omega),EO (fun _=>Option.isSome_some),Option.getD_some,decide_eq_true gv,decide_eq_true ge.symm]
  rfl
end Go.Proofs.YtciphecegkfaiaaGreat.Am
