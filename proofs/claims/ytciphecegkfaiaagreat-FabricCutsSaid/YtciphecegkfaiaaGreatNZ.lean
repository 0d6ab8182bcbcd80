import Derived.Test.YtciphecegkfaiaaGreatN4
namespace Go.Proofs.YtciphecegkfaiaaGreat.Am
set_option linter.unusedSimpArgs false
set_option linter.unusedVariables false
set_option linter.unusedSectionVars false
noncomputable instance (f g:List Un):Decidable (f=g):=Classical.propDecidable _
theorem FV.shp {f:List Un} (h:FV f):∀u∈f,u.2.2.2.1.length<1000:=fun u hu=>by have:=(h.val u hu).l.l8;omega
end Go.Proofs.YtciphecegkfaiaaGreat.Am
