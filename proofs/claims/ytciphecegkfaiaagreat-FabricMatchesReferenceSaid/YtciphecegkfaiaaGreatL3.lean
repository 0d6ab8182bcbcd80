import Derived.Test.YtciphecegkfaiaaGreatNS
set_option linter.unusedSimpArgs false
set_option linter.unusedVariables false
namespace Go.Proofs.YtciphecegkfaiaaGreat.Am
open Go
attribute [local irreducible] As Cn B6 BK CA BJ Bv Cl Cv Dx
set_option maxRecDepth 100000
set_option maxHeartbeats 8000000
