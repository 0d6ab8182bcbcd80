import Derived.Test.YtciphecegkfaiaaGreatW2
import Derived.Test.YtciphecegkfaiaaGreatE6
namespace Go.Proofs.YtciphecegkfaiaaGreat.Am
set_option linter.unusedSimpArgs false
set_option linter.unusedVariables false
theorem tm (m n:Nat):(m:Int).tmod (n:Int)=((m%n:Nat):Int):=(Int.ofNat_tmod m n).symm
theorem td (m n:Nat):(m:Int).tdiv (n:Int)=((m/n:Nat):Int):=(Int.ofNat_tdiv m n).symm
end Go.Proofs.YtciphecegkfaiaaGreat.Am
