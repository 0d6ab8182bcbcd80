namespace Go.Proofs.YtciphecegkfaiaaGreat.Am
def GT:Nat->List Int:=λ_=>[]
