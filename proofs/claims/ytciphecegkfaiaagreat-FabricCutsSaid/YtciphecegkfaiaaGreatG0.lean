namespace Go.Proofs.YtciphecegkfaiaaGreat.Am
def GT:Nat→List Int:=fun _=>[]
end Go.Proofs.YtciphecegkfaiaaGreat.Am
