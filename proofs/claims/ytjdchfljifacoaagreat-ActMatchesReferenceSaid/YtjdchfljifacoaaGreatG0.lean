namespace Go.Proofs.YtjdchfljifacoaaGreat.Am
def GT:Nat->List Int:=λ_=>[]
