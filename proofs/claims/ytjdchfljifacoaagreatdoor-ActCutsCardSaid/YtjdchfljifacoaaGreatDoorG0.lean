namespace Go.Proofs.YtjdchfljifacoaaGreatDoor.Am
def GT:Nat->List Int|0=>[9,3,9,1,0,8,3,6,4,1,7,3,5,5,1,6,3,4,6,3,3,2,5,3,0,5,2,2,7,1,8,3,8,1,4,10,1,9,0,0]|_=>[]
theorem vA:(GT 0).length=40:=rfl
