import Derived.Test.YtciphecegkfaiaaGreatNS
set_option linter.unusedSimpArgs false
set_option linter.unusedVariables false
namespace Go.Proofs.YtciphecegkfaiaaGreat.Am
open Go
attribute [local irreducible] As Cn B6 BK CA BJ Bv Cl Cv Dx
set_option maxRecDepth 100000
set_option maxHeartbeats 8000000
attribute [local go_sem] UO UQ
def Dt(N:Nat)(l132:List Int)(bp:Int):Nat->Int->Option (Sum Unit Bool)|0,_=>none|n+1,db=>bif decide (db<(l132.length:Int))then((AA l132 db).bind λkU=>bif decide (kU=bp)then(some (.inr true))else(gd (Ab (db+1))<|Dt N l132 bp n (db+1)))else(some (.inl ()))
def Dh(N:Nat)(l132:List Int)(bp:Int):Option Bool:=(Dt N l132 bp N 0).bind λd9=>match d9 with|.inl ()=>(some false)|.inr kv=>(some kv)
@[go_sem] def s35(N:Nat):Spec:=p0<|pS TL λl132=>pI λbp=>pE<|pF (Dh N l132 bp) false λr=>.b r
