import Derived.Test.YtdabfcbelkjmgaaDoorA6
/-
  Parts of a written list are written parts.
-/
namespace Go.Proofs.YtdabfcbelkjmgaaDoor.Am
open Go
theorem takeMap {α β : Type} (f : α → β) (l : List α) (n : Nat) : (l.map f).take n = (l.take n).map f := List.map_take.symm
theorem dropMap {α β : Type} (f : α → β) (l : List α) (n : Nat) : (l.map f).drop n = (l.drop n).map f := List.map_drop.symm
end Go.Proofs.YtdabfcbelkjmgaaDoor.Am
