import Derived.Test.YtdabfcbelkjmgaaDoorE4
/-
  The chapter's examples (plain Lean: the function is reckoned).
-/
namespace Go.Proofs.YtdabfcbelkjmgaaDoor.Am
theorem sane_true : D_putloglaw08_sane 1000 = some true := by decide +kernel
end Go.Proofs.YtdabfcbelkjmgaaDoor.Am
