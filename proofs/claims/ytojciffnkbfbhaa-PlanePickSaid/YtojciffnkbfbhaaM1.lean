import Derived.Test.YtojciffnkbfbhaaDB
/-
  The chapter's examples (plain Lean: the function is reckoned).
-/
namespace Go.Proofs.Ytojciffnkbfbhaa.Am
theorem sane_true : D_putloglaw07_sane 1000 = some true := by decide +kernel
end Go.Proofs.Ytojciffnkbfbhaa.Am
