/- Part of a proof: ZzG17. -/
import Derived.Test.YtmcocdbkonefjaaGreatDoorZzMl
import Derived.KernelRfl
set_option linter.unusedSimpArgs false
set_option linter.unusedVariables false
set_option linter.unusedSectionVars false
namespace Go.Vm
open Go Go.Proofs
set_option maxRecDepth 100000
theorem g17:Ok kl120 e186∧Ok kl136 e212:=⟨ok (by kernel_rfl),ok (by kernel_rfl)⟩
end Go.Vm
