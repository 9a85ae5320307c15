/- Part of a proof: ZzG16. -/
import Derived.Test.YtmcocdbkonefjaaGreatDoorZzMl
import Derived.KernelRfl
set_option linter.unusedSimpArgs false
set_option linter.unusedVariables false
set_option linter.unusedSectionVars false
namespace Go.Vm
open Go Go.Proofs
set_option maxRecDepth 100000
theorem g16:Ok kl78 e116∧Ok kl99 e151:=⟨ok (by kernel_rfl),ok (by kernel_rfl)⟩
end Go.Vm
