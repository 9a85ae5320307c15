/- Part of a proof: ZzG2. -/
import Derived.Test.YtmcocdbkonefjaaGreatDoorZzMl
import Derived.KernelRfl
set_option linter.unusedSimpArgs false
set_option linter.unusedVariables false
set_option linter.unusedSectionVars false
namespace Go.Vm
open Go Go.Proofs
set_option maxRecDepth 100000
theorem g2:Ok kl176 e273∧Ok kl182 e282∧Ok kl188 e291∧Ok kl194 e300∧Ok kl202 e313∧Ok [] e318:=⟨ok (by kernel_rfl),ok (by kernel_rfl),ok (by kernel_rfl),ok (by kernel_rfl),ok (by kernel_rfl),ok (by kernel_rfl)⟩
end Go.Vm
