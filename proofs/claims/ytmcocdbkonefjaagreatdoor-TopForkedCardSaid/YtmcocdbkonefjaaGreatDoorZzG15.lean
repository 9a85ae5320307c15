/- Part of a proof: ZzG15. -/
import Derived.Test.YtmcocdbkonefjaaGreatDoorZzMl
import Derived.KernelRfl
set_option linter.unusedSimpArgs false
set_option linter.unusedVariables false
set_option linter.unusedSectionVars false
namespace Go.Vm
open Go Go.Proofs
set_option maxRecDepth 100000
theorem g15:Ok kl28 e44∧Ok kl55 e83:=⟨ok (by kernel_rfl),ok (by kernel_rfl)⟩
end Go.Vm
