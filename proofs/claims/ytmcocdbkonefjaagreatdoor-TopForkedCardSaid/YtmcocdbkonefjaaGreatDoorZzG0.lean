/- Part of a proof: ZzG0. -/
import Derived.Test.YtmcocdbkonefjaaGreatDoorZzMl
import Derived.KernelRfl
set_option linter.unusedSimpArgs false
set_option linter.unusedVariables false
set_option linter.unusedSectionVars false
namespace Go.Vm
open Go Go.Proofs
set_option maxRecDepth 100000
theorem g0:Ok kl318 e493∧Ok kl143 e219∧Ok kl317 e490∧Ok [] e491∧Ok [] e492∧Ok kl1 e2:=⟨ok (by kernel_rfl),ok (by kernel_rfl),ok (by kernel_rfl),ok (by kernel_rfl),ok (by kernel_rfl),ok (by kernel_rfl)⟩
end Go.Vm
