/- Part of a proof: ZzG12. -/
import Derived.Test.YtmcocdbkonefjaaGreatDoorZzMl
import Derived.KernelRfl
set_option linter.unusedSimpArgs false
set_option linter.unusedVariables false
set_option linter.unusedSectionVars false
namespace Go.Vm
open Go Go.Proofs
set_option maxRecDepth 100000
theorem g12:Ok kl181 e293∧Ok kl198 e315∧Ok kl199 e316∧Ok kl205 e325∧Ok kl214 e344∧Ok kl229 e356:=⟨ok (by kernel_rfl),ok (by kernel_rfl),ok (by kernel_rfl),ok (by kernel_rfl),ok (by kernel_rfl),ok (by kernel_rfl)⟩
end Go.Vm
