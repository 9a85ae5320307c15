/- Part of a proof: ZzG4. -/
import Derived.Test.YtmcocdbkonefjaaGreatDoorZzMl
import Derived.KernelRfl
set_option linter.unusedSimpArgs false
set_option linter.unusedVariables false
set_option linter.unusedSectionVars false
namespace Go.Vm
open Go Go.Proofs
set_option maxRecDepth 100000
theorem g4:Ok kl247 e379∧Ok kl258 e397∧Ok kl261 e401∧Ok kl269 e415∧Ok kl275 e426∧Ok kl280 e434∧Ok kl283 e438:=⟨ok (by kernel_rfl),ok (by kernel_rfl),ok (by kernel_rfl),ok (by kernel_rfl),ok (by kernel_rfl),ok (by kernel_rfl),ok (by kernel_rfl)⟩
end Go.Vm
