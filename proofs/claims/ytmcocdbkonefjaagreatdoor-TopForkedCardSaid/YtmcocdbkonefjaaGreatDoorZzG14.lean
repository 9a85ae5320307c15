/- Part of a proof: ZzG14. -/
import Derived.Test.YtmcocdbkonefjaaGreatDoorZzMl
import Derived.KernelRfl
set_option linter.unusedSimpArgs false
set_option linter.unusedVariables false
set_option linter.unusedSectionVars false
namespace Go.Vm
open Go Go.Proofs
set_option maxRecDepth 100000
theorem g14:Ok kl267 e419∧Ok kl282 e439∧Ok kl289 e453∧Ok kl298 e465∧Ok kl307 e483∧Ok kl2 e4∧Ok kl7 e12∧Ok kl7 e89∧Ok kl144 e221∧Ok kl233 e360∧Ok kl233 e387∧Ok kl286 e443∧Ok kl286 e471:=⟨ok (by kernel_rfl),ok (by kernel_rfl),ok (by kernel_rfl),ok (by kernel_rfl),ok (by kernel_rfl),ok (by kernel_rfl),ok (by kernel_rfl),ok (by kernel_rfl),ok (by kernel_rfl),ok (by kernel_rfl),ok (by kernel_rfl),ok (by kernel_rfl),ok (by kernel_rfl)⟩
end Go.Vm
