/- Part of a proof: ZzG19. -/
import Derived.Test.YtmcocdbkonefjaaGreatDoorZzMl
import Derived.KernelRfl
set_option linter.unusedSimpArgs false
set_option linter.unusedVariables false
set_option linter.unusedSectionVars false
namespace Go.Vm
open Go Go.Proofs
set_option maxRecDepth 100000
theorem g19:Ok kl114 e176∧Ok kl117 e181∧Ok kl163 e251∧Ok kl167 e259∧Ok kl175 e272∧Ok kl181 e281∧Ok kl198 e307∧Ok kl199 e309∧Ok kl205 e321∧Ok kl214 e333∧Ok kl229 e354:=⟨ok (by kernel_rfl),ok (by kernel_rfl),ok (by kernel_rfl),ok (by kernel_rfl),ok (by kernel_rfl),ok (by kernel_rfl),ok (by kernel_rfl),ok (by kernel_rfl),ok (by kernel_rfl),ok (by kernel_rfl),ok (by kernel_rfl)⟩
end Go.Vm
