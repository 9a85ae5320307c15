/- Part of a proof: ZzG29. -/
import Derived.Test.YtmcocdbkonefjaaGreatDoorZzMl
import Derived.KernelRfl
set_option linter.unusedSimpArgs false
set_option linter.unusedVariables false
set_option linter.unusedSectionVars false
namespace Go.Vm
open Go Go.Proofs
set_option maxRecDepth 100000
theorem g29:Ok kl130 e203∧Ok kl132 e206∧Ok kl133 e207∧Ok kl137 e213∧Ok kl138 e214∧Ok kl139 e215∧Ok kl174 e270∧Ok kl180 e279∧Ok kl185 e286∧Ok kl191 e295∧Ok kl197 e303∧Ok kl210 e327∧Ok kl213 e331∧Ok kl218 e337∧Ok kl224 e346∧Ok kl232 e358∧Ok kl242 e371∧Ok kl250 e383∧Ok kl264 e405∧Ok kl272 e421∧Ok kl277 e429∧Ok kl285 e441∧Ok kl295 e455∧Ok kl303 e467:=⟨ok (by kernel_rfl),ok (by kernel_rfl),ok (by kernel_rfl),ok (by kernel_rfl),ok (by kernel_rfl),ok (by kernel_rfl),ok (by kernel_rfl),ok (by kernel_rfl),ok (by kernel_rfl),ok (by kernel_rfl),ok (by kernel_rfl),ok (by kernel_rfl),ok (by kernel_rfl),ok (by kernel_rfl),ok (by kernel_rfl),ok (by kernel_rfl),ok (by kernel_rfl),ok (by kernel_rfl),ok (by kernel_rfl),ok (by kernel_rfl),ok (by kernel_rfl),ok (by kernel_rfl),ok (by kernel_rfl),ok (by kernel_rfl)⟩
end Go.Vm
