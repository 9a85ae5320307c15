/- Part of a proof: ZzG6. -/
import Derived.Test.YtmcocdbkonefjaaGreatDoorZzMl
import Derived.KernelRfl
set_option linter.unusedSimpArgs false
set_option linter.unusedVariables false
set_option linter.unusedSectionVars false
namespace Go.Vm
open Go Go.Proofs
set_option maxRecDepth 100000
theorem g6:Ok kl196 e302∧Ok kl204 e317∧Ok kl209 e326∧Ok kl209 e330∧Ok kl217 e336∧Ok kl223 e345∧Ok kl231 e357∧Ok kl241 e370∧Ok kl249 e382∧Ok kl260 e400∧Ok kl204 e404∧Ok kl271 e420∧Ok kl271 e428∧Ok kl284 e440∧Ok kl294 e454∧Ok kl302 e466∧Ok kl313 e484:=⟨ok (by kernel_rfl),ok (by kernel_rfl),ok (by kernel_rfl),ok (by kernel_rfl),ok (by kernel_rfl),ok (by kernel_rfl),ok (by kernel_rfl),ok (by kernel_rfl),ok (by kernel_rfl),ok (by kernel_rfl),ok (by kernel_rfl),ok (by kernel_rfl),ok (by kernel_rfl),ok (by kernel_rfl),ok (by kernel_rfl),ok (by kernel_rfl),ok (by kernel_rfl)⟩
end Go.Vm
