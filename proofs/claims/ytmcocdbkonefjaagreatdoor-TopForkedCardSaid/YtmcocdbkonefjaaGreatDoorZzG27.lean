/- Part of a proof: ZzG27. -/
import Derived.Test.YtmcocdbkonefjaaGreatDoorZzMl
import Derived.KernelRfl
set_option linter.unusedSimpArgs false
set_option linter.unusedVariables false
set_option linter.unusedSectionVars false
namespace Go.Vm
open Go Go.Proofs
set_option maxRecDepth 100000
theorem g27:Ok kl244 e375∧Ok kl253 e389∧Ok kl288 e445∧Ok kl297 e459∧Ok kl306 e473∧Ok kl6 e10∧Ok kl15 e24∧Ok kl19 e30∧Ok kl21 e32∧Ok kl29 e46∧Ok kl34 e54∧Ok kl39 e63∧Ok kl41 e65∧Ok kl43 e67∧Ok kl45 e69∧Ok kl47 e71∧Ok kl49 e73∧Ok kl56 e85∧Ok kl64 e100∧Ok kl68 e106:=⟨ok (by kernel_rfl),ok (by kernel_rfl),ok (by kernel_rfl),ok (by kernel_rfl),ok (by kernel_rfl),ok (by kernel_rfl),ok (by kernel_rfl),ok (by kernel_rfl),ok (by kernel_rfl),ok (by kernel_rfl),ok (by kernel_rfl),ok (by kernel_rfl),ok (by kernel_rfl),ok (by kernel_rfl),ok (by kernel_rfl),ok (by kernel_rfl),ok (by kernel_rfl),ok (by kernel_rfl),ok (by kernel_rfl),ok (by kernel_rfl)⟩
end Go.Vm
