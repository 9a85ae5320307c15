/- Part of a proof: ZzG26. -/
import Derived.Test.YtmcocdbkonefjaaGreatDoorZzMl
import Derived.KernelRfl
set_option linter.unusedSimpArgs false
set_option linter.unusedVariables false
set_option linter.unusedSectionVars false
namespace Go.Vm
open Go Go.Proofs
set_option maxRecDepth 100000
theorem g26:Ok [] e457∧Ok [] e469∧Ok [] e478∧Ok kl9 e14∧Ok kl16 e25∧Ok kl20 e31∧Ok kl22 e33∧Ok kl31 e50∧Ok kl36 e58∧Ok kl40 e64∧Ok kl42 e66∧Ok kl44 e68∧Ok kl46 e70∧Ok kl48 e72∧Ok kl50 e74∧Ok kl59 e91∧Ok kl65 e101∧Ok kl69 e107∧Ok kl71 e109∧Ok kl73 e111∧Ok kl75 e113∧Ok kl77 e115∧Ok kl80 e121∧Ok kl84 e128∧Ok kl88 e135∧Ok kl90 e138∧Ok kl92 e140∧Ok kl94 e142∧Ok kl106 e162∧Ok kl108 e164∧Ok kl129 e202∧Ok kl131 e205∧Ok kl140 e216∧Ok kl235 e362:=⟨ok (by kernel_rfl),ok (by kernel_rfl),ok (by kernel_rfl),ok (by kernel_rfl),ok (by kernel_rfl),ok (by kernel_rfl),ok (by kernel_rfl),ok (by kernel_rfl),ok (by kernel_rfl),ok (by kernel_rfl),ok (by kernel_rfl),ok (by kernel_rfl),ok (by kernel_rfl),ok (by kernel_rfl),ok (by kernel_rfl),ok (by kernel_rfl),ok (by kernel_rfl),ok (by kernel_rfl),ok (by kernel_rfl),ok (by kernel_rfl),ok (by kernel_rfl),ok (by kernel_rfl),ok (by kernel_rfl),ok (by kernel_rfl),ok (by kernel_rfl),ok (by kernel_rfl),ok (by kernel_rfl),ok (by kernel_rfl),ok (by kernel_rfl),ok (by kernel_rfl),ok (by kernel_rfl),ok (by kernel_rfl),ok (by kernel_rfl),ok (by kernel_rfl)⟩
end Go.Vm
