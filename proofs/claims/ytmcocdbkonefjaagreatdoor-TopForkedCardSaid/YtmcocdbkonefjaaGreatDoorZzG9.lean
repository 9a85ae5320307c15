/- Part of a proof: ZzG9. -/
import Derived.Test.YtmcocdbkonefjaaGreatDoorZzMl
import Derived.KernelRfl
set_option linter.unusedSimpArgs false
set_option linter.unusedVariables false
set_option linter.unusedSectionVars false
namespace Go.Vm
open Go Go.Proofs
set_option maxRecDepth 100000
theorem g9:Ok kl124 e192∧Ok kl127 e198∧Ok kl135 e211∧Ok kl147 e224∧Ok kl149 e227∧Ok kl152 e232∧Ok kl155 e237∧Ok kl158 e242∧Ok kl161 e247∧Ok kl165 e254∧Ok kl169 e262∧Ok kl173 e269∧Ok kl179 e278∧Ok kl187 e290∧Ok kl193 e299∧Ok kl201 e312∧Ok kl207 e323∧Ok kl220 e341∧Ok kl226 e350∧Ok kl238 e366∧Ok kl246 e378∧Ok kl257 e396∧Ok kl268 e414∧Ok kl274 e425∧Ok kl279 e433∧Ok kl291 e450∧Ok kl299 e462∧Ok kl310 e480∧Ok kl0 e9∧Ok kl10 e45∧Ok kl23 e62∧Ok kl32 e84:=⟨ok (by kernel_rfl),ok (by kernel_rfl),ok (by kernel_rfl),ok (by kernel_rfl),ok (by kernel_rfl),ok (by kernel_rfl),ok (by kernel_rfl),ok (by kernel_rfl),ok (by kernel_rfl),ok (by kernel_rfl),ok (by kernel_rfl),ok (by kernel_rfl),ok (by kernel_rfl),ok (by kernel_rfl),ok (by kernel_rfl),ok (by kernel_rfl),ok (by kernel_rfl),ok (by kernel_rfl),ok (by kernel_rfl),ok (by kernel_rfl),ok (by kernel_rfl),ok (by kernel_rfl),ok (by kernel_rfl),ok (by kernel_rfl),ok (by kernel_rfl),ok (by kernel_rfl),ok (by kernel_rfl),ok (by kernel_rfl),ok (by kernel_rfl),ok (by kernel_rfl),ok (by kernel_rfl),ok (by kernel_rfl)⟩
end Go.Vm
