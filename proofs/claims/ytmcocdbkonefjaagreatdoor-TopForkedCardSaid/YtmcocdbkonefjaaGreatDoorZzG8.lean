/- Part of a proof: ZzG8. -/
import Derived.Test.YtmcocdbkonefjaaGreatDoorZzMl
import Derived.KernelRfl
set_option linter.unusedSimpArgs false
set_option linter.unusedVariables false
set_option linter.unusedSectionVars false
namespace Go.Vm
open Go Go.Proofs
set_option maxRecDepth 100000
theorem g8:Ok kl122 e189∧Ok kl58 e195∧Ok kl58 e208∧Ok kl145 e222∧Ok kl145 e225∧Ok kl145 e229∧Ok kl145 e234∧Ok kl145 e239∧Ok kl145 e244∧Ok kl145 e249∧Ok kl145 e257∧Ok kl145 e267∧Ok kl145 e276∧Ok kl145 e287∧Ok kl145 e296∧Ok kl145 e304∧Ok kl145 e305∧Ok kl145 e319∧Ok kl145 e338∧Ok kl145 e347∧Ok kl234 e361∧Ok kl234 e372∧Ok kl234 e384∧Ok kl252 e388∧Ok kl145 e406∧Ok kl145 e407∧Ok kl145 e422∧Ok kl145 e430∧Ok kl287 e444∧Ok kl287 e456∧Ok kl287 e468∧Ok kl305 e472∧Ok kl5 e8∧Ok kl12 e19∧Ok kl14 e23∧Ok kl18 e29∧Ok kl25 e39∧Ok kl27 e43∧Ok kl33 e53∧Ok kl38 e61∧Ok kl52 e78∧Ok kl54 e82∧Ok kl63 e98∧Ok kl67 e105∧Ok kl82 e125∧Ok kl86 e132∧Ok kl96 e146∧Ok kl98 e150∧Ok kl103 e159∧Ok kl112 e172∧Ok kl116 e179∧Ok kl119 e185:=⟨ok (by kernel_rfl),ok (by kernel_rfl),ok (by kernel_rfl),ok (by kernel_rfl),ok (by kernel_rfl),ok (by kernel_rfl),ok (by kernel_rfl),ok (by kernel_rfl),ok (by kernel_rfl),ok (by kernel_rfl),ok (by kernel_rfl),ok (by kernel_rfl),ok (by kernel_rfl),ok (by kernel_rfl),ok (by kernel_rfl),ok (by kernel_rfl),ok (by kernel_rfl),ok (by kernel_rfl),ok (by kernel_rfl),ok (by kernel_rfl),ok (by kernel_rfl),ok (by kernel_rfl),ok (by kernel_rfl),ok (by kernel_rfl),ok (by kernel_rfl),ok (by kernel_rfl),ok (by kernel_rfl),ok (by kernel_rfl),ok (by kernel_rfl),ok (by kernel_rfl),ok (by kernel_rfl),ok (by kernel_rfl),ok (by kernel_rfl),ok (by kernel_rfl),ok (by kernel_rfl),ok (by kernel_rfl),ok (by kernel_rfl),ok (by kernel_rfl),ok (by kernel_rfl),ok (by kernel_rfl),ok (by kernel_rfl),ok (by kernel_rfl),ok (by kernel_rfl),ok (by kernel_rfl),ok (by kernel_rfl),ok (by kernel_rfl),ok (by kernel_rfl),ok (by kernel_rfl),ok (by kernel_rfl),ok (by kernel_rfl),ok (by kernel_rfl),ok (by kernel_rfl)⟩
end Go.Vm
