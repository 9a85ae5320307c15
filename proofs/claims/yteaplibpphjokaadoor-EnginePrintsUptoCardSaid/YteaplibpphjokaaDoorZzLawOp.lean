/- Part of a proof: ZzLawOp. -/
import Derived.Test.YteaplibpphjokaaDoorZzUa
import Derived.Test.YteaplibpphjokaaDoorZzLaw18
set_option linter.unusedSimpArgs false
set_option linter.unusedVariables false
set_option linter.unusedSectionVars false
namespace Go.Vm
open Go (IntKind Fn)
def opErr (k s : Int) (v : List UInt8) : Int :=
  if k = 1 ∨ k = 3 then (if s < 0 ∨ 1024 ≤ s then 41 else if (v.length : Int) > (if k = 1 then 64 else 0) then 42 else 0)
  else if k = 2 ∨ k = 4 then (if s ≠ 0 then 41 else if (v.length : Int) > (if k = 2 then 64 else 0) then 42 else 0)
  else 40
theorem bIte_if (b : Bool) (x y : Res) : bIte b x y = if b = true then x else y := by cases b <;> rfl
theorem f43_law (k s : Int) (v : List UInt8) : f43_e k s v = .ret (.I .i64 (opErr k s v)) [] := by
  unfold f43_e f43_p0 f43_p1 f43_p2 f43_p3 f43_p4 opErr
  simp only [bIte_if]
  by_cases h1 : k = 1
  · subst h1; simp; split <;> (try split) <;> (try split) <;> simp_all <;> omega
  by_cases h2 : k = 2
  · subst h2; simp; split <;> (try split) <;> (try split) <;> simp_all
  by_cases h3 : k = 3
  · subst h3; simp; split <;> (try split) <;> (try split) <;> simp_all <;> omega
  by_cases h4 : k = 4
  · subst h4; simp; split <;> (try split) <;> (try split) <;> simp_all
  simp [h1, h2, h3, h4]
end Go.Vm
