/- Part of a proof: ZzLaw12. -/
import Derived.Test.YteaplibpphjokaaDoorZzU12
import Derived.Test.YteaplibpphjokaaDoorZzLawOp
set_option linter.unusedSimpArgs false
set_option linter.unusedVariables false
set_option linter.unusedSectionVars false
namespace Go.Vm
open Go (IntKind Fn)
def cfgOK (f room pat : Int) : Bool := decide (1 ≤ f ∧ f ≤ 3 ∧ 1 ≤ room ∧ room ≤ 256 ∧ 6 ≤ pat ∧ pat ≤ 100)
theorem f12_law (f room pat : Int) (u : Bool) : f12_e f room pat u = .ret (.I .i64 (if cfgOK f room pat = true then 0 else 1)) [] := by
  unfold f12_e f12_p0 cfgOK
  simp only [bIte_if, decide_eq_true_eq]
  repeat' split
  all_goals first | rfl | (exfalso; omega)
theorem f45_law (f room pat : Int) (u : Bool) : f45_e f room pat u = .ret (.B (cfgOK f room pat)) [] := by
  unfold f45_e cfgOK
  simp only [bIte_if, decide_eq_true_eq]
  repeat' split
  all_goals refine congrArg (fun b => Res.ret (AV.B b) []) ?_
  all_goals rw [eq_comm]
  all_goals first | (rw [decide_eq_false_iff_not]; omega) | (refine decide_eq_decide.mpr ?_; omega)
def cfgErr (f room pat : Int) : Int := if cfgOK f room pat = true then 0 else 1
def spCfg (F : Int → Int → Int → AV) : Sp := ⟨fun l _ => match l with
  | [.A [.I .i64 _, .I .i64 _, .I .i64 _, .B _]] => true
  | _ => false, fun l _ => match l with
  | [.A [.I .i64 f, .I .i64 room, .I .i64 pat, .B _]] => F f room pat
  | _ => .U, fun _ _ => []⟩
def sp12 : Sp := spCfg fun f room pat => .I .i64 (cfgErr f room pat)
def sp45 : Sp := spCfg fun f room pat => .B (cfgOK f room pat)
theorem sp12_ok (l : List AV) (h : sp12.pre l [] = true) : f12_sem l [] = .ret (sp12.val l []) (sp12.hp l []) := by
  unfold sp12 spCfg at h
  dsimp only at h
  split at h
  · rw [f12_eq, f12_law]; rfl
  · cases h
theorem sp45_ok (l : List AV) (h : sp45.pre l [] = true) : f45_sem l [] = .ret (sp45.val l []) (sp45.hp l []) := by
  unfold sp45 spCfg at h
  dsimp only at h
  split at h
  · rw [f45_eq, f45_law]; rfl
  · cases h
def sp43 : Sp := ⟨fun l _ => match l with
  | [.A [.I .i64 _, .I .i64 _, .S _]] => true
  | _ => false, fun l _ => match l with
  | [.A [.I .i64 k, .I .i64 s, .S v]] => .I .i64 (opErr k s v)
  | _ => .U, fun _ _ => []⟩
theorem sp43_ok (l : List AV) (h : sp43.pre l [] = true) : f43_sem l [] = .ret (sp43.val l []) (sp43.hp l []) := by
  unfold sp43 at h
  dsimp only at h
  split at h
  · rw [f43_eq, f43_law]; rfl
  · cases h
end Go.Vm
