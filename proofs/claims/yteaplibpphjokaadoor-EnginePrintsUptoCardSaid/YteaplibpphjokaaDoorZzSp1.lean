/- Part of a proof: ZzSp1. -/
import Derived.Test.YteaplibpphjokaaDoorZzBld
import Derived.Test.YteaplibpphjokaaDoorZzItoa
import Derived.Test.YteaplibpphjokaaDoorZzLaw12
import Derived.Test.YteaplibpphjokaaDoorZzLaw46
import Derived.Test.YteaplibpphjokaaDoorZzLawHex
set_option linter.unusedSimpArgs false
set_option linter.unusedVariables false
set_option linter.unusedSectionVars false
namespace Go.Vm
open Go (IntKind Fn)
def sp14 : Sp := ⟨fun l h => match l with
  | [.P id 0, .S s] => (match bldAt 5 h id with
    | some (x, buf, r) => okZ 63 id x && (decide (buf.length + s.length ≤ 140737488355328) && Nat.beq (r.length + 2) 3)
    | none => false)
  | _ => false, fun l _ => match l with
  | [_, .S s] => .T [.I .i64 s.length, .X0]
  | _ => .U, fun l h => match l with
  | [.P id _, .S s] => (match bldAt 5 h id with
    | some (x, buf, r) => h.set id (.cells (.a (.P id 0) :: .g (.y 5 (buf ++ s)) :: r))
    | none => h)
  | _ => h⟩
def sp16 : Sp := ⟨fun l h => match l with
  | [.P id 0] => (match bldAt 5 h id with
    | some (x, buf, r) => !(buf == []) && decide (buf.length ≤ 140737488355328)
    | none => false)
  | _ => false, fun l h => match l with
  | [.P id _] => (match bldAt 5 h id with
    | some (x, buf, r) => .S buf
    | none => .U)
  | _ => .U, fun l h => match l with
  | [.P id _] => h.set id .no
  | _ => h⟩
theorem sound14 : Sound cx 14 sp14.sem := by
  refine (ws_sound (C := cx) rfl (by kernel_rfl)).sp fun l h hp => ?_
  unfold sp14 at hp ⊢
  dsimp only at hp ⊢
  split at hp
  case h_2 => cases hp
  split at hp
  case h_2 => cases hp
  rename_i id s x buf r e
  simp only [Bool.and_eq_true, decide_eq_true_eq] at hp
  simp only [semWs, e]
  rw [if_pos ⟨hp.1, hp.2.1, Nat.eq_of_beq_eq_true hp.2.2⟩]
theorem sound16 : Sound cx 16 sp16.sem := by
  refine (bs_sound (C := cx) rfl (by kernel_rfl)).sp fun l h hp => ?_
  unfold sp16 at hp ⊢
  dsimp only at hp ⊢
  split at hp
  case h_2 => cases hp
  split at hp
  case h_2 => cases hp
  rename_i id x buf r e
  simp only [Bool.and_eq_true, decide_eq_true_eq, Bool.not_eq_true', beq_eq_false_iff_ne] at hp
  simp only [semBs, e]
  rw [if_pos ⟨hp.1, hp.2⟩]
end Go.Vm
