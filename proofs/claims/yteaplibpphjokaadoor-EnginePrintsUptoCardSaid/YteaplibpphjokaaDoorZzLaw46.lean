/- Part of a proof: ZzLaw46. -/
import Derived.Test.YteaplibpphjokaaDoorZzUa
import Derived.Test.YteaplibpphjokaaDoorZzLawOp
set_option linter.unusedSimpArgs false
set_option linter.unusedVariables false
set_option linter.unusedSectionVars false
namespace Go.Vm
open Go (IntKind Fn)
theorem wrap_u64 {x : Int} (h : 0 ≤ x ∧ x ≤ 18446744073709551615) : IntKind.wrap .u64 x = x := Go.IntWalk.u64_in x h
theorem digU (m : Nat) (h : m ≤ 9) : (IntKind.wrap .u8 (IntKind.wrap .u64 (48 + (m : Int)))).toNat = 48 + m := by
  rw [wrap_u64 (by omega), wrap_u8 (by omega)]; omega
def decH (m : Nat) : List UInt8 := if m ≤ 9 then [] else decB (m / 10)
theorem decB_H (m : Nat) : decB m = decH m ++ [UInt8.ofNat (48 + m % 10)] := by
  unfold decH
  by_cases h : m ≤ 9
  · rw [if_pos h, decB_le h, Nat.mod_eq_of_lt (by omega)]; rfl
  · rw [if_neg h, decB_gt h]
theorem f46_L1_law (k : Nat) : ∀ (n : Nat) (m : Nat) (s : List UInt8), m < 10 ^ (n + 1) → m ≤ 18446744073709551615 → s.length + n + 1 ≤ 140737488355328 →
    f46_L1 (k + n + 1) (m : Int) s = .ret (.S (decH m ++ s)) [] := by
  intro n
  induction n with
  | zero =>
    intro m s h1 h2 h3
    have h9 : m ≤ 9 := by simp at h1; omega
    rw [f46_L1, bIte_f (by simp; omega), f46_p1, decH, if_pos h9]
    rfl
  | succ n ih =>
    intro m s h1 h2 h3
    show f46_L1 (k + n + 1 + 1) (m : Int) s = _
    rw [f46_L1]
    by_cases hm : m ≤ 9
    · rw [bIte_f (by simp; omega), f46_p1, decH, if_pos hm]
      rfl
    · have e1 : Int.tdiv (m : Int) 10 = ((m / 10 : Nat) : Int) := rfl
      have e2 : Int.tmod ((m / 10 : Nat) : Int) 10 = ((m / 10 % 10 : Nat) : Int) := rfl
      rw [bIte_t (by simp; omega), chk_t (by simp; omega), e1, wrap_u64 (by omega), e2, digU (m / 10 % 10) (by omega), ih (m / 10) _ (by rw [Nat.pow_succ] at h1; omega) (by omega) (by simp; omega), decH, decH, if_neg hm]
      have := decB_H (m / 10)
      rw [decH] at this
      rw [this]
      simp
theorem f46_law (m : Nat) (h : m ≤ 18446744073709551615) : f46_e (m : Int) = .ret (.S (decB m)) [] := by
  obtain ⟨k, hk⟩ : ∃ k, FU = k + 19 + 1 := ⟨FU - 20, by have := FU_ge; omega⟩
  have e2 : Int.tmod (m : Int) 10 = ((m % 10 : Nat) : Int) := rfl
  show f46_L1 FU (m : Int) _ = _
  rw [hk, f46_L1_law k 19 m _ (by omega) h (by simp), e2, digU (m % 10) (by omega), decB_H m]
  rfl
def sp46 : Sp := ⟨fun l _ => match l with
  | [.I .u64 n] => decide (0 ≤ n ∧ n ≤ 18446744073709551615)
  | _ => false, fun l _ => match l with
  | [.I .u64 n] => .S (decB n.toNat)
  | _ => .U, fun _ _ => []⟩
theorem sp46_ok (l : List AV) (h : sp46.pre l [] = true) : f46_sem l [] = .ret (sp46.val l []) (sp46.hp l []) := by
  unfold sp46 at h
  dsimp only at h
  split at h
  · rename_i n
    have hn : 0 ≤ n ∧ n ≤ 18446744073709551615 := by simpa using h
    obtain ⟨m, rfl⟩ : ∃ m : Nat, n = (m : Int) := ⟨n.toNat, by omega⟩
    rw [f46_eq, f46_law m (by omega)]
    rfl
  · cases h
end Go.Vm
