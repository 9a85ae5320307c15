/- Part of a proof: ZzLaw18. -/
import Derived.Test.YteaplibpphjokaaDoorZzU18
set_option linter.unusedSimpArgs false
set_option linter.unusedVariables false
set_option linter.unusedSectionVars false
namespace Go.Vm
open Go (IntKind Fn)
def decB : Nat → List UInt8 := fun n => if h : n ≤ 9 then [UInt8.ofNat (48 + n)] else decB (n / 10) ++ [UInt8.ofNat (48 + n % 10)]
termination_by n => n
decreasing_by omega
theorem decB_le {n : Nat} (h : n ≤ 9) : decB n = [UInt8.ofNat (48 + n)] := by
  rw [decB]; simp [h]
theorem decB_gt {n : Nat} (h : ¬ n ≤ 9) : decB n = decB (n / 10) ++ [UInt8.ofNat (48 + n % 10)] := by
  rw [decB]; simp [h]
theorem wrap_i64 {x : Int} (h : -9223372036854775808 ≤ x ∧ x ≤ 9223372036854775807) : IntKind.wrap .i64 x = x := Go.IntWalk.i64_in x h
theorem wrap_u8 {x : Int} (h : 0 ≤ x ∧ x ≤ 255) : IntKind.wrap .u8 x = x := Go.IntWalk.u8_in x h
theorem chk_t {b : Bool} (h : b = true) (r : Res) : chk b r = r := by rw [h]; rfl
theorem bIte_t {b : Bool} (h : b = true) (r q : Res) : bIte b r q = r := by rw [h]; rfl
theorem bIte_f {b : Bool} (h : b = false) (r q : Res) : bIte b r q = q := by rw [h]; rfl
theorem dig (m : Nat) (h : m ≤ 9) : (IntKind.wrap .u8 (IntKind.wrap .i64 (48 + (m : Int)))).toNat = 48 + m := by
  rw [wrap_i64 (by omega), wrap_u8 (by omega)]; omega
theorem f18_L1_law (k : Nat) : ∀ (n : Nat) (m : Nat) (s : List UInt8), m < 10 ^ (n + 1) → m ≤ 9223372036854775807 → s.length + n + 1 ≤ 140737488355328 →
    f18_L1 (k + n + 1) (m : Int) s = .ret (.S (decB m ++ s)) [] := by
  intro n
  induction n with
  | zero =>
    intro m s h1 h2 h3
    have h9 : m ≤ 9 := by simp at h1; omega
    rw [f18_L1, bIte_f (by simp; omega), f18_p1, chk_t (by simp; omega), dig m h9, decB_le h9]
    rfl
  | succ n ih =>
    intro m s h1 h2 h3
    show f18_L1 (k + n + 1 + 1) (m : Int) s = _
    rw [f18_L1]
    by_cases hm : m ≤ 9
    · rw [bIte_f (by simp; omega), f18_p1, chk_t (by simp; omega), dig m hm, decB_le hm]
      rfl
    · have e1 : Int.tdiv (m : Int) 10 = ((m / 10 : Nat) : Int) := rfl
      have e2 : Int.tmod (m : Int) 10 = ((m % 10 : Nat) : Int) := rfl
      rw [bIte_t (by simp; omega), chk_t (by simp; omega), e1, e2, dig (m % 10) (by omega), wrap_i64 (by omega), ih (m / 10) _ (by rw [Nat.pow_succ] at h1; omega) (by omega) (by simp; omega), decB_gt hm]
      simp
theorem f18_law (m : Nat) (h : m ≤ 9223372036854775807) : f18_e (m : Int) = .ret (.S (decB m)) [] := by
  obtain ⟨k, hk⟩ : ∃ k, FU = k + 18 + 1 := ⟨FU - 19, by have := FU_ge; omega⟩
  show f18_L1 FU (m : Int) [] = _
  rw [hk, f18_L1_law k 18 m [] (by omega) h (by simp), List.append_nil]
def sp18 : Sp := ⟨fun l _ => match l with
  | [.I .i64 n] => decide (0 ≤ n ∧ n ≤ 9223372036854775807)
  | _ => false, fun l _ => match l with
  | [.I .i64 n] => .S (decB n.toNat)
  | _ => .U, fun _ _ => []⟩
theorem sp18_ok (l : List AV) (h : sp18.pre l [] = true) : f18_sem l [] = .ret (sp18.val l []) (sp18.hp l []) := by
  unfold sp18 at h
  dsimp only at h
  split at h
  · rename_i n
    have hn : 0 ≤ n ∧ n ≤ 9223372036854775807 := by simpa using h
    obtain ⟨m, rfl⟩ : ∃ m : Nat, n = (m : Int) := ⟨n.toNat, by omega⟩
    rw [f18_eq, f18_law m (by omega)]
    rfl
  · cases h
end Go.Vm
