/- Part of a proof: ZzLawHex. -/
import Derived.Test.YteaplibpphjokaaDoorZzUa
import Derived.Test.YteaplibpphjokaaDoorZzLaw18
set_option linter.unusedSimpArgs false
set_option linter.unusedVariables false
set_option linter.unusedSectionVars false
namespace Go.Vm
open Go (IntKind Fn)
def hexD (n : Nat) : UInt8 := List.getD [48, 49, 50, 51, 52, 53, 54, 55, 56, 57, 97, 98, 99, 100, 101, 102] n 0
def hexs : List UInt8 → List UInt8
  | [] => []
  | c :: r => hexD (c.toNat / 16) :: hexD (c.toNat % 16) :: hexs r
def hexB (s : List UInt8) : List UInt8 := bif s == [] then [45] else hexs s
theorem ix_t {n len : Nat} (h : n < len) (K : Nat → Res) : ix (n : Int) len K = K n := by
  unfold ix
  rw [if_pos ⟨by omega, by omega⟩]
  rfl
theorem ix_e {x : Int} {n len : Nat} (e : x = (n : Int)) (h : n < len) (K : Nat → Res) : ix x len K = K n := by
  rw [e, ix_t h]
theorem getD_mid (p r : List UInt8) (c : UInt8) : (p ++ c :: r).getD p.length 0 = c := by
  rw [List.getD_eq_getElem?_getD, List.getElem?_append_right (Nat.le_refl _)]
  simp
theorem low4 (c : UInt8) : IntKind.wrap .u8 (BitVec.toNat (BitVec.ofInt 8 (c.toNat : Int) &&& BitVec.ofInt 8 15) : Int) = ((c.toNat % 16 : Nat) : Int) := by
  have h : ∀ m : Fin 256, IntKind.wrap .u8 (BitVec.toNat (BitVec.ofInt 8 (m.val : Int) &&& BitVec.ofInt 8 15) : Int) = ((m.val % 16 : Nat) : Int) := by
    set_option maxRecDepth 100000 in decide
  exact h ⟨c.toNat, c.toNat_lt⟩
theorem hi4 (c : UInt8) : IntKind.wrap .u8 (Int.tdiv (c.toNat : Int) 16) = ((c.toNat / 16 : Nat) : Int) := by
  have h := c.toNat_lt
  have e : Int.tdiv (c.toNat : Int) 16 = ((c.toNat / 16 : Nat) : Int) := rfl
  rw [e, wrap_u8 (by omega)]
theorem hi4f (c : UInt8) : Int.fdiv (c.toNat : Int) 16 = ((c.toNat / 16 : Nat) : Int) := by
  rw [Int.fdiv_eq_ediv_of_nonneg _ (by decide)]
  rfl
theorem byte_id (n : Nat) : UInt8.ofNat (Int.toNat ((UInt8.toNat (List.getD [48, 49, 50, 51, 52, 53, 54, 55, 56, 57, 97, 98, 99, 100, 101, 102] n 0) : Nat) : Int)) = hexD n := by
  unfold hexD
  simp
theorem f33_L2_law (k : Nat) : ∀ (r p s : List UInt8), (p ++ r).length ≤ 140737488355328 → s.length + 2 * r.length ≤ 140737488355328 →
    f33_L2 (k + r.length + 1) (p ++ r) (p.length : Int) s = .ret (.S (s ++ hexs r)) [] := by
  intro r
  induction r with
  | nil =>
    intro p s h1 h2
    show f33_L2 (k + 1) _ _ _ = _
    simp only [List.length_nil] at h2
    rw [f33_L2, bIte_f (by simp), f33_p6, chk_t (by simp; omega)]
    simp [hexs]
  | cons c r ih =>
    intro p s h1 h2
    simp only [List.length_append, List.length_cons] at h1 h2
    show f33_L2 (k + r.length + 1 + 1) _ _ _ = _
    rw [f33_L2, bIte_t (by simp; omega), ix_t (by simp), getD_mid, ix_e (hi4 c) (by have := c.toNat_lt; omega), ix_t (by simp), getD_mid, ix_e (x := Int.tmod _ 16) (n := c.toNat % 16) rfl (by omega), chk_t (by simp; omega), f33_p5, byte_id, byte_id, wrap_i64 (by omega)]
    have e : p ++ c :: r = (p ++ [c]) ++ r := by simp
    have e2 : ((p.length : Int) + 1) = (((p ++ [c]).length : Nat) : Int) := by simp
    rw [e, e2, ih (p ++ [c]) _ (by simp; omega) (by simp; omega)]
    simp [hexs]
theorem f33_law (s : List UInt8) (h : 2 * s.length ≤ 140737488355328) : f33_e s = .ret (.S (hexB s)) [] := by
  unfold f33_e hexB
  cases s with
  | nil => rfl
  | cons c r =>
    obtain ⟨k, hk⟩ : ∃ k, FU = k + (c :: r).length + 1 := ⟨FU - ((c :: r).length + 1), by have := FU_ge; omega⟩
    show f33_L2 FU (c :: r) 0 [] = _
    have := f33_L2_law k (c :: r) [] [] (by simp at h ⊢; omega) (by simpa using h)
    rw [hk]
    exact this
theorem f30_L2_law (k : Nat) : ∀ (r p s : List UInt8), (p ++ r).length ≤ 140737488355328 → s.length + 2 * r.length ≤ 140737488355328 →
    f30_L2 (k + r.length + 1) (p ++ r) ((p ++ r).length : Int) (p.length : Int) s = .ret (.S (s ++ hexs r)) [] := by
  intro r
  induction r with
  | nil =>
    intro p s h1 h2
    show f30_L2 (k + 1) _ _ _ _ = _
    simp only [List.length_nil] at h2
    rw [f30_L2, bIte_f (by simp), f30_p6, chk_t (by simp; omega)]
    simp [hexs]
  | cons c r ih =>
    intro p s h1 h2
    simp only [List.length_append, List.length_cons] at h1 h2
    show f30_L2 (k + r.length + 1 + 1) _ _ _ _ = _
    rw [f30_L2, bIte_t (by simp; omega), ix_t (by simp), getD_mid, ix_e (hi4f c) (by have := c.toNat_lt; omega), ix_t (by simp), getD_mid, ix_e (low4 c) (by omega), chk_t (by simp; omega), f30_p5, byte_id, byte_id, wrap_i64 (by omega)]
    have e : p ++ c :: r = (p ++ [c]) ++ r := by simp
    have e2 : ((p.length : Int) + 1) = (((p ++ [c]).length : Nat) : Int) := by simp
    rw [e, e2, ih (p ++ [c]) _ (by simp; omega) (by simp; omega)]
    simp [hexs]
theorem f30_law (s : List UInt8) (h : 2 * s.length ≤ 140737488355328) : f30_e s = .ret (.S (hexB s)) [] := by
  unfold f30_e hexB
  cases s with
  | nil => rfl
  | cons c r =>
    obtain ⟨k, hk⟩ : ∃ k, FU = k + (c :: r).length + 1 := ⟨FU - ((c :: r).length + 1), by have := FU_ge; omega⟩
    show f30_L2 FU (c :: r) _ 0 [] = _
    have := f30_L2_law k (c :: r) [] [] (by simp at h ⊢; omega) (by simpa using h)
    rw [hk]
    exact this
def spHex : Sp := ⟨fun l _ => match l with
  | [.S s] => decide (2 * s.length ≤ 140737488355328)
  | _ => false, fun l _ => match l with
  | [.S s] => .S (hexB s)
  | _ => .U, fun _ _ => []⟩
def sp33 : Sp := spHex
def sp30 : Sp := spHex
theorem sp33_ok (l : List AV) (h : sp33.pre l [] = true) : f33_sem l [] = .ret (sp33.val l []) (sp33.hp l []) := by
  unfold sp33 spHex at h
  dsimp only at h
  split at h
  · rename_i s
    rw [f33_eq, f33_law s (by simpa using h)]
    rfl
  · cases h
theorem sp30_ok (l : List AV) (h : sp30.pre l [] = true) : f30_sem l [] = .ret (sp30.val l []) (sp30.hp l []) := by
  unfold sp30 spHex at h
  dsimp only at h
  split at h
  · rename_i s
    rw [f30_eq, f30_law s (by simpa using h)]
    rfl
  · cases h
end Go.Vm
