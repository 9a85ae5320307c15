/- Part of a proof: ZzL2. -/
import Derived.Test.YteaplibpphjokaaDoorZzL1
import Derived.Test.YteaplibpphjokaaDoorZzU15
set_option linter.unusedSimpArgs false
set_option linter.unusedVariables false
set_option linter.unusedSectionVars false
namespace Go.Vm
open Go (IntKind Fn)
theorem isWr0_inv {x : HV} (h : isWr0 x = true) : x = wr0 := by
  unfold isWr0 at h
  split at h
  · rfl
  · cases h
theorem f29_law (k : Int) (buf : List UInt8) (bad : Bool) (h : buf.length + (cutB k).length ≤ 140737488355328) : f29_e k buf bad = .ret (.T []) (wr wr0 (buf ++ cutB k) (bad || decide (k < 0))) := by
  have step : ∀ b : Bool, f29_p0 k buf b = .ret (.T []) (wr wr0 (buf ++ cutB k) b) := by
    intro b
    unfold cutB at h ⊢
    rw [f29_p0]
    by_cases hk : 0 < k
    · rw [if_pos hk] at h ⊢
      simp only [List.length_append, List.length_cons, List.length_nil] at h
      rw [iteT hk, chkD (by omega), chk_t (pre14 rfl (by simp only [List.length_append, List.length_cons, List.length_nil]; omega))]
      rfl
    · rw [if_neg hk, iteF hk]
      simp [wr, wr0]
  rw [f29_e]
  cases bad with
  | true => rw [bIte_t rfl, step]; rfl
  | false => rw [bIte_f rfl, step]; rfl
theorem sp29_ok (l : List AV) (h : List HO) (hp : sp29.pre l h = true) : f29_sem l h = .ret (sp29.val l h) (sp29.hp l h) := by
  unfold sp29 at hp
  dsimp only at hp
  split at hp
  case h_2 => cases hp
  rename_i k x buf bad
  simp only [Bool.and_eq_true, decide_eq_true_eq] at hp
  obtain ⟨h1, h2⟩ := hp
  obtain rfl := isWr0_inv h1
  show f29_sem _ [.cells [.a (.P 0 0), _, _]] = _
  rw [f29_eq, f29_law k buf bad h2]
  rfl
theorem pre30 {v : List UInt8} (h : 2 * v.length ≤ 140737488355328) : Sp.pre sp30 [AV.S v] [] = true := decide_eq_true h
theorem hexs_len : ∀ v : List UInt8, (hexs v).length = 2 * v.length
  | [] => rfl
  | c :: r => by simp only [hexs, List.length_cons, hexs_len r]; omega
theorem hexB_le (v : List UInt8) : 2 * v.length ≤ (hexB v).length := by
  unfold hexB
  cases v with
  | nil => simp
  | cons c r => simp [hexs_len]
theorem f28_law (k s : Int) (v buf : List UInt8) (bad : Bool) (h : buf.length + (opB k s v).length ≤ 140737488355328) : f28_e k s v buf bad = .ret (.T []) (wr wr0 (buf ++ opB k s v) (bad || decide (opErr k s v ≠ 0))) := by
  have hv := hexB_le v
  have step : ∀ b : Bool, f28_p0 k s v buf b = .ret (.T []) (wr wr0 (buf ++ opB k s v) b) := by
    intro b
    unfold opB at h ⊢
    rw [f28_p0]
    by_cases h1 : k = 1
    · subst h1
      rw [if_pos rfl] at h ⊢
      simp only [List.length_append, List.length_cons, List.length_nil] at h
      rw [beqT rfl, chkD (by omega), chkD (by simp only [List.length_append, List.length_cons, List.length_nil]; omega), chk_t (pre30 (by omega)), chkD (by simp only [List.length_append, List.length_cons, List.length_nil]; omega), chk_t (pre14 rfl (by simp only [List.length_append, List.length_cons, List.length_nil]; omega))]
      rfl
    rw [if_neg h1] at h ⊢
    rw [beqF h1]
    by_cases h2 : k = 2
    · subst h2
      rw [if_pos rfl] at h ⊢
      simp only [List.length_append, List.length_cons, List.length_nil] at h
      rw [beqT rfl, chk_t (pre30 (by omega)), chkD (by omega), chk_t (pre14 rfl (by simp only [List.length_append, List.length_cons, List.length_nil]; omega))]
      rfl
    rw [if_neg h2] at h ⊢
    rw [beqF h2]
    by_cases h3 : k = 3
    · subst h3
      rw [if_pos rfl] at h ⊢
      simp only [List.length_append, List.length_cons, List.length_nil] at h
      rw [beqT rfl, chkD (by omega), chk_t (pre14 rfl (by simp only [List.length_append, List.length_cons, List.length_nil]; omega))]
      rfl
    rw [if_neg h3] at h ⊢
    rw [beqF h3]
    by_cases h4 : k = 4
    · subst h4
      rw [if_pos rfl] at h ⊢
      simp only [List.length_append, List.length_cons, List.length_nil] at h
      rw [beqT rfl, chk_t (pre14 rfl (by simp only [List.length_append, List.length_cons, List.length_nil]; omega))]
      rfl
    rw [if_neg h4]
    rw [beqF h4]
    simp [wr, wr0]
  rw [f28_e]
  cases bad with
  | true => rw [bIte_t rfl, step]; rfl
  | false =>
    rw [bIte_f rfl, step]
    have e : (opErr k s v != 0) = (false || decide (opErr k s v ≠ 0)) := by
      by_cases h0 : opErr k s v = 0 <;> simp [h0]
    rw [e]
theorem sp28_ok (l : List AV) (h : List HO) (hp : sp28.pre l h = true) : f28_sem l h = .ret (sp28.val l h) (sp28.hp l h) := by
  unfold sp28 at hp
  dsimp only at hp
  split at hp
  case h_2 => cases hp
  rename_i k s v x buf bad
  simp only [Bool.and_eq_true, decide_eq_true_eq] at hp
  obtain ⟨h1, h2⟩ := hp
  obtain rfl := isWr0_inv h1
  show f28_sem _ [.cells [.a (.P 0 0), _, _]] = _
  rw [f28_eq, f28_law k s v buf bad h2]
  rfl
theorem decB_len : ∀ (n m : Nat), m < 10 ^ (n + 1) → (decB m).length ≤ n + 1
  | 0, m, h => by rw [decB_le (by simp at h; omega)]; simp
  | n + 1, m, h => by
    by_cases h9 : m ≤ 9
    · rw [decB_le h9]; simp
    · rw [decB_gt h9]
      have := decB_len n (m / 10) (by rw [Nat.pow_succ] at h; omega)
      simp only [List.length_append, List.length_cons, List.length_nil]
      omega
theorem drawB_len {a b : Int} (h1 : u64 a = true) (h2 : u64 b = true) : (drawB a b).length ≤ 41 := by
  simp only [u64, decide_eq_true_eq] at h1 h2
  have e1 := decB_len 19 a.toNat (by omega)
  have e2 := decB_len 19 b.toNat (by omega)
  unfold drawB
  simp only [List.length_append, List.length_cons, List.length_nil]
  omega
theorem u64_of {g : Gh} {w : Go.World} {n : Int} {v : Go.Value} (h : V g w (.I .u64 n) v) : u64 n = true := by
  simp only [V] at h
  exact decide_eq_true h.2
theorem i63_of {g : Gh} {w : Go.World} {n : Int} {v : Go.Value} (h : V g w (.I .i64 n) v) : i63 n = true := by
  simp only [V] at h
  exact decide_eq_true h.2
theorem draw_of {g : Gh} {w : Go.World} {a b : Int} {vals : List Go.Value} (h : VT g w [.A [.I .u64 a, .I .u64 b]] vals) : u64 a = true ∧ u64 b = true := by
  simp only [VT] at h
  obtain ⟨u, us, _, hu, _⟩ := h
  unfold V at hu
  obtain ⟨vs, _, h1⟩ := hu
  unfold VS at h1
  obtain ⟨u1, us1, _, h2, _, h3⟩ := h1
  unfold VS at h3
  obtain ⟨u2, us2, _, h4, _⟩ := h3
  exact ⟨u64_of h2, u64_of h4⟩
theorem spDraw_inv {l : List AV} {h : List HO} (hp : spDraw.pre l h = true) : ∃ a b, l = [.A [.I .u64 a, .I .u64 b]] := by
  unfold spDraw at hp
  dsimp only at hp
  split at hp
  · exact ⟨_, _, rfl⟩
  · cases hp
theorem f31_law {a b : Int} (h1 : u64 a = true) (h2 : u64 b = true) : f31_e a b = .ret (.S (drawB a b)) [] := by
  have := drawB_len h1 h2
  unfold drawB at this
  simp only [List.length_append, List.length_cons, List.length_nil] at this
  rw [f31_e, chkD (by omega), chkD (by simp only [List.length_append, List.length_cons, List.length_nil]; omega)]
  rfl
end Go.Vm
