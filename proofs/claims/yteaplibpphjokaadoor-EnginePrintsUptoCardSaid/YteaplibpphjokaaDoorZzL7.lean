/- Part of a proof: ZzL7. -/
import Derived.Test.YteaplibpphjokaaDoorZzL6
import Derived.Test.YteaplibpphjokaaDoorZzUq
set_option linter.unusedSimpArgs false
set_option linter.unusedVariables false
set_option linter.unusedSectionVars false
namespace Go.Vm
open Go (IntKind Fn)
theorem sp19_ok (l : List AV) (g : Gh) (w : Go.World) (vals : List Go.Value) (h : sp19.pre l [] = true) : f19_sem l [] = .ret (sp19.val l []) (sp19.hp l []) := by
  unfold sp19 at h
  dsimp only at h
  split at h
  case h_2 => cases h
  rename_i a
  simp only [Bool.and_eq_true, decide_eq_true_eq] at h
  obtain ⟨h1, h2, h3, h4⟩ := h
  cases a with
  | A cs =>
    obtain ⟨e, rfl⟩ := isEv_ex h1
    have := f19_law e h2 h3 h4
    rw [← f19_eq] at this
    exact this
  | _ => cases h1
theorem posB_eq {x : Int} (h : 0 ≤ x) : posB x = decI x := by
  unfold posB decI
  rw [if_neg (show ¬ x < 0 by omega)]
  congr 1
  split <;> omega
theorem cut_eq {x : Int} : cutR x = cutB x := by
  unfold cutR cutB
  split
  · unfold decI
    rw [if_neg (by omega)]
  · rfl
theorem opErr_zero {k s : Int} {v : List UInt8} (h : opErr k s v = 0) : (k = 1 ∧ 0 ≤ s) ∨ k = 2 ∨ (k = 3 ∧ 0 ≤ s) ∨ k = 4 := by
  unfold opErr at h
  split at h
  · split at h
    · cases h
    · omega
  · split at h
    · omega
    · cases h
theorem op_eq {k s : Int} {v : List UInt8} (h : opErr k s v = 0) : [32] ++ opR k s v = opB k s v := by
  rcases opErr_zero h with ⟨rfl, h1⟩ | rfl | ⟨rfl, h1⟩ | rfl
  · simp [opR, opB, posB_eq h1]
  · simp [opR, opB]
  · simp [opR, opB, posB_eq h1]
  · simp [opR, opB]
theorem ref_eq {e : Ev} (h : badL e = false) : refS e = lineB e := by
  obtain ⟨k, nd, cl, ix, t, ct, cu, hi, lo, ok, os, ov, bs⟩ := e
  unfold badL at h
  unfold refS lineB
  dsimp only at h ⊢
  by_cases h1 : k = 1
  · subst h1
    simp [anyNeg] at h
    obtain ⟨a, b⟩ := h
    have e1 := op_eq b
    simp [sayB, posB_eq a, ← e1]
  by_cases h2 : k = 12
  · subst h2
    simp [anyNeg] at h
    obtain ⟨⟨⟨a, b⟩, c⟩, d⟩ := h
    rcases opErr_zero d with ⟨rfl, g⟩ | rfl | ⟨rfl, g⟩ | rfl
    · simp at c
    · simp at c
    · simp [sayB, posB_eq a, posB_eq b, opB, posB_eq g]
    · simp [sayB, posB_eq a, posB_eq b, opB]
  simp only [if_neg h1, if_neg h2] at h ⊢
  by_cases h3 : k = 2
  · subst h3; simp [anyNeg] at h; simp [sayB, posB_eq h]
  simp only [if_neg h3] at h ⊢
  by_cases h3 : k = 3
  · subst h3; simp [anyNeg] at h; simp [sayB, posB_eq h.1, cut_eq]
  simp only [if_neg h3] at h ⊢
  by_cases h3 : k = 4
  · subst h3; simp [anyNeg] at h; simp [sayB, posB_eq h]
  simp only [if_neg h3] at h ⊢
  by_cases h3 : k = 5
  · subst h3; simp [anyNeg] at h; simp [sayB, posB_eq h]
  simp only [if_neg h3] at h ⊢
  by_cases h3 : k = 6
  · subst h3; simp [anyNeg] at h; simp [sayB, posB_eq h.1, posB_eq h.2.1, posB_eq h.2.2]
  simp only [if_neg h3] at h ⊢
  by_cases h3 : k = 7
  · subst h3; simp [anyNeg] at h; simp [sayB, posB_eq h.1.1, posB_eq h.1.2]
  simp only [if_neg h3] at h ⊢
  by_cases h3 : k = 8
  · subst h3; simp [anyNeg] at h; simp [sayB, posB_eq h.1, cut_eq]
  simp only [if_neg h3] at h ⊢
  by_cases h3 : k = 9
  · subst h3; simp [anyNeg] at h; simp [sayB, posB_eq h]
  simp only [if_neg h3] at h ⊢
  by_cases h3 : k = 10
  · subst h3; simp [anyNeg] at h; simp [sayB, posB_eq h.1, cut_eq]
  simp only [if_neg h3] at h ⊢
  by_cases h3 : k = 11
  · subst h3; simp [anyNeg] at h; simp [sayB, posB_eq h]
  simp only [if_neg h3] at h ⊢
theorem pre19 {e : Ev} (h1 : rngE e = true) (h2 : (refS e).length ≤ 140737488355328) (h3 : e.bs.length ≤ 140737488355328) : Sp.pre sp19 [AV.A (evA e)] [] = true := by
  show (true && (rngE e && decide ((refS e).length ≤ 140737488355328 ∧ e.bs.length ≤ 140737488355328))) = true
  rw [h1, decide_eq_true ⟨h2, h3⟩]
  rfl
theorem f7_L7_law (k : Nat) : ∀ (r p : List Ev) (buf : List UInt8), (p ++ r).length ≤ 140737488355328 → buf.length + (scrB r).length ≤ 140737488355328 →
    (∀ e ∈ r, rngE e = true ∧ (refS e).length + (lineB e).length + e.bs.length + 1 ≤ 140737488355328) →
    f7_L7 (k + r.length + 1) ((p ++ r).map evA) buf (p.length : Int) = if r.any badL = true then outR [] 150 else outR (buf ++ scrB r) 0 := by
  intro r
  induction r with
  | nil =>
    intro p buf h1 h2 _
    show f7_L7 (k + 1) _ _ _ = _
    rw [f7_L7, iteF (by simp), f7_p9]
    simp [scrB, outR]
  | cons e r ih =>
    intro p buf h1 h2 h3
    rw [scrB_cons] at h2
    simp only [List.length_append, List.length_cons, List.length_nil] at h1 h2
    obtain ⟨q1, q3⟩ := h3 e List.mem_cons_self
    show f7_L7 (k + r.length + 1 + 1) _ _ _ = _
    rw [f7_L7, iteT (by simp; omega), ix_t (by simp), getD_mapE, chk_t (b := noPs [AV.A (evA e)]) rfl, chk_t (pre19 q1 (by omega) (by omega))]
    show bIte (!!badL e) (outR [] 150) (chk (decide (buf.length + (refS e).length ≤ 140737488355328)) (chk (decide ((buf ++ refS e).length + 1 ≤ 140737488355328)) (f7_p8 (f7_L7 (k + r.length + 1)) _ (buf ++ refS e ++ [10]) _))) = _
    rw [Bool.not_not, List.any_cons]
    cases hb : badL e with
    | true => rfl
    | false =>
      rw [ref_eq hb, bIte_f rfl, chkD (by omega), chkD (by simp only [List.length_append]; omega), f7_p8, wrap_i64 (by omega), Bool.false_or]
      have e1 : p ++ e :: r = (p ++ [e]) ++ r := by simp
      have e2 : ((p.length : Int) + 1) = (((p ++ [e]).length : Nat) : Int) := by simp
      rw [e1, e2, ih (p ++ [e]) _ (by simp only [List.length_append, List.length_cons, List.length_nil]; omega) (by simp only [List.length_append, List.length_cons, List.length_nil]; omega)
        (fun x hx => h3 x (List.mem_cons_of_mem _ hx)), scrB_cons]
      simp only [List.append_assoc]
theorem f7_L3_law (k : Nat) (es : List (List AV)) (f rr pp : Int) (u : Bool) : ∀ (r p : List Int) (buf : List UInt8), (p ++ r).length ≤ 140737488355328 → buf.length + (cliB r).length ≤ 140737488355328 → (∀ n ∈ r, 0 ≤ n ∧ n ≤ 9223372036854775807) →
    f7_L3 (k + r.length + 1) es buf (p.length : Int) f rr pp u ((p ++ r).map mkI) = f7_p5 es (buf ++ cliB r) := by
  intro r
  induction r with
  | nil =>
    intro p buf h1 h2 _
    show f7_L3 (k + 1) _ _ _ _ _ _ _ _ = _
    rw [f7_L3, iteF (by simp)]
    simp [cliB]
  | cons n r ih =>
    intro p buf h1 h2 h3
    have hn := h3 n List.mem_cons_self
    have hd : decI n = decB n.toNat := by unfold decI; rw [if_neg (by omega)]
    rw [cliB_cons] at h2
    have hs : sayB [n] = [32] ++ decB n.toNat := by rw [← hd]; simp [sayB]
    rw [hs] at h2
    simp only [List.length_append, List.length_cons, List.length_nil] at h1 h2
    show f7_L3 (k + r.length + 1 + 1) _ _ _ _ _ _ _ _ = _
    rw [f7_L3, iteT (by simp; omega), chkD (by omega), ix_t (by simp), getD_mapI]
    show chk (noPs [AV.I .i64 n]) (chk (Sp.pre sp18 [AV.I .i64 n] []) (chk (noP (Sp.val sp18 [AV.I .i64 n] [])) (chk (decide ((buf ++ [99, 108, 105, 101, 110, 116, 32]).length + (decB n.toNat).length ≤ 140737488355328)) (chk (decide ((buf ++ [99, 108, 105, 101, 110, 116, 32] ++ decB n.toNat).length + 1 ≤ 140737488355328))
      (f7_p4 _ _ (buf ++ [99, 108, 105, 101, 110, 116, 32] ++ decB n.toNat ++ [10]) _ _ _ _ _ _))))) = _
    rw [chk_t (b := noPs [AV.I .i64 n]) rfl, chk_t (pre18 hn), chk_t (b := noP (Sp.val sp18 [AV.I .i64 n] [])) rfl, chkD (by simp only [List.length_append, List.length_cons, List.length_nil]; omega), chkD (by simp only [List.length_append, List.length_cons, List.length_nil]; omega), f7_p4, wrap_i64 (by omega)]
    have e1 : p ++ n :: r = (p ++ [n]) ++ r := by simp
    have e2 : ((p.length : Int) + 1) = (((p ++ [n]).length : Nat) : Int) := by simp
    rw [e1, e2, ih (p ++ [n]) _ (by simp only [List.length_append, List.length_cons, List.length_nil]; omega) (by simp only [List.length_append, List.length_cons, List.length_nil]; omega) (fun x hx => h3 x (List.mem_cons_of_mem _ hx)), cliB_cons, hs]
    congr 1
    simp
end Go.Vm
