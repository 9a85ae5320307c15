/- Part of a proof: ZzL6. -/
import Derived.Test.YteaplibpphjokaaDoorZzL5
import Derived.Test.YteaplibpphjokaaDoorZzU19
set_option linter.unusedSimpArgs false
set_option linter.unusedVariables false
set_option linter.unusedSectionVars false
namespace Go.Vm
open Go (IntKind Fn)
theorem pre18p {n : Int} (h : i63 n = true) : Sp.pre sp18 [AV.I IntKind.i64 (if n > 0 then n else 0)] [] = true := by
  have := i63_iff h
  exact pre18 (by split <;> omega)
theorem pre35 {n : Int} (h : i63 n = true) : Sp.pre sp35 [AV.I IntKind.i64 n] [] = true := decide_eq_true (i63_iff h).2
theorem pre33 {v : List UInt8} (h : 2 * v.length ≤ 140737488355328) : Sp.pre sp33 [AV.S v] [] = true := decide_eq_true h
theorem geN (x : Int) : decide (x ≥ 0) = !decide (x < 0) := by by_cases h : x < 0 <;> simp [h] <;> omega
theorem beqN (a b : Int) : (a == b) = !decide (a ≠ b) := by by_cases h : a = b <;> simp [h]
def outS (s : List UInt8) (b : Bool) : Res := .ret (.T [.S s, .B b]) []
theorem andR (c b : Bool) (s : List UInt8) : bIte c (Res.ret (AV.T [AV.S s, AV.B b]) []) (Res.ret (AV.T [AV.S s, AV.B false]) []) = outS s (c && b) := by cases c <;> rfl
theorem outS_eq {s s' : List UInt8} {b b' : Bool} (hs : s = s') (hb : b = b') : outS s b = outS s' b' := by rw [hs, hb]
theorem cutR_len {n : Int} (h : i63 n = true) : (cutR n).length ≤ 24 := by
  have := decB_len63 h
  unfold cutR
  split
  · simp only [List.length_append, List.length_cons, List.length_nil]; omega
  · simp
theorem f19_law (e : Ev) (hr : rngE e = true) (h : (refS e).length ≤ 140737488355328) (hbs : e.bs.length ≤ 140737488355328) : f19_e e.k e.nd e.cl e.ix e.at_ e.ct e.cu e.hi e.lo e.ok e.os e.ov e.bs = outS (refS e) (!badL e) := by
  obtain ⟨k, nd, cl, ix, t, ct, cu, hi, lo, ok, os, ov, bs⟩ := e
  simp only [rngE, Bool.and_eq_true] at hr
  obtain ⟨r1, r2, r3, r4, r5, r6, r7, r8, r9⟩ := hr
  have q1 := posB_len r1
  have q2 := posB_len r2
  have q3 := posB_len r3
  have q4 := posB_len r4
  have q5 := posB_len r5
  have q7 := posB_len r7
  have q6 := cutR_len r6
  have q8 := drawB_len r8 r9
  have qv := hexB_le ov
  have qb := hexB_le bs
  unfold refS at h ⊢
  unfold badL
  dsimp only at h ⊢
  have P : ∀ x : Int, decB (Int.toNat (if x > 0 then x else 0)) = posB x := fun _ => rfl
  rw [f19_e]
  simp only [P]
  by_cases h1 : k = 1
  · rw [if_pos h1] at h ⊢
    subst h1
    rw [beqT rfl]
    simp only [List.length_append, List.length_cons, List.length_nil] at h
    rw [chk_t (pre18p r2), chkD (by omega), chkD (by simp only [List.length_append, List.length_cons, List.length_nil]; omega)]
    have fp : ∀ s : List UInt8, f19_p0 s 1 nd cl ix t ct cu hi lo ok os ov bs = outS s (!(anyNeg [cl] || decide (opErr ok os ov ≠ 0))) := by
      intro s
      rw [f19_p0, andR]
      refine outS_eq rfl ?_
      show _ = !((decide (cl < 0) || false) || _)
      rw [geN, beqN]
      cases decide (cl < 0) <;> cases decide (opErr ok os ov ≠ 0) <;> rfl
    simp only [fp]
    unfold opR at h ⊢
    by_cases g1 : ok = 1
    · rw [if_pos g1] at h ⊢
      simp only [List.length_append, List.length_cons, List.length_nil] at h
      rw [beqT g1, chkD (by simp only [List.length_append, List.length_cons, List.length_nil]; omega), chk_t (pre18p r7), chkD (by simp only [List.length_append, List.length_cons, List.length_nil]; omega), chkD (by simp only [List.length_append, List.length_cons, List.length_nil]; omega), chk_t (pre33 (by omega)), chkD (by simp only [List.length_append, List.length_cons, List.length_nil]; omega)]
      exact outS_eq (by simp only [List.append_assoc]) rfl
    rw [if_neg g1] at h ⊢
    rw [beqF g1]
    by_cases g1 : ok = 2
    · rw [if_pos g1] at h ⊢
      simp only [List.length_append, List.length_cons, List.length_nil] at h
      rw [beqT g1, chkD (by simp only [List.length_append, List.length_cons, List.length_nil]; omega), chk_t (pre33 (by omega)), chkD (by simp only [List.length_append, List.length_cons, List.length_nil]; omega)]
      exact outS_eq (by simp only [List.append_assoc]) rfl
    rw [if_neg g1] at h ⊢
    rw [beqF g1]
    by_cases g1 : ok = 3
    · rw [if_pos g1] at h ⊢
      rw [beqT g1, chkD (by simp only [List.length_append, List.length_cons, List.length_nil]; omega), chk_t (pre18p r7), chkD (by simp only [List.length_append, List.length_cons, List.length_nil]; omega)]
      exact outS_eq (by simp only [List.append_assoc]) rfl
    rw [if_neg g1] at h ⊢
    rw [beqF g1]
    by_cases g1 : ok = 4
    · rw [if_pos g1] at h ⊢
      rw [beqT g1, chkD (by simp only [List.length_append, List.length_cons, List.length_nil]; omega)]
      exact outS_eq (by simp only [List.append_assoc]) rfl
    rw [if_neg g1] at h ⊢
    rw [beqF g1]
    exact outS_eq (by simp) rfl
  rw [if_neg h1] at h ⊢
  rw [beqF h1]
  by_cases h1 : k = 12
  · rw [if_pos h1] at h ⊢
    subst h1
    rw [beqT rfl]
    simp only [List.length_append, List.length_cons, List.length_nil] at h
    rw [chk_t (pre18p r2), chkD (by omega), chkD (by simp only [List.length_append, List.length_cons, List.length_nil]; omega), chk_t (pre18p r1), chkD (by simp only [List.length_append, List.length_cons, List.length_nil]; omega)]
    have fp : ∀ s : List UInt8, f19_p1 s 12 nd cl ix t ct cu hi lo ok os ov bs = outS s (!(anyNeg [cl, nd] || (decide (ok ≠ 3) && decide (ok ≠ 4)) || decide (opErr ok os ov ≠ 0))) := by
      intro s
      rw [f19_p1]
      have a1 : bIte (ok == 3) (Res.ret (AV.T [AV.S s, AV.B true]) []) (Res.ret (AV.T [AV.S s, AV.B (ok == 4)]) []) = outS s (ok == 3 || ok == 4) := by cases ok == 3 <;> rfl
      rw [a1]
      unfold outS
      rw [andR]
      unfold outS
      rw [andR]
      unfold outS
      rw [andR]
      refine outS_eq rfl ?_
      show _ = !((decide (cl < 0) || (decide (nd < 0) || false)) || _ || _)
      rw [geN, geN, beqN, beqN, beqN]
      cases decide (cl < 0) <;> cases decide (nd < 0) <;> cases decide (ok ≠ 3) <;> cases decide (ok ≠ 4) <;> cases decide (opErr ok os ov ≠ 0) <;> rfl
    simp only [fp]
    by_cases g1 : ok = 3
    · rw [if_pos g1] at h ⊢
      rw [beqT g1, chkD (by simp only [List.length_append, List.length_cons, List.length_nil]; omega), chk_t (pre18p r7), chkD (by simp only [List.length_append, List.length_cons, List.length_nil]; omega)]
      exact outS_eq (by simp only [List.append_assoc]) rfl
    rw [if_neg g1] at h ⊢
    rw [beqF g1, chkD (by simp only [List.length_append, List.length_cons, List.length_nil]; omega)]
    exact outS_eq (by simp only [List.append_assoc]) rfl
  rw [if_neg h1] at h ⊢
  rw [beqF h1]
  by_cases h1 : k = 2
  · rw [if_pos h1] at h ⊢
    subst h1
    rw [beqT rfl]
    simp only [List.length_append, List.length_cons, List.length_nil] at h
    rw [chk_t (pre18p r2), chkD (by omega)]
    exact outS_eq rfl (by by_cases n1 : cl < 0 <;> simp [anyNeg, n1] <;> omega)
  rw [if_neg h1] at h ⊢
  rw [beqF h1]
  by_cases h1 : k = 3
  · rw [if_pos h1] at h ⊢
    subst h1
    rw [beqT rfl]
    simp only [List.length_append, List.length_cons, List.length_nil] at h
    rw [chk_t (pre18p r3), chkD (by omega), chk_t (pre35 r6), chkD (by simp only [List.length_append, List.length_cons, List.length_nil]; omega), andR]
    exact outS_eq (by simp only [List.append_assoc]) (by by_cases n1 : ix < 0 <;> by_cases n2 : cu < 0 <;> simp [anyNeg, n1, n2] <;> omega)
  rw [if_neg h1] at h ⊢
  rw [beqF h1]
  by_cases h1 : k = 4
  · rw [if_pos h1] at h ⊢
    subst h1
    rw [beqT rfl]
    simp only [List.length_append, List.length_cons, List.length_nil] at h
    rw [chk_t (pre18p r3), chkD (by omega)]
    exact outS_eq rfl (by by_cases n1 : ix < 0 <;> simp [anyNeg, n1] <;> omega)
  rw [if_neg h1] at h ⊢
  rw [beqF h1]
  by_cases h1 : k = 5
  · rw [if_pos h1] at h ⊢
    subst h1
    rw [beqT rfl]
    simp only [List.length_append, List.length_cons, List.length_nil] at h
    rw [chk_t (pre18p r3), chkD (by omega)]
    exact outS_eq rfl (by by_cases n1 : ix < 0 <;> simp [anyNeg, n1] <;> omega)
  rw [if_neg h1] at h ⊢
  rw [beqF h1]
  by_cases h1 : k = 6
  · rw [if_pos h1] at h ⊢
    subst h1
    rw [beqT rfl]
    simp only [List.length_append, List.length_cons, List.length_nil] at h
    rw [chk_t (pre18p r3), chkD (by omega), chkD (by simp only [List.length_append, List.length_cons, List.length_nil]; omega), chk_t (pre18p r4), chkD (by simp only [List.length_append, List.length_cons, List.length_nil]; omega), chkD (by simp only [List.length_append, List.length_cons, List.length_nil]; omega), chk_t (pre18p r5), chkD (by simp only [List.length_append, List.length_cons, List.length_nil]; omega), andR]
    unfold outS
    rw [andR]
    exact outS_eq (by simp only [List.append_assoc]) (by by_cases n1 : ix < 0 <;> by_cases n2 : t < 0 <;> by_cases n3 : ct < 0 <;> simp [anyNeg, n1, n2, n3] <;> omega)
  rw [if_neg h1] at h ⊢
  rw [beqF h1]
  by_cases h1 : k = 7
  · rw [if_pos h1] at h ⊢
    subst h1
    rw [beqT rfl]
    simp only [List.length_append, List.length_cons, List.length_nil] at h
    rw [chk_t (pre18p r4), chkD (by omega), chkD (by simp only [List.length_append, List.length_cons, List.length_nil]; omega), chk_t (pre18p r1), chkD (by simp only [List.length_append, List.length_cons, List.length_nil]; omega), chkD (by simp only [List.length_append, List.length_cons, List.length_nil]; omega), chkD (by omega), chk_t (pre33 (by omega)), chkD (by simp only [List.length_append, List.length_cons, List.length_nil]; omega), andR]
    unfold outS
    rw [andR]
    exact outS_eq (by simp only [List.append_assoc]) (by by_cases n1 : t < 0 <;> by_cases n2 : nd < 0 <;> by_cases n3 : (bs.length : Int) > 32768 <;> simp [anyNeg, n1, n2, n3] <;> omega)
  rw [if_neg h1] at h ⊢
  rw [beqF h1]
  by_cases h1 : k = 8
  · rw [if_pos h1] at h ⊢
    subst h1
    rw [beqT rfl]
    simp only [List.length_append, List.length_cons, List.length_nil] at h
    rw [chk_t (pre18p r1), chkD (by omega), chk_t (pre35 r6), chkD (by simp only [List.length_append, List.length_cons, List.length_nil]; omega), andR]
    exact outS_eq (by simp only [List.append_assoc]) (by by_cases n1 : nd < 0 <;> by_cases n2 : cu < 0 <;> simp [anyNeg, n1, n2] <;> omega)
  rw [if_neg h1] at h ⊢
  rw [beqF h1]
  by_cases h1 : k = 9
  · rw [if_pos h1] at h ⊢
    subst h1
    rw [beqT rfl]
    simp only [List.length_append, List.length_cons, List.length_nil] at h
    rw [chk_t (pre18p r1), chkD (by omega)]
    exact outS_eq rfl (by by_cases n1 : nd < 0 <;> simp [anyNeg, n1] <;> omega)
  rw [if_neg h1] at h ⊢
  rw [beqF h1]
  by_cases h1 : k = 10
  · rw [if_pos h1] at h ⊢
    subst h1
    rw [beqT rfl]
    simp only [List.length_append, List.length_cons, List.length_nil] at h
    rw [chk_t (pre18p r1), chkD (by omega), chkD (by simp only [List.length_append, List.length_cons, List.length_nil]; omega), chkD (by simp only [List.length_append, List.length_cons, List.length_nil]; omega), chk_t (pre35 r6), chkD (by simp only [List.length_append, List.length_cons, List.length_nil]; omega), andR]
    exact outS_eq (by simp only [List.append_assoc]) (by by_cases n1 : nd < 0 <;> by_cases n2 : cu < 0 <;> simp [anyNeg, n1, n2] <;> omega)
  rw [if_neg h1] at h ⊢
  rw [beqF h1]
  by_cases h1 : k = 11
  · rw [if_pos h1] at h ⊢
    subst h1
    rw [beqT rfl]
    simp only [List.length_append, List.length_cons, List.length_nil] at h
    rw [chk_t (pre18p r5), chkD (by omega)]
    exact outS_eq rfl (by by_cases n1 : ct < 0 <;> simp [anyNeg, n1] <;> omega)
  rw [if_neg h1] at h ⊢
  rw [beqF h1]
  rw [f19_p2]
  have g : (if k = 1 then anyNeg [cl] || decide (opErr ok os ov ≠ 0) else if k = 2 then anyNeg [cl] else if k = 3 then anyNeg [ix] || decide (cu < 0) else if k = 4 then anyNeg [ix] else if k = 5 then anyNeg [ix] else if k = 6 then anyNeg [ix, t, ct] else if k = 7 then anyNeg [t, nd] || decide ((bs.length : Int) > 32768) else if k = 8 then anyNeg [nd] || decide (cu < 0) else if k = 9 then anyNeg [nd] else if k = 10 then anyNeg [nd] || decide (cu < 0) else if k = 11 then anyNeg [ct] else if k = 12 then anyNeg [cl, nd] || (decide (ok ≠ 3) && decide (ok ≠ 4)) || decide (opErr ok os ov ≠ 0) else true) = true := by simp [*]
  rw [g]
  rfl
end Go.Vm
