/- Part of a proof: ZzL3. -/
import Derived.Test.YteaplibpphjokaaDoorZzL2
set_option linter.unusedSimpArgs false
set_option linter.unusedVariables false
set_option linter.unusedSectionVars false
namespace Go.Vm
open Go (IntKind Fn)
theorem pre13 {s buf : List UInt8} {bad : Bool} {x : HV} {xs : List (List AV)} (ns : List Int) (e : xs = ns.map mkI) (hx : okZ 63 0 x = true) (hn : ns.length ≤ 140737488355328) (h : buf.length + s.length + (sayB ns).length ≤ 140737488355328) :
    Sp.pre sp13 [AV.P 0 0, AV.S s, AV.L 1 xs] [HO.cells [x, HV.g (SC.y 5 buf), HV.a (AV.B bad)]] = true := by
  subst e
  have h1 : (ns.map mkI).all isInt = true := by
    rw [List.all_eq_true]
    intro y hy
    obtain ⟨n, _, rfl⟩ := List.mem_map.1 hy
    rfl
  have h2 : (ns.map mkI).map intOf = ns := by
    rw [List.map_map]
    exact List.map_id' ns
  show (okZ 63 0 x && ((ns.map mkI).all isInt && decide (buf.length + s.length + (sayB ((ns.map mkI).map intOf)).length ≤ big ∧ (ns.map mkI).length ≤ big))) = true
  rw [hx, h1, h2, decide_eq_true ⟨h, by rw [List.length_map]; exact hn⟩]
  rfl
theorem pre13_1 {s buf : List UInt8} {bad : Bool} {x : HV} {a : Int} (hx : okZ 63 0 x = true) (h : buf.length + s.length + (sayB [a]).length ≤ 140737488355328) :
    Sp.pre sp13 [AV.P 0 0, AV.S s, AV.L 1 [[AV.I IntKind.i64 a]]] [HO.cells [x, HV.g (SC.y 5 buf), HV.a (AV.B bad)]] = true := pre13 [a] rfl hx (by simp) h
theorem pre13_2 {s buf : List UInt8} {bad : Bool} {x : HV} {a b : Int} (hx : okZ 63 0 x = true) (h : buf.length + s.length + (sayB [a, b]).length ≤ 140737488355328) :
    Sp.pre sp13 [AV.P 0 0, AV.S s, AV.L 1 [[AV.I IntKind.i64 a], [AV.I IntKind.i64 b]]] [HO.cells [x, HV.g (SC.y 5 buf), HV.a (AV.B bad)]] = true := pre13 [a, b] rfl hx (by simp) h
theorem pre13_3 {s buf : List UInt8} {bad : Bool} {x : HV} {a b c : Int} (hx : okZ 63 0 x = true) (h : buf.length + s.length + (sayB [a, b, c]).length ≤ 140737488355328) :
    Sp.pre sp13 [AV.P 0 0, AV.S s, AV.L 1 [[AV.I IntKind.i64 a], [AV.I IntKind.i64 b], [AV.I IntKind.i64 c]]] [HO.cells [x, HV.g (SC.y 5 buf), HV.a (AV.B bad)]] = true := pre13 [a, b, c] rfl hx (by simp) h
theorem pre28 {k s : Int} {v buf : List UInt8} {bad : Bool} (h : buf.length + (opB k s v).length ≤ 140737488355328) :
    Sp.pre sp28 [AV.P 0 0, AV.A [AV.I IntKind.i64 k, AV.I IntKind.i64 s, AV.S v]] [HO.cells [HV.a (AV.P 0 0), HV.g (SC.y 5 buf), HV.a (AV.B bad)]] = true := by
  show (true && decide (buf.length + (opB k s v).length ≤ 140737488355328)) = true
  rw [decide_eq_true h]
  rfl
theorem pre29 {k : Int} {buf : List UInt8} {bad : Bool} (h : buf.length + (cutB k).length ≤ 140737488355328) :
    Sp.pre sp29 [AV.P 0 0, AV.I IntKind.i64 k] [HO.cells [HV.a (AV.P 0 0), HV.g (SC.y 5 buf), HV.a (AV.B bad)]] = true := by
  show (true && decide (buf.length + (cutB k).length ≤ 140737488355328)) = true
  rw [decide_eq_true h]
  rfl
theorem f15_p0_law (buf : List UInt8) (bad : Bool) (h : buf.length + 1 ≤ 140737488355328) : f15_p0 buf bad = .ret (.T []) (wr wr0 (buf ++ [10]) bad) := by
  rw [f15_p0, chk_t (pre14 rfl h)]
  rfl
theorem f15_p0_law' (buf l : List UInt8) (bad : Bool) (b' : Bool) (e : buf = l) (e' : bad = b') (h : l.length + 1 ≤ 140737488355328) : f15_p0 buf bad = .ret (.T []) (wr wr0 (l ++ [10]) b') := by
  rw [e, e', f15_p0_law _ _ h]
set_option maxRecDepth 4000 in
theorem f15_law (e : Ev) (buf : List UInt8) (bad : Bool) (h : buf.length + (lineB e).length + 1 ≤ 140737488355328) :
    f15_e e.k e.nd e.cl e.ix e.at_ e.ct e.cu e.hi e.lo e.ok e.os e.ov e.bs buf bad = .ret (.T []) (wr wr0 (buf ++ lineB e ++ [10]) (bad || badL e)) := by
  obtain ⟨k, nd, cl, ix, t, ct, cu, hi, lo, ok, os, ov, bs⟩ := e
  unfold lineB at h ⊢
  unfold badL
  dsimp only at h ⊢
  rw [f15_e]
  by_cases h1 : k = 1
  · rw [if_pos h1] at h ⊢
    rw [if_pos h1, beqT h1]
    simp only [List.length_append, List.length_cons, List.length_nil] at h
    rw [chk_t (pre13_1 rfl (by simp only [List.length_append, List.length_cons, List.length_nil]; omega)), chk_t (pre28 (by simp only [List.length_append, List.length_cons, List.length_nil]; omega))]
    exact f15_p0_law' _ _ _ _ (by simp only [List.append_assoc]) (by simp only [Bool.or_assoc]) (by simp only [List.length_append, List.length_cons, List.length_nil]; omega)
  rw [if_neg h1] at h ⊢
  rw [if_neg h1, beqF h1]
  by_cases h1 : k = 2
  · rw [if_pos h1] at h ⊢
    rw [if_pos h1, beqT h1]
    simp only [List.length_append, List.length_cons, List.length_nil] at h
    rw [chk_t (pre13_1 rfl (by simp only [List.length_append, List.length_cons, List.length_nil]; omega))]
    exact f15_p0_law' _ _ _ _ (by simp only [List.append_assoc]) rfl (by simp only [List.length_append, List.length_cons, List.length_nil]; omega)
  rw [if_neg h1] at h ⊢
  rw [if_neg h1, beqF h1]
  by_cases h1 : k = 3
  · rw [if_pos h1] at h ⊢
    rw [if_pos h1, beqT h1]
    simp only [List.length_append, List.length_cons, List.length_nil] at h
    rw [chk_t (pre13_1 rfl (by simp only [List.length_append, List.length_cons, List.length_nil]; omega)), chk_t (pre29 (by simp only [List.length_append, List.length_cons, List.length_nil]; omega))]
    exact f15_p0_law' _ _ _ _ (by simp only [List.append_assoc]) (by simp only [Bool.or_assoc]) (by simp only [List.length_append, List.length_cons, List.length_nil]; omega)
  rw [if_neg h1] at h ⊢
  rw [if_neg h1, beqF h1]
  by_cases h1 : k = 4
  · rw [if_pos h1] at h ⊢
    rw [if_pos h1, beqT h1]
    simp only [List.length_append, List.length_cons, List.length_nil] at h
    rw [chk_t (pre13_1 rfl (by simp only [List.length_append, List.length_cons, List.length_nil]; omega))]
    exact f15_p0_law' _ _ _ _ (by simp only [List.append_assoc]) rfl (by simp only [List.length_append, List.length_cons, List.length_nil]; omega)
  rw [if_neg h1] at h ⊢
  rw [if_neg h1, beqF h1]
  by_cases h1 : k = 5
  · rw [if_pos h1] at h ⊢
    rw [if_pos h1, beqT h1]
    simp only [List.length_append, List.length_cons, List.length_nil] at h
    rw [chk_t (pre13_1 rfl (by simp only [List.length_append, List.length_cons, List.length_nil]; omega))]
    exact f15_p0_law' _ _ _ _ (by simp only [List.append_assoc]) rfl (by simp only [List.length_append, List.length_cons, List.length_nil]; omega)
  rw [if_neg h1] at h ⊢
  rw [if_neg h1, beqF h1]
  by_cases h1 : k = 6
  · rw [if_pos h1] at h ⊢
    rw [if_pos h1, beqT h1]
    simp only [List.length_append, List.length_cons, List.length_nil] at h
    rw [chk_t (pre13_3 rfl (by simp only [List.length_append, List.length_cons, List.length_nil]; omega))]
    exact f15_p0_law' _ _ _ _ (by simp only [List.append_assoc]) rfl (by simp only [List.length_append, List.length_cons, List.length_nil]; omega)
  rw [if_neg h1] at h ⊢
  rw [if_neg h1, beqF h1]
  by_cases h1 : k = 7
  · rw [if_pos h1] at h ⊢
    rw [if_pos h1, beqT h1]
    simp only [List.length_append, List.length_cons, List.length_nil] at h
    have hv := hexB_le bs
    rw [chk_t (pre13_2 rfl (by simp only [List.length_append, List.length_cons, List.length_nil]; omega))]
    have step : ∀ b : Bool, f15_p1 k nd cl ix t ct cu hi lo ok os ov bs (buf ++ [105, 110, 106, 101, 99, 116] ++ sayB [t, nd]) b = .ret (.T []) (wr wr0 (buf ++ ([105, 110, 106, 101, 99, 116] ++ sayB [t, nd] ++ ([32] ++ hexB bs)) ++ [10]) b) := by
      intro b
      rw [f15_p1, chkD (by omega), chk_t (pre30 (by omega)), chkD (by omega), chk_t (pre14 rfl (by simp only [List.length_append, List.length_cons, List.length_nil]; omega))]
      exact f15_p0_law' _ _ _ _ (by simp only [List.append_assoc]) rfl (by simp only [List.length_append, List.length_cons, List.length_nil]; omega)
    simp only [step]
    rw [← Bool.or_assoc]
    cases bad || anyNeg [t, nd] <;> rfl
  rw [if_neg h1] at h ⊢
  rw [if_neg h1, beqF h1]
  by_cases h1 : k = 8
  · rw [if_pos h1] at h ⊢
    rw [if_pos h1, beqT h1]
    simp only [List.length_append, List.length_cons, List.length_nil] at h
    rw [chk_t (pre13_1 rfl (by simp only [List.length_append, List.length_cons, List.length_nil]; omega)), chk_t (pre29 (by simp only [List.length_append, List.length_cons, List.length_nil]; omega))]
    exact f15_p0_law' _ _ _ _ (by simp only [List.append_assoc]) (by simp only [Bool.or_assoc]) (by simp only [List.length_append, List.length_cons, List.length_nil]; omega)
  rw [if_neg h1] at h ⊢
  rw [if_neg h1, beqF h1]
  by_cases h1 : k = 9
  · rw [if_pos h1] at h ⊢
    rw [if_pos h1, beqT h1]
    simp only [List.length_append, List.length_cons, List.length_nil] at h
    rw [chk_t (pre13_1 rfl (by simp only [List.length_append, List.length_cons, List.length_nil]; omega))]
    exact f15_p0_law' _ _ _ _ (by simp only [List.append_assoc]) rfl (by simp only [List.length_append, List.length_cons, List.length_nil]; omega)
  rw [if_neg h1] at h ⊢
  rw [if_neg h1, beqF h1]
  by_cases h1 : k = 10
  · rw [if_pos h1] at h ⊢
    rw [if_pos h1, beqT h1]
    simp only [List.length_append, List.length_cons, List.length_nil] at h
    rw [chk_t (pre13_1 rfl (by simp only [List.length_append, List.length_cons, List.length_nil]; omega)), chkD (by omega), chk_t (pre14 rfl (by simp only [List.length_append, List.length_cons, List.length_nil]; omega)), chk_t (pre29 (by simp only [List.length_append, List.length_cons, List.length_nil]; omega))]
    exact f15_p0_law' _ _ _ _ (by simp only [List.append_assoc]) (by simp only [Bool.or_assoc]) (by simp only [List.length_append, List.length_cons, List.length_nil]; omega)
  rw [if_neg h1] at h ⊢
  rw [if_neg h1, beqF h1]
  by_cases h1 : k = 11
  · rw [if_pos h1] at h ⊢
    rw [if_pos h1, beqT h1]
    simp only [List.length_append, List.length_cons, List.length_nil] at h
    rw [chk_t (pre13_1 rfl (by simp only [List.length_append, List.length_cons, List.length_nil]; omega))]
    exact f15_p0_law' _ _ _ _ (by simp only [List.append_assoc]) rfl (by simp only [List.length_append, List.length_cons, List.length_nil]; omega)
  rw [if_neg h1] at h ⊢
  rw [if_neg h1, beqF h1]
  by_cases h1 : k = 12
  · rw [if_pos h1] at h ⊢
    rw [if_pos h1, beqT h1]
    simp only [List.length_append, List.length_cons, List.length_nil] at h
    rw [chk_t (pre13_2 rfl (by simp only [List.length_append, List.length_cons, List.length_nil]; omega))]
    have step : ∀ b : Bool, f15_p2 k nd cl ix t ct cu hi lo ok os ov bs (buf ++ [113, 117, 101, 114, 121] ++ sayB [cl, nd]) b = .ret (.T []) (wr wr0 (buf ++ ([113, 117, 101, 114, 121] ++ sayB [cl, nd] ++ opB ok os ov) ++ [10]) (b || decide (opErr ok os ov ≠ 0))) := by
      intro b
      rw [f15_p2, chk_t (pre28 (by simp only [List.length_append, List.length_cons, List.length_nil]; omega))]
      exact f15_p0_law' _ _ _ _ (by simp only [List.append_assoc]) rfl (by simp only [List.length_append, List.length_cons, List.length_nil]; omega)
    simp only [step]
    have e : (bad || (anyNeg [cl, nd] || (decide (ok ≠ 3) && decide (ok ≠ 4)) || decide (opErr ok os ov ≠ 0))) = (((bad || anyNeg [cl, nd]) || (decide (ok ≠ 3) && decide (ok ≠ 4))) || decide (opErr ok os ov ≠ 0)) := by simp only [Bool.or_assoc]
    rw [e]
    cases bad || anyNeg [cl, nd] with
    | true => rfl
    | false =>
      rw [bIte_f rfl]
      by_cases h3 : ok = 3
      · rw [bneF h3]; simp [h3]
      · rw [bneT h3]
        by_cases h4 : ok = 4
        · simp [h4]
        · have e : (ok != 4) = true := by simpa using h4
          rw [e]
          simp [h3, h4]
  rw [if_neg h1] at h ⊢
  rw [if_neg h1, beqF h1]
  exact f15_p0_law' _ _ _ _ (by simp) (by simp) (by simp at h ⊢; omega)
theorem sp15_ok (l : List AV) (h : List HO) (hp : sp15.pre l h = true) : f15_sem l h = .ret (sp15.val l h) (sp15.hp l h) := by
  unfold sp15 at hp
  dsimp only at hp
  split at hp
  case h_2 => cases hp
  rename_i a x buf bad
  simp only [Bool.and_eq_true, decide_eq_true_eq] at hp
  obtain ⟨h1, h2, h3⟩ := hp
  obtain rfl := isWr0_inv h1
  cases a with
  | A cs =>
    obtain ⟨e, rfl⟩ := isEv_ex h2
    show f15_sem [_, .A (evA e)] [.cells [.a (.P 0 0), _, _]] = _
    have := f15_law e buf bad h3
    rw [← f15_eq] at this
    exact this
  | _ => cases h2
end Go.Vm
