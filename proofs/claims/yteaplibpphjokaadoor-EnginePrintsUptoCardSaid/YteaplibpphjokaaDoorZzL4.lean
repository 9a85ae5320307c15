/- Part of a proof: ZzL4. -/
import Derived.Test.YteaplibpphjokaaDoorZzL3
import Derived.Test.YteaplibpphjokaaDoorZzUp
set_option linter.unusedSimpArgs false
set_option linter.unusedVariables false
set_option linter.unusedSectionVars false
namespace Go.Vm
open Go (IntKind Fn)
theorem evs_of : ∀ (xs : List (List AV)), xs.all isEv = true → xs = (evsOf xs).map evA
  | [], _ => rfl
  | x :: xs, h => by
    simp only [List.all_cons, Bool.and_eq_true] at h
    obtain ⟨e, rfl⟩ := isEv_ex h.1
    show _ = evA e :: (evsOf xs).map evA
    rw [← evs_of xs h.2]
theorem evsOf_map (es : List Ev) : evsOf (es.map evA) = es := by
  unfold evsOf
  rw [List.map_map]
  exact List.map_id' es
theorem getD_mapE (p r : List Ev) (e : Ev) : List.getD ((p ++ e :: r).map evA) p.length [] = evA e := by
  rw [List.getD_eq_getElem?_getD, List.getElem?_map, List.getElem?_append_right (Nat.le_refl _)]
  simp
theorem pre16 {buf : List UInt8} {bad : Bool} (h0 : buf ≠ []) (h : buf.length ≤ 140737488355328) : Sp.pre sp16 [AV.P 0 0] [HO.cells [HV.a (AV.P 0 0), HV.g (SC.y 5 buf), HV.a (AV.B bad)]] = true := by
  show (!(buf == []) && decide (buf.length ≤ 140737488355328)) = true
  rw [decide_eq_true h]
  cases buf with
  | nil => exact absurd rfl h0
  | cons c r => rfl
theorem pre15 {e : Ev} {buf : List UInt8} {bad : Bool} (h : buf.length + (lineB e).length + 1 ≤ 140737488355328) : Sp.pre sp15 [AV.P 0 0, AV.A (evA e)] [HO.cells [HV.a (AV.P 0 0), HV.g (SC.y 5 buf), HV.a (AV.B bad)]] = true := by
  show (true && (true && decide (buf.length + (lineB e).length + 1 ≤ 140737488355328))) = true
  rw [decide_eq_true h]
  rfl
theorem scrB_cons (e : Ev) (r : List Ev) : scrB (e :: r) = lineB e ++ [10] ++ scrB r := rfl
theorem cliB_cons (n : Int) (r : List Int) : cliB (n :: r) = [99, 108, 105, 101, 110, 116] ++ sayB [n] ++ [10] ++ cliB r := rfl
def outR (t : List UInt8) (n : Int) : Res := .ret (.T [.S t, .I .i64 n]) []
theorem f5_L7_law (k : Nat) : ∀ (r p : List Ev) (buf : List UInt8), (p ++ r).length ≤ 140737488355328 → buf.length + (scrB r).length ≤ 140737488355328 → buf ≠ [] →
    f5_L7 (k + r.length + 1) ((p ++ r).map evA) ((p ++ r).length : Int) (p.length : Int) buf false = if r.any badL = true then outR [] 150 else outR (buf ++ scrB r) 0 := by
  intro r
  induction r with
  | nil =>
    intro p buf h1 h2 h3
    show f5_L7 (k + 1) _ _ _ _ _ = _
    rw [f5_L7, iteF (by simp), f5_p10, chk_t (pre16 h3 (by omega))]
    simp [scrB, outR]
  | cons e r ih =>
    intro p buf h1 h2 h3
    rw [scrB_cons] at h2
    simp only [List.length_append, List.length_cons, List.length_nil] at h1 h2
    show f5_L7 (k + r.length + 1 + 1) _ _ _ _ _ = _
    rw [f5_L7, iteT (by simp; omega), ix_t (by simp), getD_mapE]
    show chk (Sp.pre sp15 [AV.P 0 0, AV.A (evA e)] _) (bIte (false || badL e) (outR [] 150) (f5_p9 (f5_L7 (k + r.length + 1)) _ _ _ (buf ++ lineB e ++ [10]) (false || badL e))) = _
    rw [chk_t (pre15 (by omega)), Bool.false_or, List.any_cons]
    cases hb : badL e with
    | true => rfl
    | false =>
      rw [bIte_f rfl, f5_p9, wrap_i64 (by omega), Bool.false_or]
      have e1 : p ++ e :: r = (p ++ [e]) ++ r := by simp
      have e2 : ((p.length : Int) + 1) = (((p ++ [e]).length : Nat) : Int) := by simp
      rw [e1, e2, ih (p ++ [e]) _ (by simp only [List.length_append, List.length_cons, List.length_nil]; omega) (by simp only [List.length_append, List.length_cons, List.length_nil]; omega) (by simp), scrB_cons]
      simp only [List.append_assoc]
theorem f5_p5_law (es : List Ev) (buf : List UInt8) (bad : Bool) (h1 : es.length ≤ 140737488355328) (h2 : buf.length + (scrB es).length ≤ 140737488355328) (h3 : buf ≠ []) :
    f5_p5 (es.map evA) buf bad = if bad = true then outR [] 152 else if es.any badL = true then outR [] 150 else outR (buf ++ scrB es) 0 := by
  rw [f5_p5]
  cases bad with
  | true => rfl
  | false =>
    rw [bIte_f rfl, f5_p6]
    obtain ⟨k, hk⟩ : ∃ k, FU = k + es.length + 1 := ⟨FU - (es.length + 1), by have := FU_ge; omega⟩
    have := f5_L7_law k es [] buf (by simpa using h1) h2 h3
    rw [← hk] at this
    show f5_L7 FU _ _ _ _ _ = _
    simpa using this
theorem f5_L3_law (k : Nat) (es : List (List AV)) : ∀ (r p : List Int) (buf : List UInt8) (bad : Bool), (p ++ r).length ≤ 140737488355328 → buf.length + (cliB r).length ≤ 140737488355328 →
    f5_L3 (k + r.length + 1) es ((p ++ r).map mkI) ((p ++ r).length : Int) (p.length : Int) buf bad = f5_p5 es (buf ++ cliB r) (bad || anyNeg r) := by
  intro r
  induction r with
  | nil =>
    intro p buf bad h1 h2
    show f5_L3 (k + 1) _ _ _ _ _ _ = _
    rw [f5_L3, iteF (by simp)]
    simp [cliB, anyNeg]
  | cons n r ih =>
    intro p buf bad h1 h2
    rw [cliB_cons] at h2
    simp only [List.length_append, List.length_cons, List.length_nil] at h1 h2
    show f5_L3 (k + r.length + 1 + 1) _ _ _ _ _ _ = _
    rw [f5_L3, iteT (by simp; omega), ix_t (by simp), getD_mapI]
    show chk (Sp.pre sp13 [AV.P 0 0, AV.S [99, 108, 105, 101, 110, 116], AV.L 1 [[AV.I IntKind.i64 n]]] _) (chk _ (f5_p4 _ _ _ _ _ (buf ++ [99, 108, 105, 101, 110, 116] ++ sayB [n] ++ [10]) (bad || anyNeg [n]))) = _
    rw [chk_t (pre13_1 rfl (by simp only [List.length_append, List.length_cons, List.length_nil]; omega))]
    show chk (Sp.pre sp14 [AV.P 0 0, AV.S [10]] [HO.cells [HV.a (AV.P 0 0), HV.g (SC.y 5 (buf ++ [99, 108, 105, 101, 110, 116] ++ sayB [n])), HV.a (AV.B (bad || anyNeg [n]))]]) _ = _
    rw [chk_t (pre14 rfl (by simp only [List.length_append, List.length_cons, List.length_nil]; omega)), f5_p4, wrap_i64 (by omega)]
    have e1 : p ++ n :: r = (p ++ [n]) ++ r := by simp
    have e2 : ((p.length : Int) + 1) = (((p ++ [n]).length : Nat) : Int) := by simp
    rw [e1, e2, ih (p ++ [n]) _ _ (by simp only [List.length_append, List.length_cons, List.length_nil]; omega) (by simp only [List.length_append, List.length_cons, List.length_nil]; omega), cliB_cons]
    congr 1
    · simp only [List.append_assoc]
    · simp [anyNeg, Bool.or_assoc]
theorem f5_law (f r p : Int) (u : Bool) (ns : List Int) (es : List Ev) (h1 : ns.length ≤ 140737488355328) (h2 : es.length ≤ 140737488355328) (h : (headB f r p u).length + (cliB ns).length + (scrB es).length ≤ 140737488355328) :
    f5_e f r p u (ns.map mkI) (es.map evA) = outR (prT f r p u ns es) (prE f r p ns es) := by
  rw [f5_e]
  unfold prT prE setErr cfgErr
  by_cases hc : cfgOK f r p = true
  case neg =>
    rw [if_neg hc, bneT (by decide), if_neg hc, if_neg (by decide), if_neg (by decide)]
    rfl
  have hneg : anyNeg [f, r, p] = false := by
    have : 1 ≤ f ∧ f ≤ 3 ∧ 1 ≤ r ∧ r ≤ 256 ∧ 6 ≤ p ∧ p ≤ 100 := by simpa [cfgOK] using hc
    simp [anyNeg]
    omega
  rw [if_pos hc, bneF rfl]
  simp only [if_pos hc]
  unfold headB at h
  have p0 : ∀ buf : List UInt8, buf.length + 1 + (cliB ns).length + (scrB es).length ≤ 140737488355328 → f5_p0 (es.map evA) f r p u (ns.map mkI) buf false =
      if 16 < ns.length then outR [] 152 else if anyNeg ns = true then outR [] 152 else if es.any badL = true then outR [] 150 else outR (buf ++ [10] ++ cliB ns ++ scrB es) 0 := by
    intro buf hb
    rw [f5_p0, chk_t (pre14 rfl (by simp only [List.length_cons, List.length_nil]; omega)), List.length_map]
    by_cases hn : 16 < ns.length
    · rw [iteT (by omega), if_pos hn]
      rfl
    rw [iteF (by omega), if_neg hn, f5_p1]
    obtain ⟨k, hk⟩ : ∃ k, FU = k + ns.length + 1 := ⟨FU - (ns.length + 1), by have := FU_ge; omega⟩
    have := f5_L3_law k (es.map evA) ns [] (buf ++ [10]) false (by simpa using h1) (by simp only [List.length_append, List.length_cons, List.length_nil]; omega)
    rw [← hk] at this
    simp only [List.nil_append, List.length_nil, Bool.false_or] at this
    show f5_L3 FU _ _ _ _ _ _ = _
    refine this.trans ?_
    rw [f5_p5_law es _ _ h2 (by simp only [List.length_append, List.length_cons, List.length_nil]; omega) (by simp)]
  have fin : (if 16 < ns.length then outR [] 152 else if anyNeg ns = true then outR [] 152 else if es.any badL = true then outR [] 150 else outR (headB f r p u ++ cliB ns ++ scrB es) 0) =
      outR (if (if 16 < ns.length then 152 else if anyNeg ns = true then 152 else 0 : Int) = 0 then (if es.any badL = true then [] else headB f r p u ++ cliB ns ++ scrB es) else [])
        (if (if 16 < ns.length then 152 else if anyNeg ns = true then 152 else 0 : Int) = 0 then (if es.any badL = true then 150 else 0) else (if 16 < ns.length then 152 else if anyNeg ns = true then 152 else 0)) := by
    by_cases g1 : 16 < ns.length
    · simp [g1]
    by_cases g2 : anyNeg ns = true
    · simp [g1, g2]
    by_cases g3 : es.any badL = true
    · simp [g1, g2, g3]
    · simp [g1, g2, g3]
  rw [← fin, hneg]
  simp only [List.length_append, List.length_cons, List.length_nil] at h
  rw [chk_t (pre13_3 rfl (by simp only [List.length_append, List.length_cons, List.length_nil]; omega))]
  cases u with
  | true =>
    simp only [if_true, List.length_append, List.length_cons, List.length_nil] at h
    rw [bIte_t rfl, chk_t (pre14 rfl (by simp only [List.length_append, List.length_cons, List.length_nil]; omega))]
    show f5_p0 _ _ _ _ _ _ _ false = _
    rw [p0 _ (by simp only [List.length_append, List.length_cons, List.length_nil]; omega)]
    rfl
  | false =>
    rw [bIte_f rfl]
    simp at h
    show f5_p0 _ _ _ _ _ _ _ false = _
    rw [p0 _ (by simp only [List.length_append, List.length_cons, List.length_nil]; omega)]
    unfold headB
    simp
end Go.Vm
