/- Part of a proof: ZzL5. -/
import Derived.Test.YteaplibpphjokaaDoorZzL4
import Derived.Test.YteaplibpphjokaaDoorZzU34
set_option linter.unusedSimpArgs false
set_option linter.unusedVariables false
set_option linter.unusedSectionVars false
namespace Go.Vm
open Go (IntKind Fn)
theorem spPr_inv {l : List AV} {h : List HO} (hp : spPr.pre l h = true) : ∃ f r p u ns es, l = [.A [.I .i64 f, .I .i64 r, .I .i64 p, .B u, .L 1 (List.map mkI ns)], .L 13 (List.map evA es)] ∧ ns.length ≤ big ∧ es.length ≤ big ∧
    (headB f r p u).length + (cliB ns).length + (scrB es).length ≤ big ∧ (∀ e ∈ es, rngE e = true ∧ (refS e).length + (lineB e).length + e.bs.length + 1 ≤ big) ∧ (∀ n ∈ ns, i63 n = true) ∧ i63 f = true ∧ i63 r = true ∧ i63 p = true := by
  unfold spPr at hp
  dsimp only at hp
  split at hp
  case h_2 => cases hp
  rename_i f r p u xs es
  simp only [Bool.and_eq_true, decide_eq_true_eq] at hp
  obtain ⟨h1, h2, h3, h4, h5, h6, h7, h8, h9⟩ := hp
  refine ⟨f, r, p, u, xs.map intOf, evsOf es, by rw [← ints_of xs h1, ← evs_of es h2], ?_, ?_, ?_, ?_, ?_, h6, h7, h8⟩
  · rw [List.length_map]; omega
  · unfold evsOf; rw [List.length_map]; omega
  · omega
  · intro e he
    exact ⟨List.all_eq_true.1 h4 e he, by simpa using List.all_eq_true.1 h5 e he⟩
  · exact fun n hn => List.all_eq_true.1 h3 n hn
theorem spPr_val (f r p : Int) (u : Bool) (ns : List Int) (es : List Ev) (h : List HO) : spPr.val [.A [.I .i64 f, .I .i64 r, .I .i64 p, .B u, .L 1 (List.map mkI ns)], .L 13 (List.map evA es)] h = .T [.S (prT f r p u ns es), .I .i64 (prE f r p ns es)] := by
  have e1 : (ns.map mkI).map intOf = ns := by rw [List.map_map]; exact List.map_id' ns
  show AV.T [.S (prT f r p u ((ns.map mkI).map intOf) (evsOf (es.map evA))), .I .i64 (prE f r p ((ns.map mkI).map intOf) (evsOf (es.map evA)))] = _
  rw [e1, evsOf_map]
theorem sp5_ok (l : List AV) (hp : sp5.pre l [] = true) : f5_sem l [] = .ret (sp5.val l []) (sp5.hp l []) := by
  obtain ⟨f, r, p, u, ns, es, rfl, h1, h2, h3, _⟩ := spPr_inv hp
  unfold sp5
  rw [f5_eq, f5_law f r p u ns es h1 h2 h3, spPr_val]
  rfl
theorem f34_law (k s : Int) (v : List UInt8) : f34_e k s v = .ret (.I .i64 (opErr k s v)) [] := by
  unfold opErr
  rw [f34_e]
  simp only [bIte_if]
  by_cases h1 : k = 1
  · subst h1; simp; (repeat' split) <;> first | rfl | omega | (simp_all; done) | (simp_all; omega)
  by_cases h2 : k = 2
  · subst h2; simp; split <;> (try split) <;> (try split) <;> simp_all
  by_cases h3 : k = 3
  · subst h3; simp; (repeat' split) <;> first | rfl | omega | (simp_all; done) | (simp_all; omega)
  by_cases h4 : k = 4
  · subst h4; simp; split <;> (try split) <;> (try split) <;> simp_all
  simp [h1, h2, h3, h4]
theorem sp34_ok (l : List AV) (h : sp34.pre l [] = true) : f34_sem l [] = .ret (sp34.val l []) (sp34.hp l []) := by
  unfold sp34 at h
  dsimp only at h
  split at h
  · rw [f34_eq, f34_law]; rfl
  · cases h
theorem pre18 {n : Int} (h : 0 ≤ n ∧ n ≤ 9223372036854775807) : Sp.pre sp18 [AV.I .i64 n] [] = true := decide_eq_true h
theorem i63_iff {n : Int} (h : i63 n = true) : -9223372036854775808 ≤ n ∧ n ≤ 9223372036854775807 := by simpa [i63] using h
theorem posB_len {n : Int} (h : i63 n = true) : (posB n).length ≤ 19 := by
  have := i63_iff h
  unfold posB
  exact decB_len 18 _ (by split <;> omega)
theorem decB_len63 {n : Int} (h : i63 n = true) : (decB n.toNat).length ≤ 19 := by
  have := i63_iff h
  exact decB_len 18 _ (by omega)
theorem f35_law (k : Int) (h : i63 k = true) : f35_e k = .ret (.S (cutR k)) [] := by
  have hk := i63_iff h
  have hl := decB_len63 h
  unfold cutR
  rw [f35_e]
  by_cases h0 : 0 < k
  · rw [iteT h0, if_pos h0, chk_t (pre18 (by omega)), chkD (by omega)]
  · rw [iteF h0, if_neg h0]
theorem f36_law {a b : Int} (h1 : u64 a = true) (h2 : u64 b = true) : f36_e a b = .ret (.S (drawB a b)) [] := by
  have := drawB_len h1 h2
  unfold drawB at this
  simp only [List.length_append, List.length_cons, List.length_nil] at this
  rw [f36_e, chk_t (b := Sp.pre sp46 [AV.I IntKind.u64 a] []) h1, chkD (by omega), chk_t (b := Sp.pre sp46 [AV.I IntKind.u64 b] []) h2, chkD (by simp only [List.length_append, List.length_cons, List.length_nil]; omega)]
  rfl
theorem f32_law (f r p : Int) (u : Bool) : f32_e f r p u = .ret (.I .i64 (cfgErr f r p)) [] := by
  rw [f32_e]
  unfold cfgErr
  cases cfgOK f r p <;> rfl
theorem sp32_ok (l : List AV) (h : sp32.pre l [] = true) : f32_sem l [] = .ret (sp32.val l []) (sp32.hp l []) := by
  unfold sp32 spCfg at h
  dsimp only at h
  split at h
  · rw [f32_eq, f32_law]; rfl
  · cases h
theorem f17_L2_law (k : Nat) (a b c : Int) (u : Bool) : ∀ (r p : List Int), (p ++ r).length ≤ 140737488355328 →
    f17_L2 (k + r.length + 1) (p.length : Int) a b c u ((p ++ r).map mkI) = .ret (.I .i64 (if anyNeg r = true then 152 else 0)) [] := by
  intro r
  induction r with
  | nil =>
    intro p h1
    show f17_L2 (k + 1) _ _ _ _ _ _ = _
    rw [f17_L2, iteF (by simp), f17_p4]
    rfl
  | cons n r ih =>
    intro p h1
    simp only [List.length_append, List.length_cons] at h1
    show f17_L2 (k + r.length + 1 + 1) _ _ _ _ _ _ = _
    rw [f17_L2, iteT (by simp; omega), ix_t (by simp), getD_mapI]
    show bIte (decide (n < 0)) _ _ = _
    by_cases hn : n < 0
    · rw [iteT hn, anyNeg_cons, decide_eq_true hn]
      rfl
    · rw [iteF hn, f17_p3, wrap_i64 (by omega)]
      have e1 : p ++ n :: r = (p ++ [n]) ++ r := by simp
      have e2 : ((p.length : Int) + 1) = (((p ++ [n]).length : Nat) : Int) := by simp
      rw [e1, e2, ih (p ++ [n]) (by simp only [List.length_append, List.length_cons, List.length_nil]; omega), anyNeg_cons, decide_eq_false hn, Bool.false_or]
theorem f17_law (f r p : Int) (u : Bool) (ns : List Int) (h : ns.length ≤ 140737488355328) : f17_e f r p u (ns.map mkI) = .ret (.I .i64 (setErr f r p ns)) [] := by
  rw [f17_e]
  unfold setErr cfgErr
  by_cases hc : cfgOK f r p = true
  · rw [if_pos hc, bneF rfl, if_pos hc, List.length_map]
    by_cases hn : 16 < ns.length
    · rw [iteT (by omega), if_pos hn]
    · rw [iteF (by omega), if_neg hn, f17_p0]
      obtain ⟨k, hk⟩ : ∃ k, FU = k + ns.length + 1 := ⟨FU - (ns.length + 1), by have := FU_ge; omega⟩
      have := f17_L2_law k f r p u ns [] (by simpa using h)
      rw [← hk] at this
      simp only [List.nil_append, List.length_nil] at this
      exact this
  · rw [if_neg hc, bneT (by decide), if_neg hc]
theorem sp17_ok (l : List AV) (h : sp17.pre l [] = true) : f17_sem l [] = .ret (sp17.val l []) (sp17.hp l []) := by
  unfold sp17 at h
  dsimp only at h
  split at h
  case h_2 => cases h
  rename_i f r p u xs
  simp only [Bool.and_eq_true, decide_eq_true_eq] at h
  rw [f17_eq]
  have := f17_law f r p u (xs.map intOf) (by rw [List.length_map]; exact h.2)
  rw [← ints_of xs h.1] at this
  rw [this]
  rfl
end Go.Vm
