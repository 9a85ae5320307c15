/- Part of a proof: ZzL8. -/
import Derived.Test.YteaplibpphjokaaDoorZzL7
import Derived.Test.YteaplibpphjokaaDoorZzU3
set_option linter.unusedSimpArgs false
set_option linter.unusedVariables false
set_option linter.unusedSectionVars false
namespace Go.Vm
open Go (IntKind Fn)
theorem anyNeg_all {ns : List Int} (h : anyNeg ns = false) : ∀ n ∈ ns, 0 ≤ n := by
  intro n hn
  unfold anyNeg at h
  rw [List.any_eq_false] at h
  have := h n hn
  simp at this
  exact this
theorem f7_p5_law (es : List Ev) (buf : List UInt8) (h1 : es.length ≤ 140737488355328) (h2 : buf.length + (scrB es).length ≤ 140737488355328) (h3 : ∀ e ∈ es, rngE e = true ∧ (refS e).length + (lineB e).length + e.bs.length + 1 ≤ 140737488355328) :
    f7_p5 (es.map evA) buf = if es.any badL = true then outR [] 150 else outR (buf ++ scrB es) 0 := by
  rw [f7_p5, f7_p6]
  obtain ⟨k, hk⟩ : ∃ k, FU = k + es.length + 1 := ⟨FU - (es.length + 1), by have := FU_ge; omega⟩
  have := f7_L7_law k es [] buf (by simpa using h1) h2 h3
  rw [← hk] at this
  exact this
theorem f7_law (f r p : Int) (u : Bool) (ns : List Int) (es : List Ev) (hf : i63 f = true) (hr : i63 r = true) (hp : i63 p = true) (h1 : ns.length ≤ 140737488355328) (h2 : es.length ≤ 140737488355328)
    (h : (headB f r p u).length + (cliB ns).length + (scrB es).length ≤ 140737488355328) (h3 : ∀ e ∈ es, rngE e = true ∧ (refS e).length + (lineB e).length + e.bs.length + 1 ≤ 140737488355328) (h4 : ∀ n ∈ ns, i63 n = true) :
    f7_e f r p u (ns.map mkI) (es.map evA) = outR (prT f r p u ns es) (prE f r p ns es) := by
  have e1 : (ns.map mkI).map intOf = ns := by rw [List.map_map]; exact List.map_id' ns
  have p17 : Sp.pre sp17 [AV.A [AV.I IntKind.i64 f, AV.I IntKind.i64 r, AV.I IntKind.i64 p, AV.B u, AV.L 1 (ns.map mkI)]] [] = true := by
    show ((ns.map mkI).all isInt && decide ((ns.map mkI).length ≤ big)) = true
    rw [decide_eq_true (by rw [List.length_map]; exact h1), Bool.and_true, List.all_eq_true]
    intro y hy
    obtain ⟨n, _, rfl⟩ := List.mem_map.1 hy
    rfl
  have npI : ∀ l : List Int, noPss (l.map mkI) = true := by
    intro l
    induction l with
    | nil => rfl
    | cons n l ih => exact ih
  rw [f7_e, chk_t (b := noPs [AV.A [AV.I IntKind.i64 f, AV.I IntKind.i64 r, AV.I IntKind.i64 p, AV.B u, AV.L 1 (ns.map mkI)]]) (by
    show (noPss (ns.map mkI) && true && true) = true
    rw [npI]; rfl), chk_t p17, e1]
  unfold prT prE
  by_cases hs : setErr f r p ns = 0
  case neg =>
    rw [bneT hs, if_neg hs, if_neg hs]
    rfl
  rw [bneF hs, if_pos hs, if_pos hs]
  have hc : cfgOK f r p = true ∧ ns.length ≤ 16 ∧ anyNeg ns = false := by
    unfold setErr at hs
    split at hs
    · rename_i g
      split at hs
      · cases hs
      · split at hs
        · cases hs
        · rename_i a b
          exact ⟨g, by omega, by simpa using b⟩
    · cases hs
  have hc1 : 1 ≤ f ∧ f ≤ 3 ∧ 1 ≤ r ∧ r ≤ 256 ∧ 6 ≤ p ∧ p ≤ 100 := by simpa [cfgOK] using hc.1
  have dI : ∀ n : Int, 0 ≤ n → decI n = decB n.toNat := fun n hn => by unfold decI; rw [if_neg (by omega)]
  have hh : headB f r p u = [103, 114, 111, 117, 112, 32] ++ decB f.toNat ++ [32] ++ decB r.toNat ++ [32] ++ decB p.toNat ++ (if u = true then [32, 117, 110, 103, 117, 97, 114, 100, 101, 100] else []) ++ [10] := by
    unfold headB
    simp [sayB, dI f (by omega), dI r (by omega), dI p (by omega)]
  rw [hh] at h ⊢
  simp only [List.length_append, List.length_cons, List.length_nil] at h
  have p0 : ∀ buf : List UInt8, buf.length + 1 + (cliB ns).length + (scrB es).length ≤ 140737488355328 → f7_p0 (es.map evA) buf f r p u (ns.map mkI) = if es.any badL = true then outR [] 150 else outR (buf ++ [10] ++ cliB ns ++ scrB es) 0 := by
    intro buf hb
    rw [f7_p0, chkD (by omega), f7_p1]
    obtain ⟨k, hk⟩ : ∃ k, FU = k + ns.length + 1 := ⟨FU - (ns.length + 1), by have := FU_ge; omega⟩
    have := f7_L3_law k (es.map evA) f r p u ns [] (buf ++ [10]) (by simpa using h1) (by simp only [List.length_append, List.length_cons, List.length_nil]; omega) (fun n hn => ⟨anyNeg_all hc.2.2 n hn, (i63_iff (h4 n hn)).2⟩)
    rw [← hk] at this
    refine Eq.trans (this : f7_L3 FU _ _ _ _ _ _ _ _ = _) ?_
    rw [f7_p5_law es _ h2 (by simp only [List.length_append, List.length_cons, List.length_nil]; omega) h3]
  have i63r : ∀ {n : Int}, 0 ≤ n ∧ n ≤ 100000 → 0 ≤ n ∧ n ≤ 9223372036854775807 := fun h => by omega
  rw [chk_t (pre18 (i63r (by omega))), chkD (by omega), chkD (by simp only [List.length_append, List.length_cons, List.length_nil]; omega), chk_t (pre18 (i63r (by omega))), chkD (by simp only [List.length_append, List.length_cons, List.length_nil]; omega), chkD (by simp only [List.length_append, List.length_cons, List.length_nil]; omega), chk_t (pre18 (i63r (by omega))), chkD (by simp only [List.length_append, List.length_cons, List.length_nil]; omega)]
  have fin : ∀ t : List UInt8, (if es.any badL = true then outR [] 150 else outR (t ++ [10] ++ cliB ns ++ scrB es) 0) = outR (if es.any badL = true then [] else t ++ [10] ++ cliB ns ++ scrB es) (if es.any badL = true then 150 else 0) := by
    intro t; split <;> rfl
  cases u with
  | true =>
    simp only [if_true, List.length_append, List.length_cons, List.length_nil] at h
    rw [bIte_t rfl, chkD (by simp only [List.length_append, List.length_cons, List.length_nil]; omega), p0 _ (by simp only [List.length_append, List.length_cons, List.length_nil]; omega), fin]
    rfl
  | false =>
    simp at h
    rw [bIte_f rfl, p0 _ (by simp only [List.length_append, List.length_cons, List.length_nil]; omega), fin]
    simp
theorem sp7_ok (l : List AV) (hp : sp7.pre l [] = true) : f7_sem l [] = .ret (sp7.val l []) (sp7.hp l []) := by
  obtain ⟨f, r, p, u, ns, es, rfl, h1, h2, h3, h4, h5, h6, h7, h8⟩ := spPr_inv hp
  unfold sp7
  rw [f7_eq, f7_law f r p u ns es h6 h7 h8 h1 h2 h3 h4 h5, spPr_val]
  rfl
end Go.Vm
