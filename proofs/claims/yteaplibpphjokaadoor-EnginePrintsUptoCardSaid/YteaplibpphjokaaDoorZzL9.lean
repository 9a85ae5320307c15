/- Part of a proof: ZzL9. -/
import Derived.Test.YteaplibpphjokaaDoorZzL8
import Derived.Test.YteaplibpphjokaaDoorZzUa
set_option linter.unusedSimpArgs false
set_option linter.unusedVariables false
set_option linter.unusedSectionVars false
namespace Go.Vm
open Go (IntKind Fn)
theorem sp8_ok (l : List AV) (h : sp8.pre l [] = true) : f8_sem l [] = .ret (sp8.val l []) (sp8.hp l []) := by
  unfold sp8 at h
  dsimp only at h
  split at h
  · rw [f8_eq]; rfl
  · cases h
theorem sp20_ok (l : List AV) (h : sp20.pre l [] = true) : f20_sem l [] = .ret (sp20.val l []) (sp20.hp l []) := by
  unfold sp20 at h
  dsimp only at h
  split at h
  case h_2 => cases h
  rename_i a b
  simp only [Bool.and_eq_true, decide_eq_true_eq] at h
  unfold big at h
  rw [f20_eq, f20_e, chkD h.1, chkD h.2]
  rfl
theorem sp25_ok (l : List AV) (h : sp25.pre l [] = true) : f25_sem l [] = .ret (sp25.val l []) (sp25.hp l []) := by
  unfold sp25 at h
  dsimp only at h
  split at h
  case h_2 => cases h
  rename_i a
  simp only [decide_eq_true_eq] at h
  unfold big at h
  rw [f25_eq, f25_e, chkD (by omega)]
  rfl
theorem sp6_ok (l : List AV) (h : sp6.pre l [] = true) : f6_sem l [] = .ret (sp6.val l []) (sp6.hp l []) := by
  unfold sp6 at h
  dsimp only at h
  split at h
  case h_2 => cases h
  rename_i f r p u xs
  simp only [decide_eq_true_eq] at h
  unfold big at h
  rw [f6_eq, f6_e, chkD (by omega)]
  rfl
theorem pre25 {v : List UInt8} (h : v.length ≤ 140737488355328) : Sp.pre sp25 [AV.Y v] [] = true := decide_eq_true h
def gv (xs ys d1 d2 e1 e2 i1 i2 s1 s2 : List (List AV)) : List HO := [HO.cells [HV.g (SC.e 41 1 xs), HV.g (SC.e 41 1 ys), HV.g (SC.e 82 1 d1), HV.g (SC.e 82 1 d2), HV.g (SC.e 80 1 e1), HV.g (SC.e 80 1 e2), HV.g (SC.e 90 1 i1), HV.g (SC.e 90 1 i2), HV.g (SC.e 88 12 s1), HV.g (SC.e 88 12 s2)]]
theorem f11_law (s : List UInt8) (xs ys d1 d2 e1 e2 i1 i2 s1 s2 : List (List AV)) (h : s.length + 1 ≤ 140737488355328 ∧ (xs.length + 1) * 24 ≤ 140737488355328 ∧ (ys.length + 1) * 24 ≤ 140737488355328) :
    f11_e s xs ys d1 d2 e1 e2 i1 i2 s1 s2 = .ret (.Y s) (gv (xs ++ [[.Y (s ++ [90])]]) (ys ++ [[.Y (s ++ [90])]]) d1 d2 e1 e2 i1 i2 s1 s2) := by
  rw [f11_e, chk_t (pre25 (by omega)), chkD (by omega), chkD (by omega), chk_t (pre25 (by simp only [List.length_append, List.length_cons, List.length_nil]; omega)), chkD (by omega), chkD (by simp only [List.length_append, List.length_cons, List.length_nil]; omega)]
  rw [List.drop_zero, Int.toNat_natCast, List.take_left]
  rfl
theorem isGv_ex {r : List HV} (h : isGv r = true) : ∃ d1 d2 e1 e2 i1 i2 s1 s2, r = [HV.g (SC.e 82 1 d1), HV.g (SC.e 82 1 d2), HV.g (SC.e 80 1 e1), HV.g (SC.e 80 1 e2), HV.g (SC.e 90 1 i1), HV.g (SC.e 90 1 i2), HV.g (SC.e 88 12 s1), HV.g (SC.e 88 12 s2)] := by
  unfold isGv at h
  split at h
  · exact ⟨_, _, _, _, _, _, _, _, rfl⟩
  · cases h
theorem sp11_ok (l : List AV) (h : List HO) (hp : sp11.pre l h = true) : f11_sem l h = .ret (sp11.val l h) (sp11.hp l h) := by
  unfold sp11 at hp
  dsimp only at hp
  split at hp
  case h_2 => cases hp
  rename_i s xs ys r
  simp only [Bool.and_eq_true, decide_eq_true_eq] at hp
  obtain ⟨h1, h2⟩ := hp
  obtain ⟨d1, d2, e1, e2, i1, i2, s1, s2, rfl⟩ := isGv_ex h2
  have := f11_law s xs ys d1 d2 e1 e2 i1 i2 s1 s2 h1
  rw [← f11_eq] at this
  exact this
theorem pre11 {s : List UInt8} {xs ys d1 d2 e1 e2 i1 i2 s1 s2 : List (List AV)} (h : s.length + 1 ≤ 140737488355328 ∧ (xs.length + 1) * 24 ≤ 140737488355328 ∧ (ys.length + 1) * 24 ≤ 140737488355328) :
    Sp.pre sp11 [AV.P 0 0, AV.Y s] (gv xs ys d1 d2 e1 e2 i1 i2 s1 s2) = true := by
  show (decide (s.length + 1 ≤ 140737488355328 ∧ (xs.length + 1) * 24 ≤ 140737488355328 ∧ (ys.length + 1) * 24 ≤ 140737488355328) && true) = true
  rw [decide_eq_true h]; rfl
theorem sp4_ok (l : List AV) (h : List HO) (hp : sp4.pre l h = true) : f4_sem l h = .ret (sp4.val l h) (sp4.hp l h) := by
  unfold sp4 at hp
  dsimp only at hp
  split at hp
  case h_2 => cases hp
  rename_i a xs ys r
  simp only [Bool.and_eq_true, decide_eq_true_eq] at hp
  obtain ⟨h0, h1, h2⟩ := hp
  obtain ⟨d1, d2, e1, e2, i1, i2, s1, s2, rfl⟩ := isGv_ex h2
  cases a with
  | A cs =>
    obtain ⟨e, rfl⟩ := isEv_ex h0
    show f4_sem [_, .A (evA e)] (gv xs ys d1 d2 e1 e2 i1 i2 s1 s2) = _
    have : f4_e e.k e.nd e.cl e.ix e.at_ e.ct e.cu e.hi e.lo e.ok e.os e.ov e.bs xs ys d1 d2 e1 e2 i1 i2 s1 s2 = .ret (.A (evA e)) (gv (xs ++ [[.Y (e.bs ++ [90])]]) (ys ++ [[.Y (e.bs ++ [90])]]) d1 d2 e1 e2 i1 i2 s1 s2) := by
      rw [f4_e]
      exact chk_t (pre11 h1) _
    rw [← f4_eq] at this
    exact this
  | _ => cases h0
theorem f9_L0_law (k : Nat) : ∀ (r p : List Ev), (p ++ r).length ≤ 140737488355328 → (∀ e ∈ r, e.bs.length ≤ 140737488355328) →
    f9_L0 (k + r.length + 1) ((p ++ r).map evA) ((p ++ r).map evA) (p.length : Int) = .ret (.B true) [] := by
  intro r
  induction r with
  | nil =>
    intro p h1 _
    show f9_L0 (k + 1) _ _ _ = _
    rw [f9_L0, iteF (by simp)]
  | cons e r ih =>
    intro p h1 h2
    simp only [List.length_append, List.length_cons] at h1
    have hb := h2 e List.mem_cons_self
    have p20 : Sp.pre sp20 [AV.Y e.bs, AV.Y e.bs] [] = true := by
      show (decide (e.bs.length ≤ 140737488355328) && decide (e.bs.length ≤ 140737488355328)) = true
      rw [decide_eq_true hb]; rfl
    show f9_L0 (k + r.length + 1 + 1) _ _ _ = _
    rw [f9_L0, iteT (by simp; omega), ix_t (by simp), ix_t (by simp), getD_mapE]
    have F : Res := Res.ret (AV.B false) []
    show bIte (e.k != e.k) (Res.ret (AV.B false) []) (bIte (e.nd != e.nd) (Res.ret (AV.B false) []) (bIte (e.cl != e.cl) (Res.ret (AV.B false) []) (bIte (e.ix != e.ix) (Res.ret (AV.B false) []) (bIte (e.at_ != e.at_) (Res.ret (AV.B false) []) (bIte (e.ct != e.ct) (Res.ret (AV.B false) []) (bIte (e.cu != e.cu) (Res.ret (AV.B false) [])
      (bIte (!((e.hi == e.hi) && ((e.lo == e.lo) && true))) (Res.ret (AV.B false) []) (bIte (!((e.ok == e.ok) && ((e.os == e.os) && ((e.ov == e.ov) && true)))) (Res.ret (AV.B false) []) (chk (noPs [AV.Y e.bs, AV.Y e.bs]) (chk (Sp.pre sp20 [AV.Y e.bs, AV.Y e.bs] []) (chk (noP (Sp.val sp20 [AV.Y e.bs, AV.Y e.bs] []))
      (bIte (!(e.bs == e.bs)) (Res.ret (AV.B false) []) (f9_L0 (k + r.length + 1) ((p ++ e :: r).map evA) ((p ++ e :: r).map evA) (IntKind.wrap IntKind.i64 ((p.length : Int) + 1)))))))))))))) ) = _
    rw [bneF rfl, bneF rfl, bneF rfl, bneF rfl, bneF rfl, bneF rfl, bneF rfl, bIte_f (by simp), bIte_f (by simp), chk_t (b := noPs [AV.Y e.bs, AV.Y e.bs]) rfl, chk_t p20, chk_t (b := noP (Sp.val sp20 [AV.Y e.bs, AV.Y e.bs] [])) rfl, bIte_f (by simp), wrap_i64 (by omega)]
    have e1 : p ++ e :: r = (p ++ [e]) ++ r := by simp
    have e2 : ((p.length : Int) + 1) = (((p ++ [e]).length : Nat) : Int) := by simp
    rw [e1, e2, ih (p ++ [e]) (by simp only [List.length_append, List.length_cons, List.length_nil]; omega) (fun x hx => h2 x (List.mem_cons_of_mem _ hx))]
theorem sp9_ok (l : List AV) (h : sp9.pre l [] = true) : f9_sem l [] = .ret (sp9.val l []) (sp9.hp l []) := by
  unfold sp9 at h
  dsimp only at h
  split at h
  case h_2 => cases h
  rename_i a b
  simp only [Bool.and_eq_true, decide_eq_true_eq] at h
  obtain ⟨h1, h2, h3, h4⟩ := h
  obtain rfl := eqVss_eq _ _ h2
  obtain ⟨es, rfl⟩ : ∃ es : List Ev, a = es.map evA := ⟨_, evs_of a h1⟩
  rw [evsOf_map] at h4
  rw [f9_eq, f9_e, bIte_f (by simp)]
  obtain ⟨k, hk⟩ : ∃ k, FU = k + es.length + 1 := ⟨FU - (es.length + 1), by rw [List.length_map] at h3; unfold big at h3; have := FU_ge; omega⟩
  have := f9_L0_law k es [] (by simpa [big] using h3) (fun e he => of_decide_eq_true (List.all_eq_true.1 h4 e he))
  rw [← hk] at this
  exact this
theorem isY1_ex {x : List AV} (h : isY1 x = true) : ∃ s : List UInt8, x = [.Y s] ∧ s.length ≤ 140737488355328 := by
  unfold isY1 at h
  split at h
  · exact ⟨_, rfl, of_decide_eq_true h⟩
  · cases h
theorem getD_midA (p r : List (List AV)) (x : List AV) : List.getD (p ++ x :: r) p.length [] = x := by
  rw [List.getD_eq_getElem?_getD, List.getElem?_append_right (Nat.le_refl _)]
  simp
theorem f10_p5_law (xs ys : List (List AV)) : f10_p5 xs ys [] [] [] [] [] [] [] [] = .ret (.B true) (gv xs ys [] [] [] [] [] [] [] []) := by
  obtain ⟨k, hk⟩ : ∃ k, FU = k + 1 := ⟨FU - 1, by have := FU_ge; omega⟩
  rw [f10_p5, f10_p6]
  show f10_L6 FU _ _ _ _ _ _ _ _ _ _ _ = _
  rw [hk, f10_L6, iteF (by simp), f10_p9, f10_p10]
  show f10_L9 FU _ _ _ _ _ _ _ _ _ _ _ = _
  rw [hk, f10_L9, iteF (by simp), f10_p13, f10_p14]
  show f10_L12 FU _ _ _ _ _ _ _ _ _ _ _ = _
  rw [hk, f10_L12, iteF (by simp), f10_p17, f10_p18]
  show f10_L15 FU _ _ _ _ _ _ _ _ _ _ _ = _
  rw [hk, f10_L15, iteF (by simp), f10_p21]
  rfl
theorem f10_L2_law (k : Nat) : ∀ (r p : List (List AV)), (p ++ r).length ≤ 140737488355328 → r.all isY1 = true →
    f10_L2 (k + r.length + 1) (p.length : Int) (p ++ r) (p ++ r) [] [] [] [] [] [] [] [] = .ret (.B true) (gv (p ++ r) (p ++ r) [] [] [] [] [] [] [] []) := by
  intro r
  induction r with
  | nil =>
    intro p h1 _
    show f10_L2 (k + 1) _ _ _ _ _ _ _ _ _ _ _ = _
    rw [f10_L2, iteF (by simp), f10_p5_law]
  | cons x r ih =>
    intro p h1 h2
    simp only [List.all_cons, Bool.and_eq_true] at h2
    simp only [List.length_append, List.length_cons] at h1
    obtain ⟨s, rfl, hs⟩ := isY1_ex h2.1
    have p20 : Sp.pre sp20 [AV.Y s, AV.Y s] [] = true := by
      show (decide (s.length ≤ 140737488355328) && decide (s.length ≤ 140737488355328)) = true
      rw [decide_eq_true hs]; rfl
    show f10_L2 (k + r.length + 1 + 1) _ _ _ _ _ _ _ _ _ _ _ = _
    rw [f10_L2, iteT (by simp; omega), ix_t (by simp), ix_t (by simp), getD_midA]
    show chk (noPs [AV.Y s, AV.Y s]) (chk (Sp.pre sp20 [AV.Y s, AV.Y s] []) (chk (noP (Sp.val sp20 [AV.Y s, AV.Y s] [])) (bIte (!(s == s)) _ _))) = _
    rw [chk_t (b := noPs [AV.Y s, AV.Y s]) rfl, chk_t p20, chk_t (b := noP (Sp.val sp20 [AV.Y s, AV.Y s] [])) rfl, bIte_f (by simp), f10_p4, wrap_i64 (by omega)]
    have e1 : p ++ [AV.Y s] :: r = (p ++ [[AV.Y s]]) ++ r := by simp
    have e2 : ((p.length : Int) + 1) = (((p ++ [[AV.Y s]]).length : Nat) : Int) := by simp
    rw [e1, e2, ih (p ++ [[AV.Y s]]) (by simp only [List.length_append, List.length_cons, List.length_nil]; omega) h2.2]
theorem sp10_ok (l : List AV) (h : List HO) (hp : sp10.pre l h = true) : f10_sem l h = .ret (sp10.val l h) (sp10.hp l h) := by
  unfold sp10 at hp
  dsimp only at hp
  split at hp
  case h_2 => cases hp
  rename_i xs ys
  simp only [Bool.and_eq_true, decide_eq_true_eq] at hp
  obtain ⟨h1, h2, h3⟩ := hp
  obtain rfl := eqVss_eq _ _ h2
  rw [f10_eq, f10_e, f10_p0]
  obtain ⟨k, hk⟩ : ∃ k, FU = k + xs.length + 1 := ⟨FU - (xs.length + 1), by unfold big at h3; have := FU_ge; omega⟩
  have := f10_L2_law k xs [] (by simpa [big] using h3) h1
  rw [← hk] at this
  exact this
end Go.Vm
