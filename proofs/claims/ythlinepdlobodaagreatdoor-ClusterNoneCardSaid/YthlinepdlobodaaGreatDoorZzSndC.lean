/- Part of a proof: ZzSndC. -/
import Derived.Test.YthlinepdlobodaaGreatDoorZzAnnC
import Derived.Test.YthlinepdlobodaaGreatDoorZzDel
import Derived.KernelRfl
set_option linter.unusedSimpArgs false
set_option linter.unusedVariables false
set_option linter.unusedSectionVars false
namespace Go.Vm
open Go Go.Proofs
set_option maxRecDepth 100000
theorem each175 : EachCode cx.P Tryz.f175 3 62 61 where
  hti := by kernel_rfl
  ati := by kernel_rfl
  hts := by kernel_rfl
  ats := by kernel_rfl
  uts := by kernel_rfl
  hte := by kernel_rfl
  ate := by kernel_rfl
  zte := Nat.ne_of_beq_eq_false (by kernel_rfl)
  nt := Nat.le_of_ble_eq_true (by kernel_rfl)
  res := by kernel_rfl
  np := by decide
  body := ⟨0, 1, 2, 3, 0, 1, opN (sq1 (bodyOf Tryz.f175)) 0, opN (sq1 (bodyOf Tryz.f175)) 1, opN (sq1 (bodyOf Tryz.f175)) 2, opN (sq1 (bodyOf Tryz.f175)) 3, opN (sq1 (sq1 (blk (blk (sq2 (bodyOf Tryz.f175)))))) 0, opN (sq1 (sq1 (blk (blk (sq2 (bodyOf Tryz.f175)))))) 1, opN (sq1 (sq1 (blk (blk (sq2 (bodyOf Tryz.f175)))))) 2, opN (sq1 (sq1 (blk (blk (sq2 (bodyOf Tryz.f175)))))) 3, opN (sq1 (blk (sq1 (sq2 (blk (blk (sq2 (bodyOf Tryz.f175)))))))) 0, opN (sq1 (blk (sq1 (sq2 (blk (blk (sq2 (bodyOf Tryz.f175)))))))) 1, opN (sq1 (blk (sq1 (sq2 (blk (blk (sq2 (bodyOf Tryz.f175)))))))) 2, opN (sq1 (blk (sq1 (sq2 (blk (blk (sq2 (bodyOf Tryz.f175)))))))) 3, opN (sq1 (blk (sq1 (sq2 (blk (blk (sq2 (bodyOf Tryz.f175)))))))) 4, opN (sq1 (blk (sq1 (sq2 (blk (blk (sq2 (bodyOf Tryz.f175)))))))) 5, opN (sq1 (blk (sq1 (sq2 (blk (blk (sq2 (bodyOf Tryz.f175)))))))) 6, opN (sq1 (blk (sq1 (sq2 (blk (blk (sq2 (bodyOf Tryz.f175)))))))) 7, opN (sq1 (blk (sq1 (sq2 (blk (blk (sq2 (bodyOf Tryz.f175)))))))) 8, opN (sq2 (sq2 (blk (blk (sq2 (bodyOf Tryz.f175)))))) 0, opN (sq2 (sq2 (blk (blk (sq2 (bodyOf Tryz.f175)))))) 1, opN (sq2 (sq2 (blk (blk (sq2 (bodyOf Tryz.f175)))))) 2, 3, 3, 3, 4, 3, 0, cdN (opN (sq1 (bodyOf Tryz.f175)) 1), cdN (opN (sq1 (sq1 (blk (blk (sq2 (bodyOf Tryz.f175)))))) 2), cdN (opN (sq1 (blk (sq1 (sq2 (blk (blk (sq2 (bodyOf Tryz.f175)))))))) 7), (by kernel_rfl), ⟨(by kernel_rfl), (by kernel_rfl), (by kernel_rfl)⟩, ⟨(by kernel_rfl), (by kernel_rfl), (by kernel_rfl)⟩, ⟨(by kernel_rfl), (by kernel_rfl), (by kernel_rfl)⟩, ⟨(by kernel_rfl), (by kernel_rfl), (by kernel_rfl)⟩, ⟨(by kernel_rfl), (by kernel_rfl)⟩, ⟨(by kernel_rfl), (by kernel_rfl), (by kernel_rfl)⟩, ⟨(by kernel_rfl), (by kernel_rfl), (by kernel_rfl)⟩, ⟨(by kernel_rfl), (by kernel_rfl), (by kernel_rfl)⟩, ⟨(by kernel_rfl), (by kernel_rfl), (by kernel_rfl)⟩, ⟨(by kernel_rfl), (by kernel_rfl), (by kernel_rfl)⟩, ⟨(by kernel_rfl), (by kernel_rfl), (by kernel_rfl)⟩, ⟨(by kernel_rfl), (by kernel_rfl), (by kernel_rfl)⟩, ⟨(by kernel_rfl), (by kernel_rfl), (by kernel_rfl)⟩, ⟨(by kernel_rfl), (by kernel_rfl), (by kernel_rfl)⟩, ⟨(by kernel_rfl), (by kernel_rfl), (by kernel_rfl)⟩, ⟨(by kernel_rfl), (by kernel_rfl), (by kernel_rfl)⟩, ⟨(by kernel_rfl), (by kernel_rfl), (by kernel_rfl)⟩, ⟨(by kernel_rfl), (by kernel_rfl), (by kernel_rfl)⟩, ⟨(by kernel_rfl), (by kernel_rfl), (by kernel_rfl)⟩, ⟨(by kernel_rfl), (by kernel_rfl)⟩, ⟨(by kernel_rfl), (by kernel_rfl), (by kernel_rfl)⟩, ⟨(by kernel_rfl), (by kernel_rfl), (by kernel_rfl)⟩, ⟨(by kernel_rfl), (by kernel_rfl), (by kernel_rfl)⟩⟩
theorem net46 : NetCode cx.P Tryz.f46 45 3 79 64 where
  hts := by kernel_rfl
  ats := by kernel_rfl
  uts := by kernel_rfl
  hte := by kernel_rfl
  ate := by kernel_rfl
  zte := by kernel_rfl
  zero := by kernel_rfl
  nt := Nat.le_of_ble_eq_true (by kernel_rfl)
  res := by kernel_rfl
  np := by decide
  body := ⟨0, 1, 2, 3, 4, 0, 1, opN (sq1 (bodyOf Tryz.f46)) 0, opN (sq1 (bodyOf Tryz.f46)) 1, opN (sq1 (bodyOf Tryz.f46)) 2, opN (sq1 (blk (blk (sq2 (bodyOf Tryz.f46))))) 0, opN (sq1 (blk (sq1 (sq2 (sq2 (blk (blk (sq2 (bodyOf Tryz.f46))))))))) 0, opN (sq1 (blk (sq1 (sq2 (sq2 (blk (blk (sq2 (bodyOf Tryz.f46))))))))) 1, opN (sq1 (blk (sq1 (sq2 (sq2 (blk (blk (sq2 (bodyOf Tryz.f46))))))))) 2, opN (sq1 (blk (sq1 (sq2 (sq2 (blk (blk (sq2 (bodyOf Tryz.f46))))))))) 3, opN (sq1 (blk (sq1 (sq2 (sq2 (blk (blk (sq2 (bodyOf Tryz.f46))))))))) 4, opN (sq1 (blk (sq1 (sq2 (sq2 (blk (blk (sq2 (bodyOf Tryz.f46))))))))) 5, opN (sq1 (sq2 (blk (sq1 (sq2 (sq2 (blk (blk (sq2 (bodyOf Tryz.f46)))))))))) 0, opN (sq1 (sq2 (blk (sq1 (sq2 (sq2 (blk (blk (sq2 (bodyOf Tryz.f46)))))))))) 1, opN (sq1 (sq2 (blk (sq1 (sq2 (sq2 (blk (blk (sq2 (bodyOf Tryz.f46)))))))))) 2, opN (sq1 (sq2 (blk (sq1 (sq2 (sq2 (blk (blk (sq2 (bodyOf Tryz.f46)))))))))) 3, opN (sq1 (sq2 (blk (sq1 (sq2 (sq2 (blk (blk (sq2 (bodyOf Tryz.f46)))))))))) 4, opN (sq1 (sq2 (blk (sq1 (sq2 (sq2 (blk (blk (sq2 (bodyOf Tryz.f46)))))))))) 5, opN (sq2 (sq2 (sq2 (blk (blk (sq2 (bodyOf Tryz.f46))))))) 0, opN (sq2 (sq2 (sq2 (blk (blk (sq2 (bodyOf Tryz.f46))))))) 1, 3, 4, 3, cdN (opN (sq1 (bodyOf Tryz.f46)) 1), cdN (opN (sq1 (sq2 (blk (sq1 (sq2 (sq2 (blk (blk (sq2 (bodyOf Tryz.f46)))))))))) 3), cdN (opN (sq1 (sq2 (blk (sq1 (sq2 (sq2 (blk (blk (sq2 (bodyOf Tryz.f46)))))))))) 4), (by kernel_rfl), ⟨(by kernel_rfl), (by kernel_rfl), (by kernel_rfl)⟩, ⟨(by kernel_rfl), (by kernel_rfl), (by kernel_rfl)⟩, ⟨(by kernel_rfl), (by kernel_rfl), (by kernel_rfl)⟩, ⟨(by kernel_rfl), (by kernel_rfl), (by kernel_rfl)⟩, ⟨(by kernel_rfl), (by kernel_rfl), (by kernel_rfl)⟩, ⟨(by kernel_rfl), (by kernel_rfl), (by kernel_rfl)⟩, ⟨(by kernel_rfl), (by kernel_rfl), (by kernel_rfl)⟩, ⟨(by kernel_rfl), (by kernel_rfl), (by kernel_rfl)⟩, ⟨(by kernel_rfl), (by kernel_rfl), (by kernel_rfl)⟩, ⟨(by kernel_rfl), (by kernel_rfl), (by kernel_rfl)⟩, ⟨64, (by kernel_rfl), (by kernel_rfl), (by kernel_rfl), rfl⟩, ⟨(by kernel_rfl), (by kernel_rfl), (by kernel_rfl)⟩, ⟨(by kernel_rfl), (by kernel_rfl), (by kernel_rfl)⟩, ⟨(by kernel_rfl), (by kernel_rfl), (by kernel_rfl)⟩, ⟨(by kernel_rfl), (by kernel_rfl), (by kernel_rfl)⟩, ⟨(by kernel_rfl), (by kernel_rfl), (by kernel_rfl)⟩, ⟨(by kernel_rfl), (by kernel_rfl), (by kernel_rfl)⟩, ⟨(by kernel_rfl), (by kernel_rfl)⟩, ⟨(by kernel_rfl), (by kernel_rfl)⟩, ⟨(by kernel_rfl), (by kernel_rfl), (by kernel_rfl)⟩, ⟨(by kernel_rfl), (by kernel_rfl), (by kernel_rfl)⟩⟩
theorem okC0 : OkC cx0 := by
  refine ⟨Nat.le_refl _, fun gi cs h => ?_, by kernel_rfl, fun f cs xs h => ?_⟩
  · cases h
  · cases h
noncomputable def G0 : FuncId → FF := fun _ _ _ => .stuck
theorem cp45_sound : Sound cx0 45 (semF cx0 (ann45x 4194304) Tryz.f45 G0) :=
  sound_fn okC0 (fun j => sound_stuck j) (f := 45) (fn := Tryz.f45) (c := bodyOf Tryz.f45) (by kernel_rfl) (by kernel_rfl) (by decide) (by kernel_rfl) (by kernel_rfl) (by kernel_rfl) (by kernel_rfl) (by kernel_rfl) (by kernel_rfl) (.inl (by kernel_rfl))
theorem cp45_eval (x y : Int) (s : List UInt8) (hs : s.length ≤ 140737488355328) : semF cx0 (ann45x 4194304) Tryz.f45 G0 [.A [.I .i64 x, .I .i64 y, .Y s]] [] = .ret (.A [.I .i64 x, .I .i64 y, .Y s]) [] := by
  have hb : cx0.bound = 140737488355328 := rfl
  have h1 : byT cx0.P 5 = 1 := by kernel_rfl
  obtain ⟨l, hl⟩ : ∃ l : List UInt8, l = List.take 0 (List.replicate ((s.length : Int)).toNat 0) ++ s ++ List.drop (0 + s.length) (List.replicate ((s.length : Int)).toNat 0) := ⟨_, rfl⟩
  have key : semF cx0 (ann45x 4194304) Tryz.f45 G0 [.A [.I .i64 x, .I .i64 y, .Y s]] [] =
    chk (decide (0 ≤ (s.length : Int) ∧ (s.length : Int) ≤ (s.length : Int) ∧ ((s.length : Int)).toNat ≤ cx0.bound ∧ ((s.length : Int)).toNat * byT cx0.P 5 ≤ cx0.bound))
     (chk (decide (0 + s.length ≤ (List.replicate ((s.length : Int)).toNat (0 : UInt8)).length))
      (chk (decide (0 ≤ ((List.take 0 (List.replicate ((s.length : Int)).toNat 0) ++ s ++ List.drop (0 + s.length) (List.replicate ((s.length : Int)).toNat 0)).length : Int) ∧ ((List.take 0 (List.replicate ((s.length : Int)).toNat 0) ++ s ++ List.drop (0 + s.length) (List.replicate ((s.length : Int)).toNat 0)).length : Int) ≤ ((List.take 0 (List.replicate ((s.length : Int)).toNat 0) ++ s ++ List.drop (0 + s.length) (List.replicate ((s.length : Int)).toNat 0)).length : Int)))
       (chk (decide (0 ≤ ((List.take 0 (List.replicate ((s.length : Int)).toNat 0) ++ s ++ List.drop (0 + s.length) (List.replicate ((s.length : Int)).toNat 0)).length : Int) ∧ ((List.take 0 (List.replicate ((s.length : Int)).toNat 0) ++ s ++ List.drop (0 + s.length) (List.replicate ((s.length : Int)).toNat 0)).length : Int) ≤ ((List.take 0 (List.replicate ((s.length : Int)).toNat 0) ++ s ++ List.drop (0 + s.length) (List.replicate ((s.length : Int)).toNat 0)).length : Int)))
        (.ret (.A [.I .i64 x, .I .i64 y, .Y (((List.take 0 (List.replicate ((s.length : Int)).toNat 0) ++ s ++ List.drop (0 + s.length) (List.replicate ((s.length : Int)).toNat 0)).take ((List.take 0 (List.replicate ((s.length : Int)).toNat 0) ++ s ++ List.drop (0 + s.length) (List.replicate ((s.length : Int)).toNat 0)).length : Int).toNat).drop 0)]) [])))) := by kernel_rfl
  rw [key, hb, h1]
  simp [chk, hs]
theorem cp45 : CopyC cx.P 45 := by
  intro x hx g w v hn how hwf hv
  unfold pktOK at hx
  split at hx
  case h_2 => cases hx
  rename_i a b s
  have h := cp45_sound
  unfold Sound at h
  rw [if_pos (show cx0.pure 45 = true by kernel_rfl)] at h
  exact h.1 g w [.A [.I .i64 a, .I .i64 b, .Y s]] [v] _ (cp45_eval a b s (of_decide_eq_true hx)) (by simp) rfl hn (by simp only [VT]; exact ⟨v, [], rfl, hv, rfl⟩) hwf (fun gi cs hg => by cases hg) how
theorem okC : OkC cx := by
  refine ⟨Nat.le_refl _, fun gi cs h => ?_, by kernel_rfl, fun f cs xs h => ?_⟩
  · have h : globs gi = some cs := h
    unfold globs at h
    split at h
    all_goals first | (cases h; done) | (injection h with h; subst h; kernel_rfl) | (injection h with h; subst h; decide)
  · have h : (bif Nat.beq f 175 then eachI 5 cs else bif Nat.beq f 46 then netI cs else none) = some xs := h
    cases e : Nat.beq f 175 with
    | false =>
      rw [e] at h
      cases e2 : Nat.beq f 46 with
      | false => rw [e2] at h; cases h
      | true =>
        rw [e2] at h
        rw [Nat.eq_of_beq_eq_true e2]
        exact netI_ok (fn := Tryz.f46) (by kernel_rfl) net46 cp45 cs xs h
    | true =>
      rw [e] at h
      rw [Nat.eq_of_beq_eq_true e]
      exact eachI_ok (fn := Tryz.f175) (by kernel_rfl) each175 (by kernel_rfl) cs xs h
theorem s2 {G : FuncId → FF} (hG : ∀ j, Sound cx j (G j)) : Sound cx 2 (t2 G) :=
  sound_fnQ okC hG (f := 2) (fn := Tryz.f2) (c := bodyOf Tryz.f2) (by kernel_rfl) (by kernel_rfl) (by decide) (by kernel_rfl) (by kernel_rfl) (by kernel_rfl) (by kernel_rfl) (by kernel_rfl) (by kernel_rfl) (.inl (by kernel_rfl))
theorem s3 {G : FuncId → FF} (hG : ∀ j, Sound cx j (G j)) : Sound cx 3 (t3 G) :=
  sound_fnQ okC hG (f := 3) (fn := Tryz.f3) (c := bodyOf Tryz.f3) (by kernel_rfl) (by kernel_rfl) (by decide) (by kernel_rfl) (by kernel_rfl) (by kernel_rfl) (by kernel_rfl) (by kernel_rfl) (by kernel_rfl) (.inl (by kernel_rfl))
theorem s4 {G : FuncId → FF} (hG : ∀ j, Sound cx j (G j)) : Sound cx 4 (t4 G) :=
  sound_fnQ okC hG (f := 4) (fn := Tryz.f4) (c := bodyOf Tryz.f4) (by kernel_rfl) (by kernel_rfl) (by decide) (by kernel_rfl) (by kernel_rfl) (by kernel_rfl) (by kernel_rfl) (by kernel_rfl) (by kernel_rfl) (.inl (by kernel_rfl))
theorem s5 {G : FuncId → FF} (hG : ∀ j, Sound cx j (G j)) : Sound cx 5 (t5 G) :=
  sound_fnQ okC hG (f := 5) (fn := Tryz.f5) (c := bodyOf Tryz.f5) (by kernel_rfl) (by kernel_rfl) (by decide) (by kernel_rfl) (by kernel_rfl) (by kernel_rfl) (by kernel_rfl) (by kernel_rfl) (by kernel_rfl) (.inl (by kernel_rfl))
theorem s6 {G : FuncId → FF} (hG : ∀ j, Sound cx j (G j)) : Sound cx 6 (t6 G) :=
  sound_fnQ okC hG (f := 6) (fn := Tryz.f6) (c := bodyOf Tryz.f6) (by kernel_rfl) (by kernel_rfl) (by decide) (by kernel_rfl) (by kernel_rfl) (by kernel_rfl) (by kernel_rfl) (by kernel_rfl) (by kernel_rfl) (.inl (by kernel_rfl))
theorem s7 {G : FuncId → FF} (hG : ∀ j, Sound cx j (G j)) : Sound cx 7 (t7 G) :=
  sound_fnQ okC hG (f := 7) (fn := Tryz.f7) (c := bodyOf Tryz.f7) (by kernel_rfl) (by kernel_rfl) (by decide) (by kernel_rfl) (by kernel_rfl) (by kernel_rfl) (by kernel_rfl) (by kernel_rfl) (by kernel_rfl) (.inl (by kernel_rfl))
theorem s8 {G : FuncId → FF} (hG : ∀ j, Sound cx j (G j)) : Sound cx 8 (t8 G) :=
  sound_fnQ okC hG (f := 8) (fn := Tryz.f8) (c := bodyOf Tryz.f8) (by kernel_rfl) (by kernel_rfl) (by decide) (by kernel_rfl) (by kernel_rfl) (by kernel_rfl) (by kernel_rfl) (by kernel_rfl) (by kernel_rfl) (.inl (by kernel_rfl))
theorem s9 {G : FuncId → FF} (hG : ∀ j, Sound cx j (G j)) : Sound cx 9 (t9 G) :=
  sound_fnQ okC hG (f := 9) (fn := Tryz.f9) (c := bodyOf Tryz.f9) (by kernel_rfl) (by kernel_rfl) (by decide) (by kernel_rfl) (by kernel_rfl) (by kernel_rfl) (by kernel_rfl) (by kernel_rfl) (by kernel_rfl) (.inl (by kernel_rfl))
theorem s10 {G : FuncId → FF} (hG : ∀ j, Sound cx j (G j)) : Sound cx 10 (t10 G) :=
  sound_fnQ okC hG (f := 10) (fn := Tryz.f10) (c := bodyOf Tryz.f10) (by kernel_rfl) (by kernel_rfl) (by decide) (by kernel_rfl) (by kernel_rfl) (by kernel_rfl) (by kernel_rfl) (by kernel_rfl) (by kernel_rfl) (.inl (by kernel_rfl))
theorem s11 {G : FuncId → FF} (hG : ∀ j, Sound cx j (G j)) : Sound cx 11 (t11 G) :=
  sound_fnQ okC hG (f := 11) (fn := Tryz.f11) (c := bodyOf Tryz.f11) (by kernel_rfl) (by kernel_rfl) (by decide) (by kernel_rfl) (by kernel_rfl) (by kernel_rfl) (by kernel_rfl) (by kernel_rfl) (by kernel_rfl) (.inl (by kernel_rfl))
theorem s12 {G : FuncId → FF} (hG : ∀ j, Sound cx j (G j)) : Sound cx 12 (t12 G) :=
  sound_fnQ okC hG (f := 12) (fn := Tryz.f12) (c := bodyOf Tryz.f12) (by kernel_rfl) (by kernel_rfl) (by decide) (by kernel_rfl) (by kernel_rfl) (by kernel_rfl) (by kernel_rfl) (by kernel_rfl) (by kernel_rfl) (.inl (by kernel_rfl))
theorem s13 {G : FuncId → FF} (hG : ∀ j, Sound cx j (G j)) : Sound cx 13 (t13 G) :=
  sound_rfQ okC hG (f := 13) (fn := Tryz.f13) (c := bodyOf Tryz.f13) (by kernel_rfl) (by kernel_rfl) (by decide) (by kernel_rfl) (by kernel_rfl) (by kernel_rfl) (by kernel_rfl) (by kernel_rfl) (by kernel_rfl) (.inl (by kernel_rfl))
theorem s14 {G : FuncId → FF} (hG : ∀ j, Sound cx j (G j)) : Sound cx 14 (t14 G) :=
  sound_fnQ okC hG (f := 14) (fn := Tryz.f14) (c := bodyOf Tryz.f14) (by kernel_rfl) (by kernel_rfl) (by decide) (by kernel_rfl) (by kernel_rfl) (by kernel_rfl) (by kernel_rfl) (by kernel_rfl) (by kernel_rfl) (.inl (by kernel_rfl))
theorem s15 {G : FuncId → FF} (hG : ∀ j, Sound cx j (G j)) : Sound cx 15 (t15 G) :=
  sound_fnQ okC hG (f := 15) (fn := Tryz.f15) (c := bodyOf Tryz.f15) (by kernel_rfl) (by kernel_rfl) (by decide) (by kernel_rfl) (by kernel_rfl) (by kernel_rfl) (by kernel_rfl) (by kernel_rfl) (by kernel_rfl) (.inl (by kernel_rfl))
theorem s16 {G : FuncId → FF} (hG : ∀ j, Sound cx j (G j)) : Sound cx 16 (t16 G) :=
  sound_fnQ okC hG (f := 16) (fn := Tryz.f16) (c := bodyOf Tryz.f16) (by kernel_rfl) (by kernel_rfl) (by decide) (by kernel_rfl) (by kernel_rfl) (by kernel_rfl) (by kernel_rfl) (by kernel_rfl) (by kernel_rfl) (.inl (by kernel_rfl))
theorem s17 {G : FuncId → FF} (hG : ∀ j, Sound cx j (G j)) : Sound cx 17 (t17 G) :=
  sound_fnQ okC hG (f := 17) (fn := Tryz.f17) (c := bodyOf Tryz.f17) (by kernel_rfl) (by kernel_rfl) (by decide) (by kernel_rfl) (by kernel_rfl) (by kernel_rfl) (by kernel_rfl) (by kernel_rfl) (by kernel_rfl) (.inl (by kernel_rfl))
theorem s18 {G : FuncId → FF} (hG : ∀ j, Sound cx j (G j)) : Sound cx 18 (t18 G) :=
  sound_fnQ okC hG (f := 18) (fn := Tryz.f18) (c := bodyOf Tryz.f18) (by kernel_rfl) (by kernel_rfl) (by decide) (by kernel_rfl) (by kernel_rfl) (by kernel_rfl) (by kernel_rfl) (by kernel_rfl) (by kernel_rfl) (.inl (by kernel_rfl))
theorem s19 {G : FuncId → FF} (hG : ∀ j, Sound cx j (G j)) : Sound cx 19 (t19 G) :=
  sound_fnQ okC hG (f := 19) (fn := Tryz.f19) (c := bodyOf Tryz.f19) (by kernel_rfl) (by kernel_rfl) (by decide) (by kernel_rfl) (by kernel_rfl) (by kernel_rfl) (by kernel_rfl) (by kernel_rfl) (by kernel_rfl) (.inl (by kernel_rfl))
theorem s20 {G : FuncId → FF} (hG : ∀ j, Sound cx j (G j)) : Sound cx 20 (t20 G) :=
  sound_fnQ okC hG (f := 20) (fn := Tryz.f20) (c := bodyOf Tryz.f20) (by kernel_rfl) (by kernel_rfl) (by decide) (by kernel_rfl) (by kernel_rfl) (by kernel_rfl) (by kernel_rfl) (by kernel_rfl) (by kernel_rfl) (.inl (by kernel_rfl))
theorem s21 {G : FuncId → FF} (hG : ∀ j, Sound cx j (G j)) : Sound cx 21 (t21 G) :=
  sound_fnQ okC hG (f := 21) (fn := Tryz.f21) (c := bodyOf Tryz.f21) (by kernel_rfl) (by kernel_rfl) (by decide) (by kernel_rfl) (by kernel_rfl) (by kernel_rfl) (by kernel_rfl) (by kernel_rfl) (by kernel_rfl) (.inl (by kernel_rfl))
theorem s22 {G : FuncId → FF} (hG : ∀ j, Sound cx j (G j)) : Sound cx 22 (t22 G) :=
  sound_fnQ okC hG (f := 22) (fn := Tryz.f22) (c := bodyOf Tryz.f22) (by kernel_rfl) (by kernel_rfl) (by decide) (by kernel_rfl) (by kernel_rfl) (by kernel_rfl) (by kernel_rfl) (by kernel_rfl) (by kernel_rfl) (.inl (by kernel_rfl))
theorem s23 {G : FuncId → FF} (hG : ∀ j, Sound cx j (G j)) : Sound cx 23 (t23 G) :=
  sound_fnQ okC hG (f := 23) (fn := Tryz.f23) (c := bodyOf Tryz.f23) (by kernel_rfl) (by kernel_rfl) (by decide) (by kernel_rfl) (by kernel_rfl) (by kernel_rfl) (by kernel_rfl) (by kernel_rfl) (by kernel_rfl) (.inl (by kernel_rfl))
theorem s24 {G : FuncId → FF} (hG : ∀ j, Sound cx j (G j)) : Sound cx 24 (t24 G) :=
  sound_fnQ okC hG (f := 24) (fn := Tryz.f24) (c := bodyOf Tryz.f24) (by kernel_rfl) (by kernel_rfl) (by decide) (by kernel_rfl) (by kernel_rfl) (by kernel_rfl) (by kernel_rfl) (by kernel_rfl) (by kernel_rfl) (.inl (by kernel_rfl))
theorem s25 {G : FuncId → FF} (hG : ∀ j, Sound cx j (G j)) : Sound cx 25 (t25 G) :=
  sound_fnQ okC hG (f := 25) (fn := Tryz.f25) (c := bodyOf Tryz.f25) (by kernel_rfl) (by kernel_rfl) (by decide) (by kernel_rfl) (by kernel_rfl) (by kernel_rfl) (by kernel_rfl) (by kernel_rfl) (by kernel_rfl) (.inl (by kernel_rfl))
theorem s26 {G : FuncId → FF} (hG : ∀ j, Sound cx j (G j)) : Sound cx 26 (t26 G) :=
  sound_fnQ okC hG (f := 26) (fn := Tryz.f26) (c := bodyOf Tryz.f26) (by kernel_rfl) (by kernel_rfl) (by decide) (by kernel_rfl) (by kernel_rfl) (by kernel_rfl) (by kernel_rfl) (by kernel_rfl) (by kernel_rfl) (.inl (by kernel_rfl))
theorem s27 {G : FuncId → FF} (hG : ∀ j, Sound cx j (G j)) : Sound cx 27 (t27 G) :=
  sound_fnQ okC hG (f := 27) (fn := Tryz.f27) (c := bodyOf Tryz.f27) (by kernel_rfl) (by kernel_rfl) (by decide) (by kernel_rfl) (by kernel_rfl) (by kernel_rfl) (by kernel_rfl) (by kernel_rfl) (by kernel_rfl) (.inl (by kernel_rfl))
theorem s28 {G : FuncId → FF} (hG : ∀ j, Sound cx j (G j)) : Sound cx 28 (t28 G) :=
  sound_fnQ okC hG (f := 28) (fn := Tryz.f28) (c := bodyOf Tryz.f28) (by kernel_rfl) (by kernel_rfl) (by decide) (by kernel_rfl) (by kernel_rfl) (by kernel_rfl) (by kernel_rfl) (by kernel_rfl) (by kernel_rfl) (.inl (by kernel_rfl))
theorem s29 {G : FuncId → FF} (hG : ∀ j, Sound cx j (G j)) : Sound cx 29 (t29 G) :=
  sound_fnQ okC hG (f := 29) (fn := Tryz.f29) (c := bodyOf Tryz.f29) (by kernel_rfl) (by kernel_rfl) (by decide) (by kernel_rfl) (by kernel_rfl) (by kernel_rfl) (by kernel_rfl) (by kernel_rfl) (by kernel_rfl) (.inl (by kernel_rfl))
theorem s30 {G : FuncId → FF} (hG : ∀ j, Sound cx j (G j)) : Sound cx 30 (t30 G) :=
  sound_fnQ okC hG (f := 30) (fn := Tryz.f30) (c := bodyOf Tryz.f30) (by kernel_rfl) (by kernel_rfl) (by decide) (by kernel_rfl) (by kernel_rfl) (by kernel_rfl) (by kernel_rfl) (by kernel_rfl) (by kernel_rfl) (.inl (by kernel_rfl))
theorem s31 {G : FuncId → FF} (hG : ∀ j, Sound cx j (G j)) : Sound cx 31 (t31 G) :=
  sound_fnQ okC hG (f := 31) (fn := Tryz.f31) (c := bodyOf Tryz.f31) (by kernel_rfl) (by kernel_rfl) (by decide) (by kernel_rfl) (by kernel_rfl) (by kernel_rfl) (by kernel_rfl) (by kernel_rfl) (by kernel_rfl) (.inl (by kernel_rfl))
theorem s32 {G : FuncId → FF} (hG : ∀ j, Sound cx j (G j)) : Sound cx 32 (t32 G) :=
  sound_fnQ okC hG (f := 32) (fn := Tryz.f32) (c := bodyOf Tryz.f32) (by kernel_rfl) (by kernel_rfl) (by decide) (by kernel_rfl) (by kernel_rfl) (by kernel_rfl) (by kernel_rfl) (by kernel_rfl) (by kernel_rfl) (.inl (by kernel_rfl))
theorem s33 {G : FuncId → FF} (hG : ∀ j, Sound cx j (G j)) : Sound cx 33 (t33 G) :=
  sound_fnQ okC hG (f := 33) (fn := Tryz.f33) (c := bodyOf Tryz.f33) (by kernel_rfl) (by kernel_rfl) (by decide) (by kernel_rfl) (by kernel_rfl) (by kernel_rfl) (by kernel_rfl) (by kernel_rfl) (by kernel_rfl) (.inl (by kernel_rfl))
theorem s34 {G : FuncId → FF} (hG : ∀ j, Sound cx j (G j)) : Sound cx 34 (t34 G) :=
  sound_fnQ okC hG (f := 34) (fn := Tryz.f34) (c := bodyOf Tryz.f34) (by kernel_rfl) (by kernel_rfl) (by decide) (by kernel_rfl) (by kernel_rfl) (by kernel_rfl) (by kernel_rfl) (by kernel_rfl) (by kernel_rfl) (.inl (by kernel_rfl))
theorem s35 {G : FuncId → FF} (hG : ∀ j, Sound cx j (G j)) : Sound cx 35 (t35 G) :=
  sound_fnQ okC hG (f := 35) (fn := Tryz.f35) (c := bodyOf Tryz.f35) (by kernel_rfl) (by kernel_rfl) (by decide) (by kernel_rfl) (by kernel_rfl) (by kernel_rfl) (by kernel_rfl) (by kernel_rfl) (by kernel_rfl) (.inl (by kernel_rfl))
theorem s36 {G : FuncId → FF} (hG : ∀ j, Sound cx j (G j)) : Sound cx 36 (t36 G) :=
  sound_fnQ okC hG (f := 36) (fn := Tryz.f36) (c := bodyOf Tryz.f36) (by kernel_rfl) (by kernel_rfl) (by decide) (by kernel_rfl) (by kernel_rfl) (by kernel_rfl) (by kernel_rfl) (by kernel_rfl) (by kernel_rfl) (.inl (by kernel_rfl))
theorem s37 {G : FuncId → FF} (hG : ∀ j, Sound cx j (G j)) : Sound cx 37 (t37 G) :=
  sound_fnQ okC hG (f := 37) (fn := Tryz.f37) (c := bodyOf Tryz.f37) (by kernel_rfl) (by kernel_rfl) (by decide) (by kernel_rfl) (by kernel_rfl) (by kernel_rfl) (by kernel_rfl) (by kernel_rfl) (by kernel_rfl) (.inl (by kernel_rfl))
theorem s38 {G : FuncId → FF} (hG : ∀ j, Sound cx j (G j)) : Sound cx 38 (t38 G) :=
  sound_fnQ okC hG (f := 38) (fn := Tryz.f38) (c := bodyOf Tryz.f38) (by kernel_rfl) (by kernel_rfl) (by decide) (by kernel_rfl) (by kernel_rfl) (by kernel_rfl) (by kernel_rfl) (by kernel_rfl) (by kernel_rfl) (.inl (by kernel_rfl))
theorem s39 {G : FuncId → FF} (hG : ∀ j, Sound cx j (G j)) : Sound cx 39 (t39 G) :=
  sound_fnQ okC hG (f := 39) (fn := Tryz.f39) (c := bodyOf Tryz.f39) (by kernel_rfl) (by kernel_rfl) (by decide) (by kernel_rfl) (by kernel_rfl) (by kernel_rfl) (by kernel_rfl) (by kernel_rfl) (by kernel_rfl) (.inl (by kernel_rfl))
theorem s40 {G : FuncId → FF} (hG : ∀ j, Sound cx j (G j)) : Sound cx 40 (t40 G) :=
  sound_fnQ okC hG (f := 40) (fn := Tryz.f40) (c := bodyOf Tryz.f40) (by kernel_rfl) (by kernel_rfl) (by decide) (by kernel_rfl) (by kernel_rfl) (by kernel_rfl) (by kernel_rfl) (by kernel_rfl) (by kernel_rfl) (.inl (by kernel_rfl))
theorem s41 {G : FuncId → FF} (hG : ∀ j, Sound cx j (G j)) : Sound cx 41 (t41 G) :=
  sound_fnQ okC hG (f := 41) (fn := Tryz.f41) (c := bodyOf Tryz.f41) (by kernel_rfl) (by kernel_rfl) (by decide) (by kernel_rfl) (by kernel_rfl) (by kernel_rfl) (by kernel_rfl) (by kernel_rfl) (by kernel_rfl) (.inl (by kernel_rfl))
theorem s42 {G : FuncId → FF} (hG : ∀ j, Sound cx j (G j)) : Sound cx 42 (t42 G) :=
  sound_fnQ okC hG (f := 42) (fn := Tryz.f42) (c := bodyOf Tryz.f42) (by kernel_rfl) (by kernel_rfl) (by decide) (by kernel_rfl) (by kernel_rfl) (by kernel_rfl) (by kernel_rfl) (by kernel_rfl) (by kernel_rfl) (.inl (by kernel_rfl))
theorem s43 {G : FuncId → FF} (hG : ∀ j, Sound cx j (G j)) : Sound cx 43 (t43 G) :=
  sound_fnQ okC hG (f := 43) (fn := Tryz.f43) (c := bodyOf Tryz.f43) (by kernel_rfl) (by kernel_rfl) (by decide) (by kernel_rfl) (by kernel_rfl) (by kernel_rfl) (by kernel_rfl) (by kernel_rfl) (by kernel_rfl) (.inl (by kernel_rfl))
theorem s44 {G : FuncId → FF} (hG : ∀ j, Sound cx j (G j)) : Sound cx 44 (t44 G) :=
  sound_fnQ okC hG (f := 44) (fn := Tryz.f44) (c := bodyOf Tryz.f44) (by kernel_rfl) (by kernel_rfl) (by decide) (by kernel_rfl) (by kernel_rfl) (by kernel_rfl) (by kernel_rfl) (by kernel_rfl) (by kernel_rfl) (.inl (by kernel_rfl))
theorem s45 {G : FuncId → FF} (hG : ∀ j, Sound cx j (G j)) : Sound cx 45 (t45 G) :=
  sound_fnQ okC hG (f := 45) (fn := Tryz.f45) (c := bodyOf Tryz.f45) (by kernel_rfl) (by kernel_rfl) (by decide) (by kernel_rfl) (by kernel_rfl) (by kernel_rfl) (by kernel_rfl) (by kernel_rfl) (by kernel_rfl) (.inl (by kernel_rfl))
theorem s46 {G : FuncId → FF} (hG : ∀ j, Sound cx j (G j)) : Sound cx 46 (t46 G) :=
  sound_fnQ okC hG (f := 46) (fn := Tryz.f46) (c := bodyOf Tryz.f46) (by kernel_rfl) (by kernel_rfl) (by decide) (by kernel_rfl) (by kernel_rfl) (by kernel_rfl) (by kernel_rfl) (by kernel_rfl) (by kernel_rfl) (.inl (by kernel_rfl))
theorem s47 {G : FuncId → FF} (hG : ∀ j, Sound cx j (G j)) : Sound cx 47 (t47 G) :=
  sound_fnQ okC hG (f := 47) (fn := Tryz.f47) (c := bodyOf Tryz.f47) (by kernel_rfl) (by kernel_rfl) (by decide) (by kernel_rfl) (by kernel_rfl) (by kernel_rfl) (by kernel_rfl) (by kernel_rfl) (by kernel_rfl) (.inl (by kernel_rfl))
theorem s48 {G : FuncId → FF} (hG : ∀ j, Sound cx j (G j)) : Sound cx 48 (t48 G) :=
  sound_fnQ okC hG (f := 48) (fn := Tryz.f48) (c := bodyOf Tryz.f48) (by kernel_rfl) (by kernel_rfl) (by decide) (by kernel_rfl) (by kernel_rfl) (by kernel_rfl) (by kernel_rfl) (by kernel_rfl) (by kernel_rfl) (.inl (by kernel_rfl))
theorem s49 {G : FuncId → FF} (hG : ∀ j, Sound cx j (G j)) : Sound cx 49 (t49 G) :=
  sound_fnQ okC hG (f := 49) (fn := Tryz.f49) (c := bodyOf Tryz.f49) (by kernel_rfl) (by kernel_rfl) (by decide) (by kernel_rfl) (by kernel_rfl) (by kernel_rfl) (by kernel_rfl) (by kernel_rfl) (by kernel_rfl) (.inl (by kernel_rfl))
theorem s50 {G : FuncId → FF} (hG : ∀ j, Sound cx j (G j)) : Sound cx 50 (t50 G) :=
  sound_fnQ okC hG (f := 50) (fn := Tryz.f50) (c := bodyOf Tryz.f50) (by kernel_rfl) (by kernel_rfl) (by decide) (by kernel_rfl) (by kernel_rfl) (by kernel_rfl) (by kernel_rfl) (by kernel_rfl) (by kernel_rfl) (.inl (by kernel_rfl))
theorem s51 {G : FuncId → FF} (hG : ∀ j, Sound cx j (G j)) : Sound cx 51 (t51 G) :=
  sound_fnQ okC hG (f := 51) (fn := Tryz.f51) (c := bodyOf Tryz.f51) (by kernel_rfl) (by kernel_rfl) (by decide) (by kernel_rfl) (by kernel_rfl) (by kernel_rfl) (by kernel_rfl) (by kernel_rfl) (by kernel_rfl) (.inl (by kernel_rfl))
theorem s52 {G : FuncId → FF} (hG : ∀ j, Sound cx j (G j)) : Sound cx 52 (t52 G) :=
  sound_fnQ okC hG (f := 52) (fn := Tryz.f52) (c := bodyOf Tryz.f52) (by kernel_rfl) (by kernel_rfl) (by decide) (by kernel_rfl) (by kernel_rfl) (by kernel_rfl) (by kernel_rfl) (by kernel_rfl) (by kernel_rfl) (.inl (by kernel_rfl))
theorem s53 {G : FuncId → FF} (hG : ∀ j, Sound cx j (G j)) : Sound cx 53 (t53 G) :=
  sound_fnQ okC hG (f := 53) (fn := Tryz.f53) (c := bodyOf Tryz.f53) (by kernel_rfl) (by kernel_rfl) (by decide) (by kernel_rfl) (by kernel_rfl) (by kernel_rfl) (by kernel_rfl) (by kernel_rfl) (by kernel_rfl) (.inl (by kernel_rfl))
theorem s54 {G : FuncId → FF} (hG : ∀ j, Sound cx j (G j)) : Sound cx 54 (t54 G) :=
  sound_fnQ okC hG (f := 54) (fn := Tryz.f54) (c := bodyOf Tryz.f54) (by kernel_rfl) (by kernel_rfl) (by decide) (by kernel_rfl) (by kernel_rfl) (by kernel_rfl) (by kernel_rfl) (by kernel_rfl) (by kernel_rfl) (.inl (by kernel_rfl))
theorem s55 {G : FuncId → FF} (hG : ∀ j, Sound cx j (G j)) : Sound cx 55 (t55 G) :=
  sound_fnQ okC hG (f := 55) (fn := Tryz.f55) (c := bodyOf Tryz.f55) (by kernel_rfl) (by kernel_rfl) (by decide) (by kernel_rfl) (by kernel_rfl) (by kernel_rfl) (by kernel_rfl) (by kernel_rfl) (by kernel_rfl) (.inl (by kernel_rfl))
theorem s56 {G : FuncId → FF} (hG : ∀ j, Sound cx j (G j)) : Sound cx 56 (t56 G) :=
  sound_fnQ okC hG (f := 56) (fn := Tryz.f56) (c := bodyOf Tryz.f56) (by kernel_rfl) (by kernel_rfl) (by decide) (by kernel_rfl) (by kernel_rfl) (by kernel_rfl) (by kernel_rfl) (by kernel_rfl) (by kernel_rfl) (.inl (by kernel_rfl))
theorem s57 {G : FuncId → FF} (hG : ∀ j, Sound cx j (G j)) : Sound cx 57 (t57 G) :=
  sound_fnQ okC hG (f := 57) (fn := Tryz.f57) (c := bodyOf Tryz.f57) (by kernel_rfl) (by kernel_rfl) (by decide) (by kernel_rfl) (by kernel_rfl) (by kernel_rfl) (by kernel_rfl) (by kernel_rfl) (by kernel_rfl) (.inl (by kernel_rfl))
theorem s58 {G : FuncId → FF} (hG : ∀ j, Sound cx j (G j)) : Sound cx 58 (t58 G) :=
  sound_fnQ okC hG (f := 58) (fn := Tryz.f58) (c := bodyOf Tryz.f58) (by kernel_rfl) (by kernel_rfl) (by decide) (by kernel_rfl) (by kernel_rfl) (by kernel_rfl) (by kernel_rfl) (by kernel_rfl) (by kernel_rfl) (.inl (by kernel_rfl))
theorem s59 {G : FuncId → FF} (hG : ∀ j, Sound cx j (G j)) : Sound cx 59 (t59 G) :=
  sound_fnQ okC hG (f := 59) (fn := Tryz.f59) (c := bodyOf Tryz.f59) (by kernel_rfl) (by kernel_rfl) (by decide) (by kernel_rfl) (by kernel_rfl) (by kernel_rfl) (by kernel_rfl) (by kernel_rfl) (by kernel_rfl) (.inl (by kernel_rfl))
theorem s60 {G : FuncId → FF} (hG : ∀ j, Sound cx j (G j)) : Sound cx 60 (t60 G) :=
  sound_fnQ okC hG (f := 60) (fn := Tryz.f60) (c := bodyOf Tryz.f60) (by kernel_rfl) (by kernel_rfl) (by decide) (by kernel_rfl) (by kernel_rfl) (by kernel_rfl) (by kernel_rfl) (by kernel_rfl) (by kernel_rfl) (.inl (by kernel_rfl))
theorem s61 {G : FuncId → FF} (hG : ∀ j, Sound cx j (G j)) : Sound cx 61 (t61 G) :=
  sound_fnQ okC hG (f := 61) (fn := Tryz.f61) (c := bodyOf Tryz.f61) (by kernel_rfl) (by kernel_rfl) (by decide) (by kernel_rfl) (by kernel_rfl) (by kernel_rfl) (by kernel_rfl) (by kernel_rfl) (by kernel_rfl) (.inl (by kernel_rfl))
theorem s62 {G : FuncId → FF} (hG : ∀ j, Sound cx j (G j)) : Sound cx 62 (t62 G) :=
  sound_fnQ okC hG (f := 62) (fn := Tryz.f62) (c := bodyOf Tryz.f62) (by kernel_rfl) (by kernel_rfl) (by decide) (by kernel_rfl) (by kernel_rfl) (by kernel_rfl) (by kernel_rfl) (by kernel_rfl) (by kernel_rfl) (.inl (by kernel_rfl))
theorem s63 {G : FuncId → FF} (hG : ∀ j, Sound cx j (G j)) : Sound cx 63 (t63 G) :=
  sound_fnQ okC hG (f := 63) (fn := Tryz.f63) (c := bodyOf Tryz.f63) (by kernel_rfl) (by kernel_rfl) (by decide) (by kernel_rfl) (by kernel_rfl) (by kernel_rfl) (by kernel_rfl) (by kernel_rfl) (by kernel_rfl) (.inl (by kernel_rfl))
theorem s64 {G : FuncId → FF} (hG : ∀ j, Sound cx j (G j)) : Sound cx 64 (t64 G) := by
  show Sound _ _ (fastDc _ _ _ _ _ _ _ _ _ _ _ _)
  rw [fastDc_eq]
  exact sound_deferC (f := 64) (fn := Tryz.f64) (od := opN (sq1 (sq2 (bodyOf Tryz.f64))) 1) (cd := cdN (opN (sq1 (sq2 (bodyOf Tryz.f64))) 1)) okC hG (soundD_fnQ okC hG (f := 81) (fn := Tryz.f81) (c := bodyOf Tryz.f81) (by kernel_rfl) (by kernel_rfl) (by decide) (by kernel_rfl) (by kernel_rfl) (by kernel_rfl) (by kernel_rfl) (by kernel_rfl)) (by kernel_rfl) (by kernel_rfl) (by decide) (by kernel_rfl) (by kernel_rfl) (by kernel_rfl) (by kernel_rfl) (by kernel_rfl) (by kernel_rfl) (by kernel_rfl) (by kernel_rfl) (by kernel_rfl) (by kernel_rfl) (by kernel_rfl) (by kernel_rfl) (by kernel_rfl)
theorem s65 {G : FuncId → FF} (hG : ∀ j, Sound cx j (G j)) : Sound cx 65 (t65 G) :=
  sound_rfQ okC hG (f := 65) (fn := Tryz.f65) (c := bodyOf Tryz.f65) (by kernel_rfl) (by kernel_rfl) (by decide) (by kernel_rfl) (by kernel_rfl) (by kernel_rfl) (by kernel_rfl) (by kernel_rfl) (by kernel_rfl) (.inl (by kernel_rfl))
theorem s66 {G : FuncId → FF} (hG : ∀ j, Sound cx j (G j)) : Sound cx 66 (t66 G) :=
  sound_fnQ okC hG (f := 66) (fn := Tryz.f66) (c := bodyOf Tryz.f66) (by kernel_rfl) (by kernel_rfl) (by decide) (by kernel_rfl) (by kernel_rfl) (by kernel_rfl) (by kernel_rfl) (by kernel_rfl) (by kernel_rfl) (.inl (by kernel_rfl))
theorem s67 {G : FuncId → FF} (hG : ∀ j, Sound cx j (G j)) : Sound cx 67 (t67 G) :=
  sound_fnQ okC hG (f := 67) (fn := Tryz.f67) (c := bodyOf Tryz.f67) (by kernel_rfl) (by kernel_rfl) (by decide) (by kernel_rfl) (by kernel_rfl) (by kernel_rfl) (by kernel_rfl) (by kernel_rfl) (by kernel_rfl) (.inl (by kernel_rfl))
theorem s68 {G : FuncId → FF} (hG : ∀ j, Sound cx j (G j)) : Sound cx 68 (t68 G) :=
  sound_fnQ okC hG (f := 68) (fn := Tryz.f68) (c := bodyOf Tryz.f68) (by kernel_rfl) (by kernel_rfl) (by decide) (by kernel_rfl) (by kernel_rfl) (by kernel_rfl) (by kernel_rfl) (by kernel_rfl) (by kernel_rfl) (.inl (by kernel_rfl))
theorem s69 {G : FuncId → FF} (hG : ∀ j, Sound cx j (G j)) : Sound cx 69 (t69 G) :=
  sound_fnQ okC hG (f := 69) (fn := Tryz.f69) (c := bodyOf Tryz.f69) (by kernel_rfl) (by kernel_rfl) (by decide) (by kernel_rfl) (by kernel_rfl) (by kernel_rfl) (by kernel_rfl) (by kernel_rfl) (by kernel_rfl) (.inl (by kernel_rfl))
theorem s70 {G : FuncId → FF} (hG : ∀ j, Sound cx j (G j)) : Sound cx 70 (t70 G) :=
  sound_fnQ okC hG (f := 70) (fn := Tryz.f70) (c := bodyOf Tryz.f70) (by kernel_rfl) (by kernel_rfl) (by decide) (by kernel_rfl) (by kernel_rfl) (by kernel_rfl) (by kernel_rfl) (by kernel_rfl) (by kernel_rfl) (.inl (by kernel_rfl))
theorem s71 {G : FuncId → FF} (hG : ∀ j, Sound cx j (G j)) : Sound cx 71 (t71 G) := sound_del (by kernel_rfl) del71
theorem s72 {G : FuncId → FF} (hG : ∀ j, Sound cx j (G j)) : Sound cx 72 (t72 G) :=
  sound_fnQ okC hG (f := 72) (fn := Tryz.f72) (c := bodyOf Tryz.f72) (by kernel_rfl) (by kernel_rfl) (by decide) (by kernel_rfl) (by kernel_rfl) (by kernel_rfl) (by kernel_rfl) (by kernel_rfl) (by kernel_rfl) (.inl (by kernel_rfl))
theorem idle79 : Idle cx.P 79 :=
  idle_caught (fn := Tryz.f79) (r0 := 0) (blk := 0) (r3 := 3) (r4 := 4) (o0 := opN (sq1 (bodyOf Tryz.f79)) 0) (o3 := opN (sq1 (blk (sq2 (bodyOf Tryz.f79)))) 0) (o4 := opN (cn1 (sq2 (blk (sq2 (bodyOf Tryz.f79))))) 0) (c0 := cdN (opN (sq1 (bodyOf Tryz.f79)) 0)) (Y := cn2 (sq2 (blk (sq2 (bodyOf Tryz.f79)))))
    (t5 := 5) (t7 := 7) (t2 := 2) (ty := 20) (tt := 20) (ms := #[]) (by kernel_rfl) (by kernel_rfl) (by kernel_rfl) (by kernel_rfl) (by kernel_rfl) (by kernel_rfl) (by kernel_rfl) (by kernel_rfl) (by kernel_rfl) (by kernel_rfl) (by kernel_rfl) (by kernel_rfl) (by kernel_rfl) (by kernel_rfl) (by decide) (by decide) (by decide)
theorem s73 {G : FuncId → FF} (hG : ∀ j, Sound cx j (G j)) : Sound cx 73 (t73 G) :=
  sound_defer (fnd := Tryz.f79) okC hG (f := 73) (fd := 79) (fn := Tryz.f73) (od := (opN (sq1 (sq2 (sq2 (bodyOf Tryz.f73)))) 0)) (cd := cdN (opN (sq1 (sq2 (sq2 (bodyOf Tryz.f73)))) 0)) (by kernel_rfl) (by kernel_rfl) (by decide) (by kernel_rfl) (by kernel_rfl) (by kernel_rfl) (by kernel_rfl) (by kernel_rfl) (by kernel_rfl) (by kernel_rfl) (by kernel_rfl) (by kernel_rfl) (by kernel_rfl) (by kernel_rfl) ⟨Tryz.f79, (by kernel_rfl), (by kernel_rfl), by decide⟩ idle79
theorem s74 {G : FuncId → FF} (hG : ∀ j, Sound cx j (G j)) : Sound cx 74 (t74 G) :=
  sound_fnQ okC hG (f := 74) (fn := Tryz.f74) (c := bodyOf Tryz.f74) (by kernel_rfl) (by kernel_rfl) (by decide) (by kernel_rfl) (by kernel_rfl) (by kernel_rfl) (by kernel_rfl) (by kernel_rfl) (by kernel_rfl) (.inl (by kernel_rfl))
theorem s75 {G : FuncId → FF} (hG : ∀ j, Sound cx j (G j)) : Sound cx 75 (t75 G) :=
  sound_fnQ okC hG (f := 75) (fn := Tryz.f75) (c := bodyOf Tryz.f75) (by kernel_rfl) (by kernel_rfl) (by decide) (by kernel_rfl) (by kernel_rfl) (by kernel_rfl) (by kernel_rfl) (by kernel_rfl) (by kernel_rfl) (.inl (by kernel_rfl))
theorem s76 {G : FuncId → FF} (hG : ∀ j, Sound cx j (G j)) : Sound cx 76 (t76 G) :=
  sound_defer (fnd := Tryz.f79) okC hG (f := 76) (fd := 79) (fn := Tryz.f76) (od := (opN (sq1 (sq2 (sq2 (bodyOf Tryz.f76)))) 0)) (cd := cdN (opN (sq1 (sq2 (sq2 (bodyOf Tryz.f76)))) 0)) (by kernel_rfl) (by kernel_rfl) (by decide) (by kernel_rfl) (by kernel_rfl) (by kernel_rfl) (by kernel_rfl) (by kernel_rfl) (by kernel_rfl) (by kernel_rfl) (by kernel_rfl) (by kernel_rfl) (by kernel_rfl) (by kernel_rfl) ⟨Tryz.f79, (by kernel_rfl), (by kernel_rfl), by decide⟩ idle79
theorem s77 {G : FuncId → FF} (hG : ∀ j, Sound cx j (G j)) : Sound cx 77 (t77 G) :=
  sound_fnQ okC hG (f := 77) (fn := Tryz.f77) (c := bodyOf Tryz.f77) (by kernel_rfl) (by kernel_rfl) (by decide) (by kernel_rfl) (by kernel_rfl) (by kernel_rfl) (by kernel_rfl) (by kernel_rfl) (by kernel_rfl) (.inl (by kernel_rfl))
theorem s78 {G : FuncId → FF} (hG : ∀ j, Sound cx j (G j)) : Sound cx 78 (t78 G) :=
  sound_fnQ okC hG (f := 78) (fn := Tryz.f78) (c := bodyOf Tryz.f78) (by kernel_rfl) (by kernel_rfl) (by decide) (by kernel_rfl) (by kernel_rfl) (by kernel_rfl) (by kernel_rfl) (by kernel_rfl) (by kernel_rfl) (.inl (by kernel_rfl))
theorem s79 {G : FuncId → FF} (hG : ∀ j, Sound cx j (G j)) : Sound cx 79 (t79 G) :=
  sound_fnQ okC hG (f := 79) (fn := Tryz.f79) (c := bodyOf Tryz.f79) (by kernel_rfl) (by kernel_rfl) (by decide) (by kernel_rfl) (by kernel_rfl) (by kernel_rfl) (by kernel_rfl) (by kernel_rfl) (by kernel_rfl) (.inl (by kernel_rfl))
theorem s80 {G : FuncId → FF} (hG : ∀ j, Sound cx j (G j)) : Sound cx 80 (t80 G) :=
  sound_fnQ okC hG (f := 80) (fn := Tryz.f80) (c := bodyOf Tryz.f80) (by kernel_rfl) (by kernel_rfl) (by decide) (by kernel_rfl) (by kernel_rfl) (by kernel_rfl) (by kernel_rfl) (by kernel_rfl) (by kernel_rfl) (.inl (by kernel_rfl))
theorem s81 {G : FuncId → FF} (hG : ∀ j, Sound cx j (G j)) : Sound cx 81 (t81 G) :=
  sound_fnQ okC hG (f := 81) (fn := Tryz.f81) (c := bodyOf Tryz.f81) (by kernel_rfl) (by kernel_rfl) (by decide) (by kernel_rfl) (by kernel_rfl) (by kernel_rfl) (by kernel_rfl) (by kernel_rfl) (by kernel_rfl) (.inl (by kernel_rfl))
theorem s82 {G : FuncId → FF} (hG : ∀ j, Sound cx j (G j)) : Sound cx 82 (t82 G) :=
  sound_fnQ okC hG (f := 82) (fn := Tryz.f82) (c := bodyOf Tryz.f82) (by kernel_rfl) (by kernel_rfl) (by decide) (by kernel_rfl) (by kernel_rfl) (by kernel_rfl) (by kernel_rfl) (by kernel_rfl) (by kernel_rfl) (.inl (by kernel_rfl))
theorem s83 {G : FuncId → FF} (hG : ∀ j, Sound cx j (G j)) : Sound cx 83 (t83 G) :=
  sound_fnQ okC hG (f := 83) (fn := Tryz.f83) (c := bodyOf Tryz.f83) (by kernel_rfl) (by kernel_rfl) (by decide) (by kernel_rfl) (by kernel_rfl) (by kernel_rfl) (by kernel_rfl) (by kernel_rfl) (by kernel_rfl) (.inl (by kernel_rfl))
theorem s84 {G : FuncId → FF} (hG : ∀ j, Sound cx j (G j)) : Sound cx 84 (t84 G) :=
  sound_fnQ okC hG (f := 84) (fn := Tryz.f84) (c := bodyOf Tryz.f84) (by kernel_rfl) (by kernel_rfl) (by decide) (by kernel_rfl) (by kernel_rfl) (by kernel_rfl) (by kernel_rfl) (by kernel_rfl) (by kernel_rfl) (.inl (by kernel_rfl))
theorem s85 {G : FuncId → FF} (hG : ∀ j, Sound cx j (G j)) : Sound cx 85 (t85 G) :=
  sound_fnQ okC hG (f := 85) (fn := Tryz.f85) (c := bodyOf Tryz.f85) (by kernel_rfl) (by kernel_rfl) (by decide) (by kernel_rfl) (by kernel_rfl) (by kernel_rfl) (by kernel_rfl) (by kernel_rfl) (by kernel_rfl) (.inl (by kernel_rfl))
theorem s86 {G : FuncId → FF} (hG : ∀ j, Sound cx j (G j)) : Sound cx 86 (t86 G) :=
  sound_fnQ okC hG (f := 86) (fn := Tryz.f86) (c := bodyOf Tryz.f86) (by kernel_rfl) (by kernel_rfl) (by decide) (by kernel_rfl) (by kernel_rfl) (by kernel_rfl) (by kernel_rfl) (by kernel_rfl) (by kernel_rfl) (.inl (by kernel_rfl))
theorem s87 {G : FuncId → FF} (hG : ∀ j, Sound cx j (G j)) : Sound cx 87 (t87 G) :=
  sound_fnQ okC hG (f := 87) (fn := Tryz.f87) (c := bodyOf Tryz.f87) (by kernel_rfl) (by kernel_rfl) (by decide) (by kernel_rfl) (by kernel_rfl) (by kernel_rfl) (by kernel_rfl) (by kernel_rfl) (by kernel_rfl) (.inl (by kernel_rfl))
theorem s88 {G : FuncId → FF} (hG : ∀ j, Sound cx j (G j)) : Sound cx 88 (t88 G) :=
  sound_fnQ okC hG (f := 88) (fn := Tryz.f88) (c := bodyOf Tryz.f88) (by kernel_rfl) (by kernel_rfl) (by decide) (by kernel_rfl) (by kernel_rfl) (by kernel_rfl) (by kernel_rfl) (by kernel_rfl) (by kernel_rfl) (.inl (by kernel_rfl))
theorem s89 {G : FuncId → FF} (hG : ∀ j, Sound cx j (G j)) : Sound cx 89 (t89 G) :=
  sound_fnQ okC hG (f := 89) (fn := Tryz.f89) (c := bodyOf Tryz.f89) (by kernel_rfl) (by kernel_rfl) (by decide) (by kernel_rfl) (by kernel_rfl) (by kernel_rfl) (by kernel_rfl) (by kernel_rfl) (by kernel_rfl) (.inl (by kernel_rfl))
theorem s90 {G : FuncId → FF} (hG : ∀ j, Sound cx j (G j)) : Sound cx 90 (t90 G) :=
  sound_fnQ okC hG (f := 90) (fn := Tryz.f90) (c := bodyOf Tryz.f90) (by kernel_rfl) (by kernel_rfl) (by decide) (by kernel_rfl) (by kernel_rfl) (by kernel_rfl) (by kernel_rfl) (by kernel_rfl) (by kernel_rfl) (.inl (by kernel_rfl))
theorem s91 {G : FuncId → FF} (hG : ∀ j, Sound cx j (G j)) : Sound cx 91 (t91 G) :=
  sound_fnQ okC hG (f := 91) (fn := Tryz.f91) (c := bodyOf Tryz.f91) (by kernel_rfl) (by kernel_rfl) (by decide) (by kernel_rfl) (by kernel_rfl) (by kernel_rfl) (by kernel_rfl) (by kernel_rfl) (by kernel_rfl) (.inl (by kernel_rfl))
theorem s92 {G : FuncId → FF} (hG : ∀ j, Sound cx j (G j)) : Sound cx 92 (t92 G) :=
  sound_fnQ okC hG (f := 92) (fn := Tryz.f92) (c := bodyOf Tryz.f92) (by kernel_rfl) (by kernel_rfl) (by decide) (by kernel_rfl) (by kernel_rfl) (by kernel_rfl) (by kernel_rfl) (by kernel_rfl) (by kernel_rfl) (.inl (by kernel_rfl))
theorem s93 {G : FuncId → FF} (hG : ∀ j, Sound cx j (G j)) : Sound cx 93 (t93 G) :=
  sound_fnQ okC hG (f := 93) (fn := Tryz.f93) (c := bodyOf Tryz.f93) (by kernel_rfl) (by kernel_rfl) (by decide) (by kernel_rfl) (by kernel_rfl) (by kernel_rfl) (by kernel_rfl) (by kernel_rfl) (by kernel_rfl) (.inl (by kernel_rfl))
theorem s94 {G : FuncId → FF} (hG : ∀ j, Sound cx j (G j)) : Sound cx 94 (t94 G) :=
  sound_fnQ okC hG (f := 94) (fn := Tryz.f94) (c := bodyOf Tryz.f94) (by kernel_rfl) (by kernel_rfl) (by decide) (by kernel_rfl) (by kernel_rfl) (by kernel_rfl) (by kernel_rfl) (by kernel_rfl) (by kernel_rfl) (.inl (by kernel_rfl))
theorem s95 {G : FuncId → FF} (hG : ∀ j, Sound cx j (G j)) : Sound cx 95 (t95 G) :=
  sound_fnQ okC hG (f := 95) (fn := Tryz.f95) (c := bodyOf Tryz.f95) (by kernel_rfl) (by kernel_rfl) (by decide) (by kernel_rfl) (by kernel_rfl) (by kernel_rfl) (by kernel_rfl) (by kernel_rfl) (by kernel_rfl) (.inl (by kernel_rfl))
theorem s96 {G : FuncId → FF} (hG : ∀ j, Sound cx j (G j)) : Sound cx 96 (t96 G) :=
  sound_fnQ okC hG (f := 96) (fn := Tryz.f96) (c := bodyOf Tryz.f96) (by kernel_rfl) (by kernel_rfl) (by decide) (by kernel_rfl) (by kernel_rfl) (by kernel_rfl) (by kernel_rfl) (by kernel_rfl) (by kernel_rfl) (.inl (by kernel_rfl))
theorem s97 {G : FuncId → FF} (hG : ∀ j, Sound cx j (G j)) : Sound cx 97 (t97 G) :=
  sound_fnQ okC hG (f := 97) (fn := Tryz.f97) (c := bodyOf Tryz.f97) (by kernel_rfl) (by kernel_rfl) (by decide) (by kernel_rfl) (by kernel_rfl) (by kernel_rfl) (by kernel_rfl) (by kernel_rfl) (by kernel_rfl) (.inl (by kernel_rfl))
theorem s98 {G : FuncId → FF} (hG : ∀ j, Sound cx j (G j)) : Sound cx 98 (t98 G) :=
  sound_fnQ okC hG (f := 98) (fn := Tryz.f98) (c := bodyOf Tryz.f98) (by kernel_rfl) (by kernel_rfl) (by decide) (by kernel_rfl) (by kernel_rfl) (by kernel_rfl) (by kernel_rfl) (by kernel_rfl) (by kernel_rfl) (.inl (by kernel_rfl))
theorem s99 {G : FuncId → FF} (hG : ∀ j, Sound cx j (G j)) : Sound cx 99 (t99 G) :=
  sound_fnQ okC hG (f := 99) (fn := Tryz.f99) (c := bodyOf Tryz.f99) (by kernel_rfl) (by kernel_rfl) (by decide) (by kernel_rfl) (by kernel_rfl) (by kernel_rfl) (by kernel_rfl) (by kernel_rfl) (by kernel_rfl) (.inl (by kernel_rfl))
theorem s100 {G : FuncId → FF} (hG : ∀ j, Sound cx j (G j)) : Sound cx 100 (t100 G) :=
  sound_fnQ okC hG (f := 100) (fn := Tryz.f100) (c := bodyOf Tryz.f100) (by kernel_rfl) (by kernel_rfl) (by decide) (by kernel_rfl) (by kernel_rfl) (by kernel_rfl) (by kernel_rfl) (by kernel_rfl) (by kernel_rfl) (.inl (by kernel_rfl))
theorem s101 {G : FuncId → FF} (hG : ∀ j, Sound cx j (G j)) : Sound cx 101 (t101 G) :=
  sound_fnQ okC hG (f := 101) (fn := Tryz.f101) (c := bodyOf Tryz.f101) (by kernel_rfl) (by kernel_rfl) (by decide) (by kernel_rfl) (by kernel_rfl) (by kernel_rfl) (by kernel_rfl) (by kernel_rfl) (by kernel_rfl) (.inl (by kernel_rfl))
theorem s102 {G : FuncId → FF} (hG : ∀ j, Sound cx j (G j)) : Sound cx 102 (t102 G) :=
  sound_fnQ okC hG (f := 102) (fn := Tryz.f102) (c := bodyOf Tryz.f102) (by kernel_rfl) (by kernel_rfl) (by decide) (by kernel_rfl) (by kernel_rfl) (by kernel_rfl) (by kernel_rfl) (by kernel_rfl) (by kernel_rfl) (.inl (by kernel_rfl))
theorem s103 {G : FuncId → FF} (hG : ∀ j, Sound cx j (G j)) : Sound cx 103 (t103 G) :=
  sound_fnQ okC hG (f := 103) (fn := Tryz.f103) (c := bodyOf Tryz.f103) (by kernel_rfl) (by kernel_rfl) (by decide) (by kernel_rfl) (by kernel_rfl) (by kernel_rfl) (by kernel_rfl) (by kernel_rfl) (by kernel_rfl) (.inl (by kernel_rfl))
theorem s104 {G : FuncId → FF} (hG : ∀ j, Sound cx j (G j)) : Sound cx 104 (t104 G) :=
  sound_fnQ okC hG (f := 104) (fn := Tryz.f104) (c := bodyOf Tryz.f104) (by kernel_rfl) (by kernel_rfl) (by decide) (by kernel_rfl) (by kernel_rfl) (by kernel_rfl) (by kernel_rfl) (by kernel_rfl) (by kernel_rfl) (.inl (by kernel_rfl))
theorem s105 {G : FuncId → FF} (hG : ∀ j, Sound cx j (G j)) : Sound cx 105 (t105 G) :=
  sound_fnQ okC hG (f := 105) (fn := Tryz.f105) (c := bodyOf Tryz.f105) (by kernel_rfl) (by kernel_rfl) (by decide) (by kernel_rfl) (by kernel_rfl) (by kernel_rfl) (by kernel_rfl) (by kernel_rfl) (by kernel_rfl) (.inl (by kernel_rfl))
theorem s106 {G : FuncId → FF} (hG : ∀ j, Sound cx j (G j)) : Sound cx 106 (t106 G) :=
  sound_fnQ okC hG (f := 106) (fn := Tryz.f106) (c := bodyOf Tryz.f106) (by kernel_rfl) (by kernel_rfl) (by decide) (by kernel_rfl) (by kernel_rfl) (by kernel_rfl) (by kernel_rfl) (by kernel_rfl) (by kernel_rfl) (.inl (by kernel_rfl))
theorem s107 {G : FuncId → FF} (hG : ∀ j, Sound cx j (G j)) : Sound cx 107 (t107 G) :=
  sound_fnQ okC hG (f := 107) (fn := Tryz.f107) (c := bodyOf Tryz.f107) (by kernel_rfl) (by kernel_rfl) (by decide) (by kernel_rfl) (by kernel_rfl) (by kernel_rfl) (by kernel_rfl) (by kernel_rfl) (by kernel_rfl) (.inl (by kernel_rfl))
theorem s108 {G : FuncId → FF} (hG : ∀ j, Sound cx j (G j)) : Sound cx 108 (t108 G) :=
  sound_fnQ okC hG (f := 108) (fn := Tryz.f108) (c := bodyOf Tryz.f108) (by kernel_rfl) (by kernel_rfl) (by decide) (by kernel_rfl) (by kernel_rfl) (by kernel_rfl) (by kernel_rfl) (by kernel_rfl) (by kernel_rfl) (.inl (by kernel_rfl))
theorem s109 {G : FuncId → FF} (hG : ∀ j, Sound cx j (G j)) : Sound cx 109 (t109 G) :=
  sound_fnQ okC hG (f := 109) (fn := Tryz.f109) (c := bodyOf Tryz.f109) (by kernel_rfl) (by kernel_rfl) (by decide) (by kernel_rfl) (by kernel_rfl) (by kernel_rfl) (by kernel_rfl) (by kernel_rfl) (by kernel_rfl) (.inl (by kernel_rfl))
theorem s110 {G : FuncId → FF} (hG : ∀ j, Sound cx j (G j)) : Sound cx 110 (t110 G) :=
  sound_fnQ okC hG (f := 110) (fn := Tryz.f110) (c := bodyOf Tryz.f110) (by kernel_rfl) (by kernel_rfl) (by decide) (by kernel_rfl) (by kernel_rfl) (by kernel_rfl) (by kernel_rfl) (by kernel_rfl) (by kernel_rfl) (.inl (by kernel_rfl))
theorem s111 {G : FuncId → FF} (hG : ∀ j, Sound cx j (G j)) : Sound cx 111 (t111 G) :=
  sound_fnQ okC hG (f := 111) (fn := Tryz.f111) (c := bodyOf Tryz.f111) (by kernel_rfl) (by kernel_rfl) (by decide) (by kernel_rfl) (by kernel_rfl) (by kernel_rfl) (by kernel_rfl) (by kernel_rfl) (by kernel_rfl) (.inl (by kernel_rfl))
theorem s112 {G : FuncId → FF} (hG : ∀ j, Sound cx j (G j)) : Sound cx 112 (t112 G) :=
  sound_rfQ okC hG (f := 112) (fn := Tryz.f112) (c := bodyOf Tryz.f112) (by kernel_rfl) (by kernel_rfl) (by decide) (by kernel_rfl) (by kernel_rfl) (by kernel_rfl) (by kernel_rfl) (by kernel_rfl) (by kernel_rfl) (.inl (by kernel_rfl))
theorem s113 {G : FuncId → FF} (hG : ∀ j, Sound cx j (G j)) : Sound cx 113 (t113 G) :=
  sound_fnQ okC hG (f := 113) (fn := Tryz.f113) (c := bodyOf Tryz.f113) (by kernel_rfl) (by kernel_rfl) (by decide) (by kernel_rfl) (by kernel_rfl) (by kernel_rfl) (by kernel_rfl) (by kernel_rfl) (by kernel_rfl) (.inl (by kernel_rfl))
theorem s114 {G : FuncId → FF} (hG : ∀ j, Sound cx j (G j)) : Sound cx 114 (t114 G) :=
  sound_fnQ okC hG (f := 114) (fn := Tryz.f114) (c := bodyOf Tryz.f114) (by kernel_rfl) (by kernel_rfl) (by decide) (by kernel_rfl) (by kernel_rfl) (by kernel_rfl) (by kernel_rfl) (by kernel_rfl) (by kernel_rfl) (.inl (by kernel_rfl))
theorem s115 {G : FuncId → FF} (hG : ∀ j, Sound cx j (G j)) : Sound cx 115 (t115 G) :=
  sound_fnQ okC hG (f := 115) (fn := Tryz.f115) (c := bodyOf Tryz.f115) (by kernel_rfl) (by kernel_rfl) (by decide) (by kernel_rfl) (by kernel_rfl) (by kernel_rfl) (by kernel_rfl) (by kernel_rfl) (by kernel_rfl) (.inl (by kernel_rfl))
theorem s116 {G : FuncId → FF} (hG : ∀ j, Sound cx j (G j)) : Sound cx 116 (t116 G) :=
  sound_fnQ okC hG (f := 116) (fn := Tryz.f116) (c := bodyOf Tryz.f116) (by kernel_rfl) (by kernel_rfl) (by decide) (by kernel_rfl) (by kernel_rfl) (by kernel_rfl) (by kernel_rfl) (by kernel_rfl) (by kernel_rfl) (.inl (by kernel_rfl))
theorem s117 {G : FuncId → FF} (hG : ∀ j, Sound cx j (G j)) : Sound cx 117 (t117 G) :=
  sound_fnQ okC hG (f := 117) (fn := Tryz.f117) (c := bodyOf Tryz.f117) (by kernel_rfl) (by kernel_rfl) (by decide) (by kernel_rfl) (by kernel_rfl) (by kernel_rfl) (by kernel_rfl) (by kernel_rfl) (by kernel_rfl) (.inl (by kernel_rfl))
theorem s118 {G : FuncId → FF} (hG : ∀ j, Sound cx j (G j)) : Sound cx 118 (t118 G) :=
  sound_fnQ okC hG (f := 118) (fn := Tryz.f118) (c := bodyOf Tryz.f118) (by kernel_rfl) (by kernel_rfl) (by decide) (by kernel_rfl) (by kernel_rfl) (by kernel_rfl) (by kernel_rfl) (by kernel_rfl) (by kernel_rfl) (.inl (by kernel_rfl))
theorem s119 {G : FuncId → FF} (hG : ∀ j, Sound cx j (G j)) : Sound cx 119 (t119 G) :=
  sound_fnQ okC hG (f := 119) (fn := Tryz.f119) (c := bodyOf Tryz.f119) (by kernel_rfl) (by kernel_rfl) (by decide) (by kernel_rfl) (by kernel_rfl) (by kernel_rfl) (by kernel_rfl) (by kernel_rfl) (by kernel_rfl) (.inl (by kernel_rfl))
theorem s120 {G : FuncId → FF} (hG : ∀ j, Sound cx j (G j)) : Sound cx 120 (t120 G) :=
  sound_fnQ okC hG (f := 120) (fn := Tryz.f120) (c := bodyOf Tryz.f120) (by kernel_rfl) (by kernel_rfl) (by decide) (by kernel_rfl) (by kernel_rfl) (by kernel_rfl) (by kernel_rfl) (by kernel_rfl) (by kernel_rfl) (.inl (by kernel_rfl))
theorem s121 {G : FuncId → FF} (hG : ∀ j, Sound cx j (G j)) : Sound cx 121 (t121 G) :=
  sound_fnQ okC hG (f := 121) (fn := Tryz.f121) (c := bodyOf Tryz.f121) (by kernel_rfl) (by kernel_rfl) (by decide) (by kernel_rfl) (by kernel_rfl) (by kernel_rfl) (by kernel_rfl) (by kernel_rfl) (by kernel_rfl) (.inl (by kernel_rfl))
theorem s122 {G : FuncId → FF} (hG : ∀ j, Sound cx j (G j)) : Sound cx 122 (t122 G) :=
  sound_fnQ okC hG (f := 122) (fn := Tryz.f122) (c := bodyOf Tryz.f122) (by kernel_rfl) (by kernel_rfl) (by decide) (by kernel_rfl) (by kernel_rfl) (by kernel_rfl) (by kernel_rfl) (by kernel_rfl) (by kernel_rfl) (.inl (by kernel_rfl))
theorem s123 {G : FuncId → FF} (hG : ∀ j, Sound cx j (G j)) : Sound cx 123 (t123 G) :=
  sound_fnQ okC hG (f := 123) (fn := Tryz.f123) (c := bodyOf Tryz.f123) (by kernel_rfl) (by kernel_rfl) (by decide) (by kernel_rfl) (by kernel_rfl) (by kernel_rfl) (by kernel_rfl) (by kernel_rfl) (by kernel_rfl) (.inl (by kernel_rfl))
theorem s124 {G : FuncId → FF} (hG : ∀ j, Sound cx j (G j)) : Sound cx 124 (t124 G) :=
  sound_fnQ okC hG (f := 124) (fn := Tryz.f124) (c := bodyOf Tryz.f124) (by kernel_rfl) (by kernel_rfl) (by decide) (by kernel_rfl) (by kernel_rfl) (by kernel_rfl) (by kernel_rfl) (by kernel_rfl) (by kernel_rfl) (.inl (by kernel_rfl))
theorem s125 {G : FuncId → FF} (hG : ∀ j, Sound cx j (G j)) : Sound cx 125 (t125 G) :=
  sound_fnQ okC hG (f := 125) (fn := Tryz.f125) (c := bodyOf Tryz.f125) (by kernel_rfl) (by kernel_rfl) (by decide) (by kernel_rfl) (by kernel_rfl) (by kernel_rfl) (by kernel_rfl) (by kernel_rfl) (by kernel_rfl) (.inl (by kernel_rfl))
theorem s126 {G : FuncId → FF} (hG : ∀ j, Sound cx j (G j)) : Sound cx 126 (t126 G) :=
  sound_fnQ okC hG (f := 126) (fn := Tryz.f126) (c := bodyOf Tryz.f126) (by kernel_rfl) (by kernel_rfl) (by decide) (by kernel_rfl) (by kernel_rfl) (by kernel_rfl) (by kernel_rfl) (by kernel_rfl) (by kernel_rfl) (.inl (by kernel_rfl))
theorem s127 {G : FuncId → FF} (hG : ∀ j, Sound cx j (G j)) : Sound cx 127 (t127 G) :=
  sound_fnQ okC hG (f := 127) (fn := Tryz.f127) (c := bodyOf Tryz.f127) (by kernel_rfl) (by kernel_rfl) (by decide) (by kernel_rfl) (by kernel_rfl) (by kernel_rfl) (by kernel_rfl) (by kernel_rfl) (by kernel_rfl) (.inl (by kernel_rfl))
theorem s128 {G : FuncId → FF} (hG : ∀ j, Sound cx j (G j)) : Sound cx 128 (t128 G) :=
  sound_fnQ okC hG (f := 128) (fn := Tryz.f128) (c := bodyOf Tryz.f128) (by kernel_rfl) (by kernel_rfl) (by decide) (by kernel_rfl) (by kernel_rfl) (by kernel_rfl) (by kernel_rfl) (by kernel_rfl) (by kernel_rfl) (.inl (by kernel_rfl))
theorem s129 {G : FuncId → FF} (hG : ∀ j, Sound cx j (G j)) : Sound cx 129 (t129 G) :=
  sound_fnQ okC hG (f := 129) (fn := Tryz.f129) (c := bodyOf Tryz.f129) (by kernel_rfl) (by kernel_rfl) (by decide) (by kernel_rfl) (by kernel_rfl) (by kernel_rfl) (by kernel_rfl) (by kernel_rfl) (by kernel_rfl) (.inl (by kernel_rfl))
theorem s130 {G : FuncId → FF} (hG : ∀ j, Sound cx j (G j)) : Sound cx 130 (t130 G) :=
  sound_fnQ okC hG (f := 130) (fn := Tryz.f130) (c := bodyOf Tryz.f130) (by kernel_rfl) (by kernel_rfl) (by decide) (by kernel_rfl) (by kernel_rfl) (by kernel_rfl) (by kernel_rfl) (by kernel_rfl) (by kernel_rfl) (.inl (by kernel_rfl))
theorem s131 {G : FuncId → FF} (hG : ∀ j, Sound cx j (G j)) : Sound cx 131 (t131 G) :=
  sound_fnQ okC hG (f := 131) (fn := Tryz.f131) (c := bodyOf Tryz.f131) (by kernel_rfl) (by kernel_rfl) (by decide) (by kernel_rfl) (by kernel_rfl) (by kernel_rfl) (by kernel_rfl) (by kernel_rfl) (by kernel_rfl) (.inl (by kernel_rfl))
theorem s132 {G : FuncId → FF} (hG : ∀ j, Sound cx j (G j)) : Sound cx 132 (t132 G) :=
  sound_fnQ okC hG (f := 132) (fn := Tryz.f132) (c := bodyOf Tryz.f132) (by kernel_rfl) (by kernel_rfl) (by decide) (by kernel_rfl) (by kernel_rfl) (by kernel_rfl) (by kernel_rfl) (by kernel_rfl) (by kernel_rfl) (.inl (by kernel_rfl))
theorem s133 {G : FuncId → FF} (hG : ∀ j, Sound cx j (G j)) : Sound cx 133 (t133 G) :=
  sound_fnQ okC hG (f := 133) (fn := Tryz.f133) (c := bodyOf Tryz.f133) (by kernel_rfl) (by kernel_rfl) (by decide) (by kernel_rfl) (by kernel_rfl) (by kernel_rfl) (by kernel_rfl) (by kernel_rfl) (by kernel_rfl) (.inl (by kernel_rfl))
theorem s134 {G : FuncId → FF} (hG : ∀ j, Sound cx j (G j)) : Sound cx 134 (t134 G) :=
  sound_fnQ okC hG (f := 134) (fn := Tryz.f134) (c := bodyOf Tryz.f134) (by kernel_rfl) (by kernel_rfl) (by decide) (by kernel_rfl) (by kernel_rfl) (by kernel_rfl) (by kernel_rfl) (by kernel_rfl) (by kernel_rfl) (.inl (by kernel_rfl))
theorem s135 {G : FuncId → FF} (hG : ∀ j, Sound cx j (G j)) : Sound cx 135 (t135 G) :=
  sound_fnQ okC hG (f := 135) (fn := Tryz.f135) (c := bodyOf Tryz.f135) (by kernel_rfl) (by kernel_rfl) (by decide) (by kernel_rfl) (by kernel_rfl) (by kernel_rfl) (by kernel_rfl) (by kernel_rfl) (by kernel_rfl) (.inl (by kernel_rfl))
theorem s136 {G : FuncId → FF} (hG : ∀ j, Sound cx j (G j)) : Sound cx 136 (t136 G) :=
  sound_fnQ okC hG (f := 136) (fn := Tryz.f136) (c := bodyOf Tryz.f136) (by kernel_rfl) (by kernel_rfl) (by decide) (by kernel_rfl) (by kernel_rfl) (by kernel_rfl) (by kernel_rfl) (by kernel_rfl) (by kernel_rfl) (.inl (by kernel_rfl))
theorem s137 {G : FuncId → FF} (hG : ∀ j, Sound cx j (G j)) : Sound cx 137 (t137 G) :=
  sound_fnQ okC hG (f := 137) (fn := Tryz.f137) (c := bodyOf Tryz.f137) (by kernel_rfl) (by kernel_rfl) (by decide) (by kernel_rfl) (by kernel_rfl) (by kernel_rfl) (by kernel_rfl) (by kernel_rfl) (by kernel_rfl) (.inl (by kernel_rfl))
theorem s138 {G : FuncId → FF} (hG : ∀ j, Sound cx j (G j)) : Sound cx 138 (t138 G) :=
  sound_fnQ okC hG (f := 138) (fn := Tryz.f138) (c := bodyOf Tryz.f138) (by kernel_rfl) (by kernel_rfl) (by decide) (by kernel_rfl) (by kernel_rfl) (by kernel_rfl) (by kernel_rfl) (by kernel_rfl) (by kernel_rfl) (.inl (by kernel_rfl))
theorem s139 {G : FuncId → FF} (hG : ∀ j, Sound cx j (G j)) : Sound cx 139 (t139 G) :=
  sound_fnQ okC hG (f := 139) (fn := Tryz.f139) (c := bodyOf Tryz.f139) (by kernel_rfl) (by kernel_rfl) (by decide) (by kernel_rfl) (by kernel_rfl) (by kernel_rfl) (by kernel_rfl) (by kernel_rfl) (by kernel_rfl) (.inl (by kernel_rfl))
theorem s140 {G : FuncId → FF} (hG : ∀ j, Sound cx j (G j)) : Sound cx 140 (t140 G) :=
  sound_fnQ okC hG (f := 140) (fn := Tryz.f140) (c := bodyOf Tryz.f140) (by kernel_rfl) (by kernel_rfl) (by decide) (by kernel_rfl) (by kernel_rfl) (by kernel_rfl) (by kernel_rfl) (by kernel_rfl) (by kernel_rfl) (.inl (by kernel_rfl))
theorem s141 {G : FuncId → FF} (hG : ∀ j, Sound cx j (G j)) : Sound cx 141 (t141 G) :=
  sound_fnQ okC hG (f := 141) (fn := Tryz.f141) (c := bodyOf Tryz.f141) (by kernel_rfl) (by kernel_rfl) (by decide) (by kernel_rfl) (by kernel_rfl) (by kernel_rfl) (by kernel_rfl) (by kernel_rfl) (by kernel_rfl) (.inl (by kernel_rfl))
theorem s142 {G : FuncId → FF} (hG : ∀ j, Sound cx j (G j)) : Sound cx 142 (t142 G) :=
  sound_fnQ okC hG (f := 142) (fn := Tryz.f142) (c := bodyOf Tryz.f142) (by kernel_rfl) (by kernel_rfl) (by decide) (by kernel_rfl) (by kernel_rfl) (by kernel_rfl) (by kernel_rfl) (by kernel_rfl) (by kernel_rfl) (.inl (by kernel_rfl))
theorem s143 {G : FuncId → FF} (hG : ∀ j, Sound cx j (G j)) : Sound cx 143 (t143 G) :=
  sound_fnQ okC hG (f := 143) (fn := Tryz.f143) (c := bodyOf Tryz.f143) (by kernel_rfl) (by kernel_rfl) (by decide) (by kernel_rfl) (by kernel_rfl) (by kernel_rfl) (by kernel_rfl) (by kernel_rfl) (by kernel_rfl) (.inl (by kernel_rfl))
theorem s144 {G : FuncId → FF} (hG : ∀ j, Sound cx j (G j)) : Sound cx 144 (t144 G) :=
  sound_fnQ okC hG (f := 144) (fn := Tryz.f144) (c := bodyOf Tryz.f144) (by kernel_rfl) (by kernel_rfl) (by decide) (by kernel_rfl) (by kernel_rfl) (by kernel_rfl) (by kernel_rfl) (by kernel_rfl) (by kernel_rfl) (.inl (by kernel_rfl))
theorem s145 {G : FuncId → FF} (hG : ∀ j, Sound cx j (G j)) : Sound cx 145 (t145 G) :=
  sound_fnQ okC hG (f := 145) (fn := Tryz.f145) (c := bodyOf Tryz.f145) (by kernel_rfl) (by kernel_rfl) (by decide) (by kernel_rfl) (by kernel_rfl) (by kernel_rfl) (by kernel_rfl) (by kernel_rfl) (by kernel_rfl) (.inl (by kernel_rfl))
theorem s146 {G : FuncId → FF} (hG : ∀ j, Sound cx j (G j)) : Sound cx 146 (t146 G) :=
  sound_fnQ okC hG (f := 146) (fn := Tryz.f146) (c := bodyOf Tryz.f146) (by kernel_rfl) (by kernel_rfl) (by decide) (by kernel_rfl) (by kernel_rfl) (by kernel_rfl) (by kernel_rfl) (by kernel_rfl) (by kernel_rfl) (.inl (by kernel_rfl))
theorem s147 {G : FuncId → FF} (hG : ∀ j, Sound cx j (G j)) : Sound cx 147 (t147 G) :=
  sound_fnQ okC hG (f := 147) (fn := Tryz.f147) (c := bodyOf Tryz.f147) (by kernel_rfl) (by kernel_rfl) (by decide) (by kernel_rfl) (by kernel_rfl) (by kernel_rfl) (by kernel_rfl) (by kernel_rfl) (by kernel_rfl) (.inl (by kernel_rfl))
theorem s148 {G : FuncId → FF} (hG : ∀ j, Sound cx j (G j)) : Sound cx 148 (t148 G) :=
  sound_fnQ okC hG (f := 148) (fn := Tryz.f148) (c := bodyOf Tryz.f148) (by kernel_rfl) (by kernel_rfl) (by decide) (by kernel_rfl) (by kernel_rfl) (by kernel_rfl) (by kernel_rfl) (by kernel_rfl) (by kernel_rfl) (.inl (by kernel_rfl))
theorem s149 {G : FuncId → FF} (hG : ∀ j, Sound cx j (G j)) : Sound cx 149 (t149 G) :=
  sound_fnQ okC hG (f := 149) (fn := Tryz.f149) (c := bodyOf Tryz.f149) (by kernel_rfl) (by kernel_rfl) (by decide) (by kernel_rfl) (by kernel_rfl) (by kernel_rfl) (by kernel_rfl) (by kernel_rfl) (by kernel_rfl) (.inl (by kernel_rfl))
theorem s150 {G : FuncId → FF} (hG : ∀ j, Sound cx j (G j)) : Sound cx 150 (t150 G) :=
  sound_fnQ okC hG (f := 150) (fn := Tryz.f150) (c := bodyOf Tryz.f150) (by kernel_rfl) (by kernel_rfl) (by decide) (by kernel_rfl) (by kernel_rfl) (by kernel_rfl) (by kernel_rfl) (by kernel_rfl) (by kernel_rfl) (.inl (by kernel_rfl))
theorem s151 {G : FuncId → FF} (hG : ∀ j, Sound cx j (G j)) : Sound cx 151 (t151 G) :=
  sound_fnQ okC hG (f := 151) (fn := Tryz.f151) (c := bodyOf Tryz.f151) (by kernel_rfl) (by kernel_rfl) (by decide) (by kernel_rfl) (by kernel_rfl) (by kernel_rfl) (by kernel_rfl) (by kernel_rfl) (by kernel_rfl) (.inl (by kernel_rfl))
theorem s152 {G : FuncId → FF} (hG : ∀ j, Sound cx j (G j)) : Sound cx 152 (t152 G) :=
  sound_fnQ okC hG (f := 152) (fn := Tryz.f152) (c := bodyOf Tryz.f152) (by kernel_rfl) (by kernel_rfl) (by decide) (by kernel_rfl) (by kernel_rfl) (by kernel_rfl) (by kernel_rfl) (by kernel_rfl) (by kernel_rfl) (.inl (by kernel_rfl))
theorem s153 {G : FuncId → FF} (hG : ∀ j, Sound cx j (G j)) : Sound cx 153 (t153 G) :=
  sound_fnQ okC hG (f := 153) (fn := Tryz.f153) (c := bodyOf Tryz.f153) (by kernel_rfl) (by kernel_rfl) (by decide) (by kernel_rfl) (by kernel_rfl) (by kernel_rfl) (by kernel_rfl) (by kernel_rfl) (by kernel_rfl) (.inl (by kernel_rfl))
theorem s154 {G : FuncId → FF} (hG : ∀ j, Sound cx j (G j)) : Sound cx 154 (t154 G) :=
  sound_fnQ okC hG (f := 154) (fn := Tryz.f154) (c := bodyOf Tryz.f154) (by kernel_rfl) (by kernel_rfl) (by decide) (by kernel_rfl) (by kernel_rfl) (by kernel_rfl) (by kernel_rfl) (by kernel_rfl) (by kernel_rfl) (.inl (by kernel_rfl))
theorem s155 {G : FuncId → FF} (hG : ∀ j, Sound cx j (G j)) : Sound cx 155 (t155 G) :=
  sound_fnQ okC hG (f := 155) (fn := Tryz.f155) (c := bodyOf Tryz.f155) (by kernel_rfl) (by kernel_rfl) (by decide) (by kernel_rfl) (by kernel_rfl) (by kernel_rfl) (by kernel_rfl) (by kernel_rfl) (by kernel_rfl) (.inl (by kernel_rfl))
theorem s156 {G : FuncId → FF} (hG : ∀ j, Sound cx j (G j)) : Sound cx 156 (t156 G) :=
  sound_fnQ okC hG (f := 156) (fn := Tryz.f156) (c := bodyOf Tryz.f156) (by kernel_rfl) (by kernel_rfl) (by decide) (by kernel_rfl) (by kernel_rfl) (by kernel_rfl) (by kernel_rfl) (by kernel_rfl) (by kernel_rfl) (.inl (by kernel_rfl))
theorem s157 {G : FuncId → FF} (hG : ∀ j, Sound cx j (G j)) : Sound cx 157 (t157 G) :=
  sound_fnQ okC hG (f := 157) (fn := Tryz.f157) (c := bodyOf Tryz.f157) (by kernel_rfl) (by kernel_rfl) (by decide) (by kernel_rfl) (by kernel_rfl) (by kernel_rfl) (by kernel_rfl) (by kernel_rfl) (by kernel_rfl) (.inl (by kernel_rfl))
theorem s158 {G : FuncId → FF} (hG : ∀ j, Sound cx j (G j)) : Sound cx 158 (t158 G) :=
  sound_fnQ okC hG (f := 158) (fn := Tryz.f158) (c := bodyOf Tryz.f158) (by kernel_rfl) (by kernel_rfl) (by decide) (by kernel_rfl) (by kernel_rfl) (by kernel_rfl) (by kernel_rfl) (by kernel_rfl) (by kernel_rfl) (.inl (by kernel_rfl))
theorem s159 {G : FuncId → FF} (hG : ∀ j, Sound cx j (G j)) : Sound cx 159 (t159 G) :=
  sound_fnQ okC hG (f := 159) (fn := Tryz.f159) (c := bodyOf Tryz.f159) (by kernel_rfl) (by kernel_rfl) (by decide) (by kernel_rfl) (by kernel_rfl) (by kernel_rfl) (by kernel_rfl) (by kernel_rfl) (by kernel_rfl) (.inl (by kernel_rfl))
theorem s160 {G : FuncId → FF} (hG : ∀ j, Sound cx j (G j)) : Sound cx 160 (t160 G) :=
  sound_fnQ okC hG (f := 160) (fn := Tryz.f160) (c := bodyOf Tryz.f160) (by kernel_rfl) (by kernel_rfl) (by decide) (by kernel_rfl) (by kernel_rfl) (by kernel_rfl) (by kernel_rfl) (by kernel_rfl) (by kernel_rfl) (.inl (by kernel_rfl))
theorem s161 {G : FuncId → FF} (hG : ∀ j, Sound cx j (G j)) : Sound cx 161 (t161 G) :=
  sound_fnQ okC hG (f := 161) (fn := Tryz.f161) (c := bodyOf Tryz.f161) (by kernel_rfl) (by kernel_rfl) (by decide) (by kernel_rfl) (by kernel_rfl) (by kernel_rfl) (by kernel_rfl) (by kernel_rfl) (by kernel_rfl) (.inl (by kernel_rfl))
theorem s162 {G : FuncId → FF} (hG : ∀ j, Sound cx j (G j)) : Sound cx 162 (t162 G) :=
  sound_fnQ okC hG (f := 162) (fn := Tryz.f162) (c := bodyOf Tryz.f162) (by kernel_rfl) (by kernel_rfl) (by decide) (by kernel_rfl) (by kernel_rfl) (by kernel_rfl) (by kernel_rfl) (by kernel_rfl) (by kernel_rfl) (.inl (by kernel_rfl))
theorem s163 {G : FuncId → FF} (hG : ∀ j, Sound cx j (G j)) : Sound cx 163 (t163 G) :=
  sound_fnQ okC hG (f := 163) (fn := Tryz.f163) (c := bodyOf Tryz.f163) (by kernel_rfl) (by kernel_rfl) (by decide) (by kernel_rfl) (by kernel_rfl) (by kernel_rfl) (by kernel_rfl) (by kernel_rfl) (by kernel_rfl) (.inl (by kernel_rfl))
theorem s164 {G : FuncId → FF} (hG : ∀ j, Sound cx j (G j)) : Sound cx 164 (t164 G) :=
  sound_fnQ okC hG (f := 164) (fn := Tryz.f164) (c := bodyOf Tryz.f164) (by kernel_rfl) (by kernel_rfl) (by decide) (by kernel_rfl) (by kernel_rfl) (by kernel_rfl) (by kernel_rfl) (by kernel_rfl) (by kernel_rfl) (.inl (by kernel_rfl))
theorem s165 {G : FuncId → FF} (hG : ∀ j, Sound cx j (G j)) : Sound cx 165 (t165 G) :=
  sound_fnQ okC hG (f := 165) (fn := Tryz.f165) (c := bodyOf Tryz.f165) (by kernel_rfl) (by kernel_rfl) (by decide) (by kernel_rfl) (by kernel_rfl) (by kernel_rfl) (by kernel_rfl) (by kernel_rfl) (by kernel_rfl) (.inl (by kernel_rfl))
theorem s166 {G : FuncId → FF} (hG : ∀ j, Sound cx j (G j)) : Sound cx 166 (t166 G) :=
  sound_fnQ okC hG (f := 166) (fn := Tryz.f166) (c := bodyOf Tryz.f166) (by kernel_rfl) (by kernel_rfl) (by decide) (by kernel_rfl) (by kernel_rfl) (by kernel_rfl) (by kernel_rfl) (by kernel_rfl) (by kernel_rfl) (.inl (by kernel_rfl))
theorem s167 {G : FuncId → FF} (hG : ∀ j, Sound cx j (G j)) : Sound cx 167 (t167 G) :=
  sound_fnQ okC hG (f := 167) (fn := Tryz.f167) (c := bodyOf Tryz.f167) (by kernel_rfl) (by kernel_rfl) (by decide) (by kernel_rfl) (by kernel_rfl) (by kernel_rfl) (by kernel_rfl) (by kernel_rfl) (by kernel_rfl) (.inl (by kernel_rfl))
theorem s168 {G : FuncId → FF} (hG : ∀ j, Sound cx j (G j)) : Sound cx 168 (t168 G) :=
  sound_fnQ okC hG (f := 168) (fn := Tryz.f168) (c := bodyOf Tryz.f168) (by kernel_rfl) (by kernel_rfl) (by decide) (by kernel_rfl) (by kernel_rfl) (by kernel_rfl) (by kernel_rfl) (by kernel_rfl) (by kernel_rfl) (.inl (by kernel_rfl))
theorem s169 {G : FuncId → FF} (hG : ∀ j, Sound cx j (G j)) : Sound cx 169 (t169 G) :=
  sound_fnQ okC hG (f := 169) (fn := Tryz.f169) (c := bodyOf Tryz.f169) (by kernel_rfl) (by kernel_rfl) (by decide) (by kernel_rfl) (by kernel_rfl) (by kernel_rfl) (by kernel_rfl) (by kernel_rfl) (by kernel_rfl) (.inl (by kernel_rfl))
theorem s170 {G : FuncId → FF} (hG : ∀ j, Sound cx j (G j)) : Sound cx 170 (t170 G) :=
  sound_fnQ okC hG (f := 170) (fn := Tryz.f170) (c := bodyOf Tryz.f170) (by kernel_rfl) (by kernel_rfl) (by decide) (by kernel_rfl) (by kernel_rfl) (by kernel_rfl) (by kernel_rfl) (by kernel_rfl) (by kernel_rfl) (.inl (by kernel_rfl))
theorem s171 {G : FuncId → FF} (hG : ∀ j, Sound cx j (G j)) : Sound cx 171 (t171 G) :=
  sound_fnQ okC hG (f := 171) (fn := Tryz.f171) (c := bodyOf Tryz.f171) (by kernel_rfl) (by kernel_rfl) (by decide) (by kernel_rfl) (by kernel_rfl) (by kernel_rfl) (by kernel_rfl) (by kernel_rfl) (by kernel_rfl) (.inl (by kernel_rfl))
theorem s172 {G : FuncId → FF} (hG : ∀ j, Sound cx j (G j)) : Sound cx 172 (t172 G) :=
  sound_fnQ okC hG (f := 172) (fn := Tryz.f172) (c := bodyOf Tryz.f172) (by kernel_rfl) (by kernel_rfl) (by decide) (by kernel_rfl) (by kernel_rfl) (by kernel_rfl) (by kernel_rfl) (by kernel_rfl) (by kernel_rfl) (.inl (by kernel_rfl))
theorem s173 {G : FuncId → FF} (hG : ∀ j, Sound cx j (G j)) : Sound cx 173 (t173 G) :=
  sound_fnQ okC hG (f := 173) (fn := Tryz.f173) (c := bodyOf Tryz.f173) (by kernel_rfl) (by kernel_rfl) (by decide) (by kernel_rfl) (by kernel_rfl) (by kernel_rfl) (by kernel_rfl) (by kernel_rfl) (by kernel_rfl) (.inl (by kernel_rfl))
theorem s174 {G : FuncId → FF} (hG : ∀ j, Sound cx j (G j)) : Sound cx 174 (t174 G) :=
  sound_fnQ okC hG (f := 174) (fn := Tryz.f174) (c := bodyOf Tryz.f174) (by kernel_rfl) (by kernel_rfl) (by decide) (by kernel_rfl) (by kernel_rfl) (by kernel_rfl) (by kernel_rfl) (by kernel_rfl) (by kernel_rfl) (.inl (by kernel_rfl))
theorem s175 {G : FuncId → FF} (hG : ∀ j, Sound cx j (G j)) : Sound cx 175 (t175 G) :=
  sound_fnQ okC hG (f := 175) (fn := Tryz.f175) (c := bodyOf Tryz.f175) (by kernel_rfl) (by kernel_rfl) (by decide) (by kernel_rfl) (by kernel_rfl) (by kernel_rfl) (by kernel_rfl) (by kernel_rfl) (by kernel_rfl) (.inl (by kernel_rfl))
theorem s176 {G : FuncId → FF} (hG : ∀ j, Sound cx j (G j)) : Sound cx 176 (t176 G) :=
  sound_fnQ okC hG (f := 176) (fn := Tryz.f176) (c := bodyOf Tryz.f176) (by kernel_rfl) (by kernel_rfl) (by decide) (by kernel_rfl) (by kernel_rfl) (by kernel_rfl) (by kernel_rfl) (by kernel_rfl) (by kernel_rfl) (.inl (by kernel_rfl))
theorem s177 {G : FuncId → FF} (hG : ∀ j, Sound cx j (G j)) : Sound cx 177 (t177 G) :=
  sound_fnQ okC hG (f := 177) (fn := Tryz.f177) (c := bodyOf Tryz.f177) (by kernel_rfl) (by kernel_rfl) (by decide) (by kernel_rfl) (by kernel_rfl) (by kernel_rfl) (by kernel_rfl) (by kernel_rfl) (by kernel_rfl) (.inl (by kernel_rfl))
theorem s178 {G : FuncId → FF} (hG : ∀ j, Sound cx j (G j)) : Sound cx 178 (t178 G) :=
  sound_fnQ okC hG (f := 178) (fn := Tryz.f178) (c := bodyOf Tryz.f178) (by kernel_rfl) (by kernel_rfl) (by decide) (by kernel_rfl) (by kernel_rfl) (by kernel_rfl) (by kernel_rfl) (by kernel_rfl) (by kernel_rfl) (.inl (by kernel_rfl))
theorem s179 {G : FuncId → FF} (hG : ∀ j, Sound cx j (G j)) : Sound cx 179 (t179 G) :=
  sound_fnQ okC hG (f := 179) (fn := Tryz.f179) (c := bodyOf Tryz.f179) (by kernel_rfl) (by kernel_rfl) (by decide) (by kernel_rfl) (by kernel_rfl) (by kernel_rfl) (by kernel_rfl) (by kernel_rfl) (by kernel_rfl) (.inl (by kernel_rfl))
theorem s180 {G : FuncId → FF} (hG : ∀ j, Sound cx j (G j)) : Sound cx 180 (t180 G) :=
  sound_fnQ okC hG (f := 180) (fn := Tryz.f180) (c := bodyOf Tryz.f180) (by kernel_rfl) (by kernel_rfl) (by decide) (by kernel_rfl) (by kernel_rfl) (by kernel_rfl) (by kernel_rfl) (by kernel_rfl) (by kernel_rfl) (.inl (by kernel_rfl))
theorem s181 {G : FuncId → FF} (hG : ∀ j, Sound cx j (G j)) : Sound cx 181 (t181 G) :=
  sound_fnQ okC hG (f := 181) (fn := Tryz.f181) (c := bodyOf Tryz.f181) (by kernel_rfl) (by kernel_rfl) (by decide) (by kernel_rfl) (by kernel_rfl) (by kernel_rfl) (by kernel_rfl) (by kernel_rfl) (by kernel_rfl) (.inl (by kernel_rfl))
theorem s182 {G : FuncId → FF} (hG : ∀ j, Sound cx j (G j)) : Sound cx 182 (t182 G) :=
  sound_fnQ okC hG (f := 182) (fn := Tryz.f182) (c := bodyOf Tryz.f182) (by kernel_rfl) (by kernel_rfl) (by decide) (by kernel_rfl) (by kernel_rfl) (by kernel_rfl) (by kernel_rfl) (by kernel_rfl) (by kernel_rfl) (.inl (by kernel_rfl))
theorem s183 {G : FuncId → FF} (hG : ∀ j, Sound cx j (G j)) : Sound cx 183 (t183 G) :=
  sound_fnQ okC hG (f := 183) (fn := Tryz.f183) (c := bodyOf Tryz.f183) (by kernel_rfl) (by kernel_rfl) (by decide) (by kernel_rfl) (by kernel_rfl) (by kernel_rfl) (by kernel_rfl) (by kernel_rfl) (by kernel_rfl) (.inl (by kernel_rfl))
theorem s184 {G : FuncId → FF} (hG : ∀ j, Sound cx j (G j)) : Sound cx 184 (t184 G) :=
  sound_fnQ okC hG (f := 184) (fn := Tryz.f184) (c := bodyOf Tryz.f184) (by kernel_rfl) (by kernel_rfl) (by decide) (by kernel_rfl) (by kernel_rfl) (by kernel_rfl) (by kernel_rfl) (by kernel_rfl) (by kernel_rfl) (.inl (by kernel_rfl))
theorem s185 {G : FuncId → FF} (hG : ∀ j, Sound cx j (G j)) : Sound cx 185 (t185 G) :=
  sound_fnQ okC hG (f := 185) (fn := Tryz.f185) (c := bodyOf Tryz.f185) (by kernel_rfl) (by kernel_rfl) (by decide) (by kernel_rfl) (by kernel_rfl) (by kernel_rfl) (by kernel_rfl) (by kernel_rfl) (by kernel_rfl) (.inl (by kernel_rfl))
theorem s186 {G : FuncId → FF} (hG : ∀ j, Sound cx j (G j)) : Sound cx 186 (t186 G) :=
  sound_fnQ okC hG (f := 186) (fn := Tryz.f186) (c := bodyOf Tryz.f186) (by kernel_rfl) (by kernel_rfl) (by decide) (by kernel_rfl) (by kernel_rfl) (by kernel_rfl) (by kernel_rfl) (by kernel_rfl) (by kernel_rfl) (.inl (by kernel_rfl))
theorem s187 {G : FuncId → FF} (hG : ∀ j, Sound cx j (G j)) : Sound cx 187 (t187 G) :=
  sound_fnQ okC hG (f := 187) (fn := Tryz.f187) (c := bodyOf Tryz.f187) (by kernel_rfl) (by kernel_rfl) (by decide) (by kernel_rfl) (by kernel_rfl) (by kernel_rfl) (by kernel_rfl) (by kernel_rfl) (by kernel_rfl) (.inl (by kernel_rfl))
theorem s188 {G : FuncId → FF} (hG : ∀ j, Sound cx j (G j)) : Sound cx 188 (t188 G) :=
  sound_fnQ okC hG (f := 188) (fn := Tryz.f188) (c := bodyOf Tryz.f188) (by kernel_rfl) (by kernel_rfl) (by decide) (by kernel_rfl) (by kernel_rfl) (by kernel_rfl) (by kernel_rfl) (by kernel_rfl) (by kernel_rfl) (.inl (by kernel_rfl))
theorem s189 {G : FuncId → FF} (hG : ∀ j, Sound cx j (G j)) : Sound cx 189 (t189 G) :=
  sound_fnQ okC hG (f := 189) (fn := Tryz.f189) (c := bodyOf Tryz.f189) (by kernel_rfl) (by kernel_rfl) (by decide) (by kernel_rfl) (by kernel_rfl) (by kernel_rfl) (by kernel_rfl) (by kernel_rfl) (by kernel_rfl) (.inl (by kernel_rfl))
theorem s190 {G : FuncId → FF} (hG : ∀ j, Sound cx j (G j)) : Sound cx 190 (t190 G) :=
  sound_fnQ okC hG (f := 190) (fn := Tryz.f190) (c := bodyOf Tryz.f190) (by kernel_rfl) (by kernel_rfl) (by decide) (by kernel_rfl) (by kernel_rfl) (by kernel_rfl) (by kernel_rfl) (by kernel_rfl) (by kernel_rfl) (.inl (by kernel_rfl))
theorem s191 {G : FuncId → FF} (hG : ∀ j, Sound cx j (G j)) : Sound cx 191 (t191 G) :=
  sound_fnQ okC hG (f := 191) (fn := Tryz.f191) (c := bodyOf Tryz.f191) (by kernel_rfl) (by kernel_rfl) (by decide) (by kernel_rfl) (by kernel_rfl) (by kernel_rfl) (by kernel_rfl) (by kernel_rfl) (by kernel_rfl) (.inl (by kernel_rfl))
theorem s192 {G : FuncId → FF} (hG : ∀ j, Sound cx j (G j)) : Sound cx 192 (t192 G) :=
  sound_fnQ okC hG (f := 192) (fn := Tryz.f192) (c := bodyOf Tryz.f192) (by kernel_rfl) (by kernel_rfl) (by decide) (by kernel_rfl) (by kernel_rfl) (by kernel_rfl) (by kernel_rfl) (by kernel_rfl) (by kernel_rfl) (.inl (by kernel_rfl))
theorem s193 {G : FuncId → FF} (hG : ∀ j, Sound cx j (G j)) : Sound cx 193 (t193 G) :=
  sound_fnQ okC hG (f := 193) (fn := Tryz.f193) (c := bodyOf Tryz.f193) (by kernel_rfl) (by kernel_rfl) (by decide) (by kernel_rfl) (by kernel_rfl) (by kernel_rfl) (by kernel_rfl) (by kernel_rfl) (by kernel_rfl) (.inl (by kernel_rfl))
theorem s194 {G : FuncId → FF} (hG : ∀ j, Sound cx j (G j)) : Sound cx 194 (t194 G) :=
  sound_fnQ okC hG (f := 194) (fn := Tryz.f194) (c := bodyOf Tryz.f194) (by kernel_rfl) (by kernel_rfl) (by decide) (by kernel_rfl) (by kernel_rfl) (by kernel_rfl) (by kernel_rfl) (by kernel_rfl) (by kernel_rfl) (.inl (by kernel_rfl))
theorem s195 {G : FuncId → FF} (hG : ∀ j, Sound cx j (G j)) : Sound cx 195 (t195 G) :=
  sound_fnQ okC hG (f := 195) (fn := Tryz.f195) (c := bodyOf Tryz.f195) (by kernel_rfl) (by kernel_rfl) (by decide) (by kernel_rfl) (by kernel_rfl) (by kernel_rfl) (by kernel_rfl) (by kernel_rfl) (by kernel_rfl) (.inl (by kernel_rfl))
theorem s196 {G : FuncId → FF} (hG : ∀ j, Sound cx j (G j)) : Sound cx 196 (t196 G) :=
  sound_fnQ okC hG (f := 196) (fn := Tryz.f196) (c := bodyOf Tryz.f196) (by kernel_rfl) (by kernel_rfl) (by decide) (by kernel_rfl) (by kernel_rfl) (by kernel_rfl) (by kernel_rfl) (by kernel_rfl) (by kernel_rfl) (.inl (by kernel_rfl))
theorem s197 {G : FuncId → FF} (hG : ∀ j, Sound cx j (G j)) : Sound cx 197 (t197 G) :=
  sound_fnQ okC hG (f := 197) (fn := Tryz.f197) (c := bodyOf Tryz.f197) (by kernel_rfl) (by kernel_rfl) (by decide) (by kernel_rfl) (by kernel_rfl) (by kernel_rfl) (by kernel_rfl) (by kernel_rfl) (by kernel_rfl) (.inl (by kernel_rfl))
theorem s198 {G : FuncId → FF} (hG : ∀ j, Sound cx j (G j)) : Sound cx 198 (t198 G) :=
  sound_fnQ okC hG (f := 198) (fn := Tryz.f198) (c := bodyOf Tryz.f198) (by kernel_rfl) (by kernel_rfl) (by decide) (by kernel_rfl) (by kernel_rfl) (by kernel_rfl) (by kernel_rfl) (by kernel_rfl) (by kernel_rfl) (.inl (by kernel_rfl))
theorem s199 {G : FuncId → FF} (hG : ∀ j, Sound cx j (G j)) : Sound cx 199 (t199 G) :=
  sound_fnQ okC hG (f := 199) (fn := Tryz.f199) (c := bodyOf Tryz.f199) (by kernel_rfl) (by kernel_rfl) (by decide) (by kernel_rfl) (by kernel_rfl) (by kernel_rfl) (by kernel_rfl) (by kernel_rfl) (by kernel_rfl) (.inl (by kernel_rfl))
theorem s200 {G : FuncId → FF} (hG : ∀ j, Sound cx j (G j)) : Sound cx 200 (t200 G) :=
  sound_fnQ okC hG (f := 200) (fn := Tryz.f200) (c := bodyOf Tryz.f200) (by kernel_rfl) (by kernel_rfl) (by decide) (by kernel_rfl) (by kernel_rfl) (by kernel_rfl) (by kernel_rfl) (by kernel_rfl) (by kernel_rfl) (.inl (by kernel_rfl))
theorem s201 {G : FuncId → FF} (hG : ∀ j, Sound cx j (G j)) : Sound cx 201 (t201 G) :=
  sound_fnQ okC hG (f := 201) (fn := Tryz.f201) (c := bodyOf Tryz.f201) (by kernel_rfl) (by kernel_rfl) (by decide) (by kernel_rfl) (by kernel_rfl) (by kernel_rfl) (by kernel_rfl) (by kernel_rfl) (by kernel_rfl) (.inl (by kernel_rfl))
theorem s202 {G : FuncId → FF} (hG : ∀ j, Sound cx j (G j)) : Sound cx 202 (t202 G) :=
  sound_fnQ okC hG (f := 202) (fn := Tryz.f202) (c := bodyOf Tryz.f202) (by kernel_rfl) (by kernel_rfl) (by decide) (by kernel_rfl) (by kernel_rfl) (by kernel_rfl) (by kernel_rfl) (by kernel_rfl) (by kernel_rfl) (.inl (by kernel_rfl))
theorem s203 {G : FuncId → FF} (hG : ∀ j, Sound cx j (G j)) : Sound cx 203 (t203 G) :=
  sound_fnQ okC hG (f := 203) (fn := Tryz.f203) (c := bodyOf Tryz.f203) (by kernel_rfl) (by kernel_rfl) (by decide) (by kernel_rfl) (by kernel_rfl) (by kernel_rfl) (by kernel_rfl) (by kernel_rfl) (by kernel_rfl) (.inl (by kernel_rfl))
theorem s204 {G : FuncId → FF} (hG : ∀ j, Sound cx j (G j)) : Sound cx 204 (t204 G) :=
  sound_fnQ okC hG (f := 204) (fn := Tryz.f204) (c := bodyOf Tryz.f204) (by kernel_rfl) (by kernel_rfl) (by decide) (by kernel_rfl) (by kernel_rfl) (by kernel_rfl) (by kernel_rfl) (by kernel_rfl) (by kernel_rfl) (.inl (by kernel_rfl))
theorem s205 {G : FuncId → FF} (hG : ∀ j, Sound cx j (G j)) : Sound cx 205 (t205 G) :=
  sound_fnQ okC hG (f := 205) (fn := Tryz.f205) (c := bodyOf Tryz.f205) (by kernel_rfl) (by kernel_rfl) (by decide) (by kernel_rfl) (by kernel_rfl) (by kernel_rfl) (by kernel_rfl) (by kernel_rfl) (by kernel_rfl) (.inl (by kernel_rfl))
theorem s206 {G : FuncId → FF} (hG : ∀ j, Sound cx j (G j)) : Sound cx 206 (t206 G) :=
  sound_fnQ okC hG (f := 206) (fn := Tryz.f206) (c := bodyOf Tryz.f206) (by kernel_rfl) (by kernel_rfl) (by decide) (by kernel_rfl) (by kernel_rfl) (by kernel_rfl) (by kernel_rfl) (by kernel_rfl) (by kernel_rfl) (.inl (by kernel_rfl))
theorem s207 {G : FuncId → FF} (hG : ∀ j, Sound cx j (G j)) : Sound cx 207 (t207 G) :=
  sound_fnQ okC hG (f := 207) (fn := Tryz.f207) (c := bodyOf Tryz.f207) (by kernel_rfl) (by kernel_rfl) (by decide) (by kernel_rfl) (by kernel_rfl) (by kernel_rfl) (by kernel_rfl) (by kernel_rfl) (by kernel_rfl) (.inl (by kernel_rfl))
theorem s208 {G : FuncId → FF} (hG : ∀ j, Sound cx j (G j)) : Sound cx 208 (t208 G) :=
  sound_fnQ okC hG (f := 208) (fn := Tryz.f208) (c := bodyOf Tryz.f208) (by kernel_rfl) (by kernel_rfl) (by decide) (by kernel_rfl) (by kernel_rfl) (by kernel_rfl) (by kernel_rfl) (by kernel_rfl) (by kernel_rfl) (.inl (by kernel_rfl))
theorem s209 {G : FuncId → FF} (hG : ∀ j, Sound cx j (G j)) : Sound cx 209 (t209 G) :=
  sound_fnQ okC hG (f := 209) (fn := Tryz.f209) (c := bodyOf Tryz.f209) (by kernel_rfl) (by kernel_rfl) (by decide) (by kernel_rfl) (by kernel_rfl) (by kernel_rfl) (by kernel_rfl) (by kernel_rfl) (by kernel_rfl) (.inl (by kernel_rfl))
theorem s210 {G : FuncId → FF} (hG : ∀ j, Sound cx j (G j)) : Sound cx 210 (t210 G) :=
  sound_fnQ okC hG (f := 210) (fn := Tryz.f210) (c := bodyOf Tryz.f210) (by kernel_rfl) (by kernel_rfl) (by decide) (by kernel_rfl) (by kernel_rfl) (by kernel_rfl) (by kernel_rfl) (by kernel_rfl) (by kernel_rfl) (.inl (by kernel_rfl))
theorem s211 {G : FuncId → FF} (hG : ∀ j, Sound cx j (G j)) : Sound cx 211 (t211 G) :=
  sound_rfQ okC hG (f := 211) (fn := Tryz.f211) (c := bodyOf Tryz.f211) (by kernel_rfl) (by kernel_rfl) (by decide) (by kernel_rfl) (by kernel_rfl) (by kernel_rfl) (by kernel_rfl) (by kernel_rfl) (by kernel_rfl) (.inl (by kernel_rfl))
theorem s212 {G : FuncId → FF} (hG : ∀ j, Sound cx j (G j)) : Sound cx 212 (t212 G) :=
  sound_fnQ okC hG (f := 212) (fn := Tryz.f212) (c := bodyOf Tryz.f212) (by kernel_rfl) (by kernel_rfl) (by decide) (by kernel_rfl) (by kernel_rfl) (by kernel_rfl) (by kernel_rfl) (by kernel_rfl) (by kernel_rfl) (.inl (by kernel_rfl))
theorem s213 {G : FuncId → FF} (hG : ∀ j, Sound cx j (G j)) : Sound cx 213 (t213 G) :=
  sound_fnQ okC hG (f := 213) (fn := Tryz.f213) (c := bodyOf Tryz.f213) (by kernel_rfl) (by kernel_rfl) (by decide) (by kernel_rfl) (by kernel_rfl) (by kernel_rfl) (by kernel_rfl) (by kernel_rfl) (by kernel_rfl) (.inl (by kernel_rfl))
theorem s214 {G : FuncId → FF} (hG : ∀ j, Sound cx j (G j)) : Sound cx 214 (t214 G) :=
  sound_fnQ okC hG (f := 214) (fn := Tryz.f214) (c := bodyOf Tryz.f214) (by kernel_rfl) (by kernel_rfl) (by decide) (by kernel_rfl) (by kernel_rfl) (by kernel_rfl) (by kernel_rfl) (by kernel_rfl) (by kernel_rfl) (.inl (by kernel_rfl))
theorem s215 {G : FuncId → FF} (hG : ∀ j, Sound cx j (G j)) : Sound cx 215 (t215 G) :=
  sound_fnQ okC hG (f := 215) (fn := Tryz.f215) (c := bodyOf Tryz.f215) (by kernel_rfl) (by kernel_rfl) (by decide) (by kernel_rfl) (by kernel_rfl) (by kernel_rfl) (by kernel_rfl) (by kernel_rfl) (by kernel_rfl) (.inl (by kernel_rfl))
theorem s216 {G : FuncId → FF} (hG : ∀ j, Sound cx j (G j)) : Sound cx 216 (t216 G) :=
  sound_fnQ okC hG (f := 216) (fn := Tryz.f216) (c := bodyOf Tryz.f216) (by kernel_rfl) (by kernel_rfl) (by decide) (by kernel_rfl) (by kernel_rfl) (by kernel_rfl) (by kernel_rfl) (by kernel_rfl) (by kernel_rfl) (.inl (by kernel_rfl))
theorem s217 {G : FuncId → FF} (hG : ∀ j, Sound cx j (G j)) : Sound cx 217 (t217 G) :=
  sound_fnQ okC hG (f := 217) (fn := Tryz.f217) (c := bodyOf Tryz.f217) (by kernel_rfl) (by kernel_rfl) (by decide) (by kernel_rfl) (by kernel_rfl) (by kernel_rfl) (by kernel_rfl) (by kernel_rfl) (by kernel_rfl) (.inl (by kernel_rfl))
theorem s218 {G : FuncId → FF} (hG : ∀ j, Sound cx j (G j)) : Sound cx 218 (t218 G) :=
  sound_fnQ okC hG (f := 218) (fn := Tryz.f218) (c := bodyOf Tryz.f218) (by kernel_rfl) (by kernel_rfl) (by decide) (by kernel_rfl) (by kernel_rfl) (by kernel_rfl) (by kernel_rfl) (by kernel_rfl) (by kernel_rfl) (.inl (by kernel_rfl))
theorem s219 {G : FuncId → FF} (hG : ∀ j, Sound cx j (G j)) : Sound cx 219 (t219 G) :=
  sound_fnQ okC hG (f := 219) (fn := Tryz.f219) (c := bodyOf Tryz.f219) (by kernel_rfl) (by kernel_rfl) (by decide) (by kernel_rfl) (by kernel_rfl) (by kernel_rfl) (by kernel_rfl) (by kernel_rfl) (by kernel_rfl) (.inl (by kernel_rfl))
theorem s220 {G : FuncId → FF} (hG : ∀ j, Sound cx j (G j)) : Sound cx 220 (t220 G) :=
  sound_fnQ okC hG (f := 220) (fn := Tryz.f220) (c := bodyOf Tryz.f220) (by kernel_rfl) (by kernel_rfl) (by decide) (by kernel_rfl) (by kernel_rfl) (by kernel_rfl) (by kernel_rfl) (by kernel_rfl) (by kernel_rfl) (.inl (by kernel_rfl))
theorem s221 {G : FuncId → FF} (hG : ∀ j, Sound cx j (G j)) : Sound cx 221 (t221 G) :=
  sound_fnQ okC hG (f := 221) (fn := Tryz.f221) (c := bodyOf Tryz.f221) (by kernel_rfl) (by kernel_rfl) (by decide) (by kernel_rfl) (by kernel_rfl) (by kernel_rfl) (by kernel_rfl) (by kernel_rfl) (by kernel_rfl) (.inl (by kernel_rfl))
theorem s222 {G : FuncId → FF} (hG : ∀ j, Sound cx j (G j)) : Sound cx 222 (t222 G) :=
  sound_fnQ okC hG (f := 222) (fn := Tryz.f222) (c := bodyOf Tryz.f222) (by kernel_rfl) (by kernel_rfl) (by decide) (by kernel_rfl) (by kernel_rfl) (by kernel_rfl) (by kernel_rfl) (by kernel_rfl) (by kernel_rfl) (.inl (by kernel_rfl))
theorem s223 {G : FuncId → FF} (hG : ∀ j, Sound cx j (G j)) : Sound cx 223 (t223 G) :=
  sound_fnQ okC hG (f := 223) (fn := Tryz.f223) (c := bodyOf Tryz.f223) (by kernel_rfl) (by kernel_rfl) (by decide) (by kernel_rfl) (by kernel_rfl) (by kernel_rfl) (by kernel_rfl) (by kernel_rfl) (by kernel_rfl) (.inl (by kernel_rfl))
theorem s224 {G : FuncId → FF} (hG : ∀ j, Sound cx j (G j)) : Sound cx 224 (t224 G) :=
  sound_fnQ okC hG (f := 224) (fn := Tryz.f224) (c := bodyOf Tryz.f224) (by kernel_rfl) (by kernel_rfl) (by decide) (by kernel_rfl) (by kernel_rfl) (by kernel_rfl) (by kernel_rfl) (by kernel_rfl) (by kernel_rfl) (.inl (by kernel_rfl))
theorem s225 {G : FuncId → FF} (hG : ∀ j, Sound cx j (G j)) : Sound cx 225 (t225 G) :=
  sound_fnQ okC hG (f := 225) (fn := Tryz.f225) (c := bodyOf Tryz.f225) (by kernel_rfl) (by kernel_rfl) (by decide) (by kernel_rfl) (by kernel_rfl) (by kernel_rfl) (by kernel_rfl) (by kernel_rfl) (by kernel_rfl) (.inl (by kernel_rfl))
theorem s226 {G : FuncId → FF} (hG : ∀ j, Sound cx j (G j)) : Sound cx 226 (t226 G) :=
  sound_fnQ okC hG (f := 226) (fn := Tryz.f226) (c := bodyOf Tryz.f226) (by kernel_rfl) (by kernel_rfl) (by decide) (by kernel_rfl) (by kernel_rfl) (by kernel_rfl) (by kernel_rfl) (by kernel_rfl) (by kernel_rfl) (.inl (by kernel_rfl))
theorem s227 {G : FuncId → FF} (hG : ∀ j, Sound cx j (G j)) : Sound cx 227 (t227 G) :=
  sound_fnQ okC hG (f := 227) (fn := Tryz.f227) (c := bodyOf Tryz.f227) (by kernel_rfl) (by kernel_rfl) (by decide) (by kernel_rfl) (by kernel_rfl) (by kernel_rfl) (by kernel_rfl) (by kernel_rfl) (by kernel_rfl) (.inl (by kernel_rfl))
theorem s228 {G : FuncId → FF} (hG : ∀ j, Sound cx j (G j)) : Sound cx 228 (t228 G) :=
  sound_fnQ okC hG (f := 228) (fn := Tryz.f228) (c := bodyOf Tryz.f228) (by kernel_rfl) (by kernel_rfl) (by decide) (by kernel_rfl) (by kernel_rfl) (by kernel_rfl) (by kernel_rfl) (by kernel_rfl) (by kernel_rfl) (.inl (by kernel_rfl))
theorem s229 {G : FuncId → FF} (hG : ∀ j, Sound cx j (G j)) : Sound cx 229 (t229 G) :=
  sound_fnQ okC hG (f := 229) (fn := Tryz.f229) (c := bodyOf Tryz.f229) (by kernel_rfl) (by kernel_rfl) (by decide) (by kernel_rfl) (by kernel_rfl) (by kernel_rfl) (by kernel_rfl) (by kernel_rfl) (by kernel_rfl) (.inl (by kernel_rfl))
theorem s230 {G : FuncId → FF} (hG : ∀ j, Sound cx j (G j)) : Sound cx 230 (t230 G) :=
  sound_fnQ okC hG (f := 230) (fn := Tryz.f230) (c := bodyOf Tryz.f230) (by kernel_rfl) (by kernel_rfl) (by decide) (by kernel_rfl) (by kernel_rfl) (by kernel_rfl) (by kernel_rfl) (by kernel_rfl) (by kernel_rfl) (.inl (by kernel_rfl))
theorem s231 {G : FuncId → FF} (hG : ∀ j, Sound cx j (G j)) : Sound cx 231 (t231 G) :=
  sound_fnQ okC hG (f := 231) (fn := Tryz.f231) (c := bodyOf Tryz.f231) (by kernel_rfl) (by kernel_rfl) (by decide) (by kernel_rfl) (by kernel_rfl) (by kernel_rfl) (by kernel_rfl) (by kernel_rfl) (by kernel_rfl) (.inl (by kernel_rfl))
theorem s232 {G : FuncId → FF} (hG : ∀ j, Sound cx j (G j)) : Sound cx 232 (t232 G) :=
  sound_fnQ okC hG (f := 232) (fn := Tryz.f232) (c := bodyOf Tryz.f232) (by kernel_rfl) (by kernel_rfl) (by decide) (by kernel_rfl) (by kernel_rfl) (by kernel_rfl) (by kernel_rfl) (by kernel_rfl) (by kernel_rfl) (.inl (by kernel_rfl))
theorem s233 {G : FuncId → FF} (hG : ∀ j, Sound cx j (G j)) : Sound cx 233 (t233 G) :=
  sound_fnQ okC hG (f := 233) (fn := Tryz.f233) (c := bodyOf Tryz.f233) (by kernel_rfl) (by kernel_rfl) (by decide) (by kernel_rfl) (by kernel_rfl) (by kernel_rfl) (by kernel_rfl) (by kernel_rfl) (by kernel_rfl) (.inl (by kernel_rfl))
theorem s234 {G : FuncId → FF} (hG : ∀ j, Sound cx j (G j)) : Sound cx 234 (t234 G) :=
  sound_fnQ okC hG (f := 234) (fn := Tryz.f234) (c := bodyOf Tryz.f234) (by kernel_rfl) (by kernel_rfl) (by decide) (by kernel_rfl) (by kernel_rfl) (by kernel_rfl) (by kernel_rfl) (by kernel_rfl) (by kernel_rfl) (.inl (by kernel_rfl))
theorem s235 {G : FuncId → FF} (hG : ∀ j, Sound cx j (G j)) : Sound cx 235 (t235 G) :=
  sound_fnQ okC hG (f := 235) (fn := Tryz.f235) (c := bodyOf Tryz.f235) (by kernel_rfl) (by kernel_rfl) (by decide) (by kernel_rfl) (by kernel_rfl) (by kernel_rfl) (by kernel_rfl) (by kernel_rfl) (by kernel_rfl) (.inl (by kernel_rfl))
theorem s236 {G : FuncId → FF} (hG : ∀ j, Sound cx j (G j)) : Sound cx 236 (t236 G) :=
  sound_fnQ okC hG (f := 236) (fn := Tryz.f236) (c := bodyOf Tryz.f236) (by kernel_rfl) (by kernel_rfl) (by decide) (by kernel_rfl) (by kernel_rfl) (by kernel_rfl) (by kernel_rfl) (by kernel_rfl) (by kernel_rfl) (.inl (by kernel_rfl))
theorem s237 {G : FuncId → FF} (hG : ∀ j, Sound cx j (G j)) : Sound cx 237 (t237 G) :=
  sound_fnQ okC hG (f := 237) (fn := Tryz.f237) (c := bodyOf Tryz.f237) (by kernel_rfl) (by kernel_rfl) (by decide) (by kernel_rfl) (by kernel_rfl) (by kernel_rfl) (by kernel_rfl) (by kernel_rfl) (by kernel_rfl) (.inl (by kernel_rfl))
theorem s238 {G : FuncId → FF} (hG : ∀ j, Sound cx j (G j)) : Sound cx 238 (t238 G) :=
  sound_fnQ okC hG (f := 238) (fn := Tryz.f238) (c := bodyOf Tryz.f238) (by kernel_rfl) (by kernel_rfl) (by decide) (by kernel_rfl) (by kernel_rfl) (by kernel_rfl) (by kernel_rfl) (by kernel_rfl) (by kernel_rfl) (.inl (by kernel_rfl))
theorem s239 {G : FuncId → FF} (hG : ∀ j, Sound cx j (G j)) : Sound cx 239 (t239 G) :=
  sound_fnQ okC hG (f := 239) (fn := Tryz.f239) (c := bodyOf Tryz.f239) (by kernel_rfl) (by kernel_rfl) (by decide) (by kernel_rfl) (by kernel_rfl) (by kernel_rfl) (by kernel_rfl) (by kernel_rfl) (by kernel_rfl) (.inl (by kernel_rfl))
theorem s240 {G : FuncId → FF} (hG : ∀ j, Sound cx j (G j)) : Sound cx 240 (t240 G) :=
  sound_fnQ okC hG (f := 240) (fn := Tryz.f240) (c := bodyOf Tryz.f240) (by kernel_rfl) (by kernel_rfl) (by decide) (by kernel_rfl) (by kernel_rfl) (by kernel_rfl) (by kernel_rfl) (by kernel_rfl) (by kernel_rfl) (.inl (by kernel_rfl))
theorem s241 {G : FuncId → FF} (hG : ∀ j, Sound cx j (G j)) : Sound cx 241 (t241 G) :=
  sound_fnQ okC hG (f := 241) (fn := Tryz.f241) (c := bodyOf Tryz.f241) (by kernel_rfl) (by kernel_rfl) (by decide) (by kernel_rfl) (by kernel_rfl) (by kernel_rfl) (by kernel_rfl) (by kernel_rfl) (by kernel_rfl) (.inl (by kernel_rfl))
theorem s242 {G : FuncId → FF} (hG : ∀ j, Sound cx j (G j)) : Sound cx 242 (t242 G) :=
  sound_fnQ okC hG (f := 242) (fn := Tryz.f242) (c := bodyOf Tryz.f242) (by kernel_rfl) (by kernel_rfl) (by decide) (by kernel_rfl) (by kernel_rfl) (by kernel_rfl) (by kernel_rfl) (by kernel_rfl) (by kernel_rfl) (.inl (by kernel_rfl))
theorem s243 {G : FuncId → FF} (hG : ∀ j, Sound cx j (G j)) : Sound cx 243 (t243 G) :=
  sound_fnQ okC hG (f := 243) (fn := Tryz.f243) (c := bodyOf Tryz.f243) (by kernel_rfl) (by kernel_rfl) (by decide) (by kernel_rfl) (by kernel_rfl) (by kernel_rfl) (by kernel_rfl) (by kernel_rfl) (by kernel_rfl) (.inl (by kernel_rfl))
theorem s244 {G : FuncId → FF} (hG : ∀ j, Sound cx j (G j)) : Sound cx 244 (t244 G) :=
  sound_fnQ okC hG (f := 244) (fn := Tryz.f244) (c := bodyOf Tryz.f244) (by kernel_rfl) (by kernel_rfl) (by decide) (by kernel_rfl) (by kernel_rfl) (by kernel_rfl) (by kernel_rfl) (by kernel_rfl) (by kernel_rfl) (.inl (by kernel_rfl))
theorem s245 {G : FuncId → FF} (hG : ∀ j, Sound cx j (G j)) : Sound cx 245 (t245 G) :=
  sound_fnQ okC hG (f := 245) (fn := Tryz.f245) (c := bodyOf Tryz.f245) (by kernel_rfl) (by kernel_rfl) (by decide) (by kernel_rfl) (by kernel_rfl) (by kernel_rfl) (by kernel_rfl) (by kernel_rfl) (by kernel_rfl) (.inl (by kernel_rfl))
theorem s246 {G : FuncId → FF} (hG : ∀ j, Sound cx j (G j)) : Sound cx 246 (t246 G) :=
  sound_fnQ okC hG (f := 246) (fn := Tryz.f246) (c := bodyOf Tryz.f246) (by kernel_rfl) (by kernel_rfl) (by decide) (by kernel_rfl) (by kernel_rfl) (by kernel_rfl) (by kernel_rfl) (by kernel_rfl) (by kernel_rfl) (.inl (by kernel_rfl))
theorem s247 {G : FuncId → FF} (hG : ∀ j, Sound cx j (G j)) : Sound cx 247 (t247 G) :=
  sound_fnQ okC hG (f := 247) (fn := Tryz.f247) (c := bodyOf Tryz.f247) (by kernel_rfl) (by kernel_rfl) (by decide) (by kernel_rfl) (by kernel_rfl) (by kernel_rfl) (by kernel_rfl) (by kernel_rfl) (by kernel_rfl) (.inl (by kernel_rfl))
theorem s248 {G : FuncId → FF} (hG : ∀ j, Sound cx j (G j)) : Sound cx 248 (t248 G) :=
  sound_fnQ okC hG (f := 248) (fn := Tryz.f248) (c := bodyOf Tryz.f248) (by kernel_rfl) (by kernel_rfl) (by decide) (by kernel_rfl) (by kernel_rfl) (by kernel_rfl) (by kernel_rfl) (by kernel_rfl) (by kernel_rfl) (.inl (by kernel_rfl))
theorem okM249 : (mkMap (sq1 (dropS 7 (bodyOf Tryz.f249)))).OK cx.P Tryz.f249.ntmps := by
  refine ⟨(by kernel_rfl), ⟨(by kernel_rfl), (by kernel_rfl), (by kernel_rfl)⟩, ⟨(by kernel_rfl), (by kernel_rfl), (by kernel_rfl)⟩, ⟨(by kernel_rfl), (by kernel_rfl), (by kernel_rfl)⟩, (by kernel_rfl), ⟨(by kernel_rfl), (by kernel_rfl), (by kernel_rfl)⟩, ⟨3, 188, (by kernel_rfl)⟩, (by kernel_rfl), (by kernel_rfl), (by kernel_rfl), (by kernel_rfl), (by kernel_rfl), ⟨Nat.le_of_ble_eq_true (by kernel_rfl), Nat.le_of_ble_eq_true (by kernel_rfl), Nat.le_of_ble_eq_true (by kernel_rfl), Nat.le_of_ble_eq_true (by kernel_rfl)⟩, ⟨Nat.ne_of_beq_eq_false (by kernel_rfl), Nat.ne_of_beq_eq_false (by kernel_rfl), Nat.ne_of_beq_eq_false (by kernel_rfl), Nat.ne_of_beq_eq_false (by kernel_rfl)⟩⟩
theorem s249 {G : FuncId → FF} (hG : ∀ j, Sound cx j (G j)) : Sound cx 249 (t249 G) :=
  sound_mr okC hG (f := 249) (fn := Tryz.f249) (by kernel_rfl) (by kernel_rfl) (by decide) okM249 (by kernel_rfl) (by kernel_rfl) (by kernel_rfl) (by kernel_rfl) (by kernel_rfl) (by kernel_rfl) (by kernel_rfl)
theorem s250 {G : FuncId → FF} (hG : ∀ j, Sound cx j (G j)) : Sound cx 250 (t250 G) :=
  sound_fnQ okC hG (f := 250) (fn := Tryz.f250) (c := bodyOf Tryz.f250) (by kernel_rfl) (by kernel_rfl) (by decide) (by kernel_rfl) (by kernel_rfl) (by kernel_rfl) (by kernel_rfl) (by kernel_rfl) (by kernel_rfl) (.inl (by kernel_rfl))
theorem s251 {G : FuncId → FF} (hG : ∀ j, Sound cx j (G j)) : Sound cx 251 (t251 G) :=
  sound_fnQ okC hG (f := 251) (fn := Tryz.f251) (c := bodyOf Tryz.f251) (by kernel_rfl) (by kernel_rfl) (by decide) (by kernel_rfl) (by kernel_rfl) (by kernel_rfl) (by kernel_rfl) (by kernel_rfl) (by kernel_rfl) (.inl (by kernel_rfl))
theorem s252 {G : FuncId → FF} (hG : ∀ j, Sound cx j (G j)) : Sound cx 252 (t252 G) :=
  sound_fnQ okC hG (f := 252) (fn := Tryz.f252) (c := bodyOf Tryz.f252) (by kernel_rfl) (by kernel_rfl) (by decide) (by kernel_rfl) (by kernel_rfl) (by kernel_rfl) (by kernel_rfl) (by kernel_rfl) (by kernel_rfl) (.inl (by kernel_rfl))
theorem s253 {G : FuncId → FF} (hG : ∀ j, Sound cx j (G j)) : Sound cx 253 (t253 G) :=
  sound_fnQ okC hG (f := 253) (fn := Tryz.f253) (c := bodyOf Tryz.f253) (by kernel_rfl) (by kernel_rfl) (by decide) (by kernel_rfl) (by kernel_rfl) (by kernel_rfl) (by kernel_rfl) (by kernel_rfl) (by kernel_rfl) (.inl (by kernel_rfl))
theorem s254 {G : FuncId → FF} (hG : ∀ j, Sound cx j (G j)) : Sound cx 254 (t254 G) :=
  sound_fnQ okC hG (f := 254) (fn := Tryz.f254) (c := bodyOf Tryz.f254) (by kernel_rfl) (by kernel_rfl) (by decide) (by kernel_rfl) (by kernel_rfl) (by kernel_rfl) (by kernel_rfl) (by kernel_rfl) (by kernel_rfl) (.inl (by kernel_rfl))
theorem s255 {G : FuncId → FF} (hG : ∀ j, Sound cx j (G j)) : Sound cx 255 (t255 G) :=
  sound_fnQ okC hG (f := 255) (fn := Tryz.f255) (c := bodyOf Tryz.f255) (by kernel_rfl) (by kernel_rfl) (by decide) (by kernel_rfl) (by kernel_rfl) (by kernel_rfl) (by kernel_rfl) (by kernel_rfl) (by kernel_rfl) (.inl (by kernel_rfl))
theorem s256 {G : FuncId → FF} (hG : ∀ j, Sound cx j (G j)) : Sound cx 256 (t256 G) :=
  sound_fnQ okC hG (f := 256) (fn := Tryz.f256) (c := bodyOf Tryz.f256) (by kernel_rfl) (by kernel_rfl) (by decide) (by kernel_rfl) (by kernel_rfl) (by kernel_rfl) (by kernel_rfl) (by kernel_rfl) (by kernel_rfl) (.inl (by kernel_rfl))
theorem s257 {G : FuncId → FF} (hG : ∀ j, Sound cx j (G j)) : Sound cx 257 (t257 G) :=
  sound_fnQ okC hG (f := 257) (fn := Tryz.f257) (c := bodyOf Tryz.f257) (by kernel_rfl) (by kernel_rfl) (by decide) (by kernel_rfl) (by kernel_rfl) (by kernel_rfl) (by kernel_rfl) (by kernel_rfl) (by kernel_rfl) (.inl (by kernel_rfl))
theorem s258 {G : FuncId → FF} (hG : ∀ j, Sound cx j (G j)) : Sound cx 258 (t258 G) :=
  sound_fnQ okC hG (f := 258) (fn := Tryz.f258) (c := bodyOf Tryz.f258) (by kernel_rfl) (by kernel_rfl) (by decide) (by kernel_rfl) (by kernel_rfl) (by kernel_rfl) (by kernel_rfl) (by kernel_rfl) (by kernel_rfl) (.inl (by kernel_rfl))
theorem s259 {G : FuncId → FF} (hG : ∀ j, Sound cx j (G j)) : Sound cx 259 (t259 G) :=
  sound_fnQ okC hG (f := 259) (fn := Tryz.f259) (c := bodyOf Tryz.f259) (by kernel_rfl) (by kernel_rfl) (by decide) (by kernel_rfl) (by kernel_rfl) (by kernel_rfl) (by kernel_rfl) (by kernel_rfl) (by kernel_rfl) (.inl (by kernel_rfl))
theorem s260 {G : FuncId → FF} (hG : ∀ j, Sound cx j (G j)) : Sound cx 260 (t260 G) :=
  sound_fnQ okC hG (f := 260) (fn := Tryz.f260) (c := bodyOf Tryz.f260) (by kernel_rfl) (by kernel_rfl) (by decide) (by kernel_rfl) (by kernel_rfl) (by kernel_rfl) (by kernel_rfl) (by kernel_rfl) (by kernel_rfl) (.inl (by kernel_rfl))
theorem okM261 : (mkMap (sq1 (dropS 3 (bodyOf Tryz.f261)))).OK cx.P Tryz.f261.ntmps := by
  refine ⟨(by kernel_rfl), ⟨(by kernel_rfl), (by kernel_rfl), (by kernel_rfl)⟩, ⟨(by kernel_rfl), (by kernel_rfl), (by kernel_rfl)⟩, ⟨(by kernel_rfl), (by kernel_rfl), (by kernel_rfl)⟩, (by kernel_rfl), ⟨(by kernel_rfl), (by kernel_rfl), (by kernel_rfl)⟩, ⟨3, 290, (by kernel_rfl)⟩, (by kernel_rfl), (by kernel_rfl), (by kernel_rfl), (by kernel_rfl), (by kernel_rfl), ⟨Nat.le_of_ble_eq_true (by kernel_rfl), Nat.le_of_ble_eq_true (by kernel_rfl), Nat.le_of_ble_eq_true (by kernel_rfl), Nat.le_of_ble_eq_true (by kernel_rfl)⟩, ⟨Nat.ne_of_beq_eq_false (by kernel_rfl), Nat.ne_of_beq_eq_false (by kernel_rfl), Nat.ne_of_beq_eq_false (by kernel_rfl), Nat.ne_of_beq_eq_false (by kernel_rfl)⟩⟩
theorem s261 {G : FuncId → FF} (hG : ∀ j, Sound cx j (G j)) : Sound cx 261 (t261 G) :=
  sound_mr okC hG (f := 261) (fn := Tryz.f261) (by kernel_rfl) (by kernel_rfl) (by decide) okM261 (by kernel_rfl) (by kernel_rfl) (by kernel_rfl) (by kernel_rfl) (by kernel_rfl) (by kernel_rfl) (by kernel_rfl)
theorem s262 {G : FuncId → FF} (hG : ∀ j, Sound cx j (G j)) : Sound cx 262 (t262 G) :=
  sound_fnQ okC hG (f := 262) (fn := Tryz.f262) (c := bodyOf Tryz.f262) (by kernel_rfl) (by kernel_rfl) (by decide) (by kernel_rfl) (by kernel_rfl) (by kernel_rfl) (by kernel_rfl) (by kernel_rfl) (by kernel_rfl) (.inl (by kernel_rfl))
theorem s263 {G : FuncId → FF} (hG : ∀ j, Sound cx j (G j)) : Sound cx 263 (t263 G) :=
  sound_fnQ okC hG (f := 263) (fn := Tryz.f263) (c := bodyOf Tryz.f263) (by kernel_rfl) (by kernel_rfl) (by decide) (by kernel_rfl) (by kernel_rfl) (by kernel_rfl) (by kernel_rfl) (by kernel_rfl) (by kernel_rfl) (.inl (by kernel_rfl))
theorem s264 {G : FuncId → FF} (hG : ∀ j, Sound cx j (G j)) : Sound cx 264 (t264 G) :=
  sound_fnQ okC hG (f := 264) (fn := Tryz.f264) (c := bodyOf Tryz.f264) (by kernel_rfl) (by kernel_rfl) (by decide) (by kernel_rfl) (by kernel_rfl) (by kernel_rfl) (by kernel_rfl) (by kernel_rfl) (by kernel_rfl) (.inl (by kernel_rfl))
theorem s265 {G : FuncId → FF} (hG : ∀ j, Sound cx j (G j)) : Sound cx 265 (t265 G) :=
  sound_fnQ okC hG (f := 265) (fn := Tryz.f265) (c := bodyOf Tryz.f265) (by kernel_rfl) (by kernel_rfl) (by decide) (by kernel_rfl) (by kernel_rfl) (by kernel_rfl) (by kernel_rfl) (by kernel_rfl) (by kernel_rfl) (.inl (by kernel_rfl))
theorem s266 {G : FuncId → FF} (hG : ∀ j, Sound cx j (G j)) : Sound cx 266 (t266 G) :=
  sound_fnQ okC hG (f := 266) (fn := Tryz.f266) (c := bodyOf Tryz.f266) (by kernel_rfl) (by kernel_rfl) (by decide) (by kernel_rfl) (by kernel_rfl) (by kernel_rfl) (by kernel_rfl) (by kernel_rfl) (by kernel_rfl) (.inl (by kernel_rfl))
theorem s267 {G : FuncId → FF} (hG : ∀ j, Sound cx j (G j)) : Sound cx 267 (t267 G) :=
  sound_fnQ okC hG (f := 267) (fn := Tryz.f267) (c := bodyOf Tryz.f267) (by kernel_rfl) (by kernel_rfl) (by decide) (by kernel_rfl) (by kernel_rfl) (by kernel_rfl) (by kernel_rfl) (by kernel_rfl) (by kernel_rfl) (.inl (by kernel_rfl))
theorem s268 {G : FuncId → FF} (hG : ∀ j, Sound cx j (G j)) : Sound cx 268 (t268 G) :=
  sound_fnQ okC hG (f := 268) (fn := Tryz.f268) (c := bodyOf Tryz.f268) (by kernel_rfl) (by kernel_rfl) (by decide) (by kernel_rfl) (by kernel_rfl) (by kernel_rfl) (by kernel_rfl) (by kernel_rfl) (by kernel_rfl) (.inl (by kernel_rfl))
theorem s269 {G : FuncId → FF} (hG : ∀ j, Sound cx j (G j)) : Sound cx 269 (t269 G) :=
  sound_fnQ okC hG (f := 269) (fn := Tryz.f269) (c := bodyOf Tryz.f269) (by kernel_rfl) (by kernel_rfl) (by decide) (by kernel_rfl) (by kernel_rfl) (by kernel_rfl) (by kernel_rfl) (by kernel_rfl) (by kernel_rfl) (.inl (by kernel_rfl))
theorem s270 {G : FuncId → FF} (hG : ∀ j, Sound cx j (G j)) : Sound cx 270 (t270 G) :=
  sound_fnQ okC hG (f := 270) (fn := Tryz.f270) (c := bodyOf Tryz.f270) (by kernel_rfl) (by kernel_rfl) (by decide) (by kernel_rfl) (by kernel_rfl) (by kernel_rfl) (by kernel_rfl) (by kernel_rfl) (by kernel_rfl) (.inl (by kernel_rfl))
theorem s271 {G : FuncId → FF} (hG : ∀ j, Sound cx j (G j)) : Sound cx 271 (t271 G) :=
  sound_fnQ okC hG (f := 271) (fn := Tryz.f271) (c := bodyOf Tryz.f271) (by kernel_rfl) (by kernel_rfl) (by decide) (by kernel_rfl) (by kernel_rfl) (by kernel_rfl) (by kernel_rfl) (by kernel_rfl) (by kernel_rfl) (.inl (by kernel_rfl))
theorem s272 {G : FuncId → FF} (hG : ∀ j, Sound cx j (G j)) : Sound cx 272 (t272 G) :=
  sound_fnQ okC hG (f := 272) (fn := Tryz.f272) (c := bodyOf Tryz.f272) (by kernel_rfl) (by kernel_rfl) (by decide) (by kernel_rfl) (by kernel_rfl) (by kernel_rfl) (by kernel_rfl) (by kernel_rfl) (by kernel_rfl) (.inl (by kernel_rfl))
theorem s273 {G : FuncId → FF} (hG : ∀ j, Sound cx j (G j)) : Sound cx 273 (t273 G) :=
  sound_fnQ okC hG (f := 273) (fn := Tryz.f273) (c := bodyOf Tryz.f273) (by kernel_rfl) (by kernel_rfl) (by decide) (by kernel_rfl) (by kernel_rfl) (by kernel_rfl) (by kernel_rfl) (by kernel_rfl) (by kernel_rfl) (.inl (by kernel_rfl))
theorem s274 {G : FuncId → FF} (hG : ∀ j, Sound cx j (G j)) : Sound cx 274 (t274 G) :=
  sound_fnQ okC hG (f := 274) (fn := Tryz.f274) (c := bodyOf Tryz.f274) (by kernel_rfl) (by kernel_rfl) (by decide) (by kernel_rfl) (by kernel_rfl) (by kernel_rfl) (by kernel_rfl) (by kernel_rfl) (by kernel_rfl) (.inl (by kernel_rfl))
theorem s275 {G : FuncId → FF} (hG : ∀ j, Sound cx j (G j)) : Sound cx 275 (t275 G) :=
  sound_fnQ okC hG (f := 275) (fn := Tryz.f275) (c := bodyOf Tryz.f275) (by kernel_rfl) (by kernel_rfl) (by decide) (by kernel_rfl) (by kernel_rfl) (by kernel_rfl) (by kernel_rfl) (by kernel_rfl) (by kernel_rfl) (.inl (by kernel_rfl))
theorem s276 {G : FuncId → FF} (hG : ∀ j, Sound cx j (G j)) : Sound cx 276 (t276 G) :=
  sound_fnQ okC hG (f := 276) (fn := Tryz.f276) (c := bodyOf Tryz.f276) (by kernel_rfl) (by kernel_rfl) (by decide) (by kernel_rfl) (by kernel_rfl) (by kernel_rfl) (by kernel_rfl) (by kernel_rfl) (by kernel_rfl) (.inl (by kernel_rfl))
theorem s277 {G : FuncId → FF} (hG : ∀ j, Sound cx j (G j)) : Sound cx 277 (t277 G) :=
  sound_fnQ okC hG (f := 277) (fn := Tryz.f277) (c := bodyOf Tryz.f277) (by kernel_rfl) (by kernel_rfl) (by decide) (by kernel_rfl) (by kernel_rfl) (by kernel_rfl) (by kernel_rfl) (by kernel_rfl) (by kernel_rfl) (.inl (by kernel_rfl))
theorem s278 {G : FuncId → FF} (hG : ∀ j, Sound cx j (G j)) : Sound cx 278 (t278 G) :=
  sound_fnQ okC hG (f := 278) (fn := Tryz.f278) (c := bodyOf Tryz.f278) (by kernel_rfl) (by kernel_rfl) (by decide) (by kernel_rfl) (by kernel_rfl) (by kernel_rfl) (by kernel_rfl) (by kernel_rfl) (by kernel_rfl) (.inl (by kernel_rfl))
theorem s279 {G : FuncId → FF} (hG : ∀ j, Sound cx j (G j)) : Sound cx 279 (t279 G) :=
  sound_fnQ okC hG (f := 279) (fn := Tryz.f279) (c := bodyOf Tryz.f279) (by kernel_rfl) (by kernel_rfl) (by decide) (by kernel_rfl) (by kernel_rfl) (by kernel_rfl) (by kernel_rfl) (by kernel_rfl) (by kernel_rfl) (.inl (by kernel_rfl))
theorem s280 {G : FuncId → FF} (hG : ∀ j, Sound cx j (G j)) : Sound cx 280 (t280 G) :=
  sound_fnQ okC hG (f := 280) (fn := Tryz.f280) (c := bodyOf Tryz.f280) (by kernel_rfl) (by kernel_rfl) (by decide) (by kernel_rfl) (by kernel_rfl) (by kernel_rfl) (by kernel_rfl) (by kernel_rfl) (by kernel_rfl) (.inl (by kernel_rfl))
theorem s281 {G : FuncId → FF} (hG : ∀ j, Sound cx j (G j)) : Sound cx 281 (t281 G) :=
  sound_fnQ okC hG (f := 281) (fn := Tryz.f281) (c := bodyOf Tryz.f281) (by kernel_rfl) (by kernel_rfl) (by decide) (by kernel_rfl) (by kernel_rfl) (by kernel_rfl) (by kernel_rfl) (by kernel_rfl) (by kernel_rfl) (.inl (by kernel_rfl))
theorem s282 {G : FuncId → FF} (hG : ∀ j, Sound cx j (G j)) : Sound cx 282 (t282 G) :=
  sound_fnQ okC hG (f := 282) (fn := Tryz.f282) (c := bodyOf Tryz.f282) (by kernel_rfl) (by kernel_rfl) (by decide) (by kernel_rfl) (by kernel_rfl) (by kernel_rfl) (by kernel_rfl) (by kernel_rfl) (by kernel_rfl) (.inl (by kernel_rfl))
theorem s283 {G : FuncId → FF} (hG : ∀ j, Sound cx j (G j)) : Sound cx 283 (t283 G) :=
  sound_fnQ okC hG (f := 283) (fn := Tryz.f283) (c := bodyOf Tryz.f283) (by kernel_rfl) (by kernel_rfl) (by decide) (by kernel_rfl) (by kernel_rfl) (by kernel_rfl) (by kernel_rfl) (by kernel_rfl) (by kernel_rfl) (.inl (by kernel_rfl))
theorem s284 {G : FuncId → FF} (hG : ∀ j, Sound cx j (G j)) : Sound cx 284 (t284 G) :=
  sound_fnQ okC hG (f := 284) (fn := Tryz.f284) (c := bodyOf Tryz.f284) (by kernel_rfl) (by kernel_rfl) (by decide) (by kernel_rfl) (by kernel_rfl) (by kernel_rfl) (by kernel_rfl) (by kernel_rfl) (by kernel_rfl) (.inl (by kernel_rfl))
theorem s285 {G : FuncId → FF} (hG : ∀ j, Sound cx j (G j)) : Sound cx 285 (t285 G) :=
  sound_fnQ okC hG (f := 285) (fn := Tryz.f285) (c := bodyOf Tryz.f285) (by kernel_rfl) (by kernel_rfl) (by decide) (by kernel_rfl) (by kernel_rfl) (by kernel_rfl) (by kernel_rfl) (by kernel_rfl) (by kernel_rfl) (.inl (by kernel_rfl))
theorem s286 {G : FuncId → FF} (hG : ∀ j, Sound cx j (G j)) : Sound cx 286 (t286 G) :=
  sound_fnQ okC hG (f := 286) (fn := Tryz.f286) (c := bodyOf Tryz.f286) (by kernel_rfl) (by kernel_rfl) (by decide) (by kernel_rfl) (by kernel_rfl) (by kernel_rfl) (by kernel_rfl) (by kernel_rfl) (by kernel_rfl) (.inl (by kernel_rfl))
theorem s287 {G : FuncId → FF} (hG : ∀ j, Sound cx j (G j)) : Sound cx 287 (t287 G) :=
  sound_fnQ okC hG (f := 287) (fn := Tryz.f287) (c := bodyOf Tryz.f287) (by kernel_rfl) (by kernel_rfl) (by decide) (by kernel_rfl) (by kernel_rfl) (by kernel_rfl) (by kernel_rfl) (by kernel_rfl) (by kernel_rfl) (.inl (by kernel_rfl))
theorem s288 {G : FuncId → FF} (hG : ∀ j, Sound cx j (G j)) : Sound cx 288 (t288 G) :=
  sound_fnQ okC hG (f := 288) (fn := Tryz.f288) (c := bodyOf Tryz.f288) (by kernel_rfl) (by kernel_rfl) (by decide) (by kernel_rfl) (by kernel_rfl) (by kernel_rfl) (by kernel_rfl) (by kernel_rfl) (by kernel_rfl) (.inl (by kernel_rfl))
theorem s289 {G : FuncId → FF} (hG : ∀ j, Sound cx j (G j)) : Sound cx 289 (t289 G) :=
  sound_fnQ okC hG (f := 289) (fn := Tryz.f289) (c := bodyOf Tryz.f289) (by kernel_rfl) (by kernel_rfl) (by decide) (by kernel_rfl) (by kernel_rfl) (by kernel_rfl) (by kernel_rfl) (by kernel_rfl) (by kernel_rfl) (.inl (by kernel_rfl))
theorem s290 {G : FuncId → FF} (hG : ∀ j, Sound cx j (G j)) : Sound cx 290 (t290 G) :=
  sound_fnQ okC hG (f := 290) (fn := Tryz.f290) (c := bodyOf Tryz.f290) (by kernel_rfl) (by kernel_rfl) (by decide) (by kernel_rfl) (by kernel_rfl) (by kernel_rfl) (by kernel_rfl) (by kernel_rfl) (by kernel_rfl) (.inl (by kernel_rfl))
theorem s291 {G : FuncId → FF} (hG : ∀ j, Sound cx j (G j)) : Sound cx 291 (t291 G) :=
  sound_fnQ okC hG (f := 291) (fn := Tryz.f291) (c := bodyOf Tryz.f291) (by kernel_rfl) (by kernel_rfl) (by decide) (by kernel_rfl) (by kernel_rfl) (by kernel_rfl) (by kernel_rfl) (by kernel_rfl) (by kernel_rfl) (.inl (by kernel_rfl))
theorem s292 {G : FuncId → FF} (hG : ∀ j, Sound cx j (G j)) : Sound cx 292 (t292 G) :=
  sound_fnQ okC hG (f := 292) (fn := Tryz.f292) (c := bodyOf Tryz.f292) (by kernel_rfl) (by kernel_rfl) (by decide) (by kernel_rfl) (by kernel_rfl) (by kernel_rfl) (by kernel_rfl) (by kernel_rfl) (by kernel_rfl) (.inl (by kernel_rfl))
theorem s293 {G : FuncId → FF} (hG : ∀ j, Sound cx j (G j)) : Sound cx 293 (t293 G) :=
  sound_fnQ okC hG (f := 293) (fn := Tryz.f293) (c := bodyOf Tryz.f293) (by kernel_rfl) (by kernel_rfl) (by decide) (by kernel_rfl) (by kernel_rfl) (by kernel_rfl) (by kernel_rfl) (by kernel_rfl) (by kernel_rfl) (.inl (by kernel_rfl))
theorem s294 {G : FuncId → FF} (hG : ∀ j, Sound cx j (G j)) : Sound cx 294 (t294 G) :=
  sound_fnQ okC hG (f := 294) (fn := Tryz.f294) (c := bodyOf Tryz.f294) (by kernel_rfl) (by kernel_rfl) (by decide) (by kernel_rfl) (by kernel_rfl) (by kernel_rfl) (by kernel_rfl) (by kernel_rfl) (by kernel_rfl) (.inl (by kernel_rfl))
theorem s295 {G : FuncId → FF} (hG : ∀ j, Sound cx j (G j)) : Sound cx 295 (t295 G) :=
  sound_fnQ okC hG (f := 295) (fn := Tryz.f295) (c := bodyOf Tryz.f295) (by kernel_rfl) (by kernel_rfl) (by decide) (by kernel_rfl) (by kernel_rfl) (by kernel_rfl) (by kernel_rfl) (by kernel_rfl) (by kernel_rfl) (.inl (by kernel_rfl))
theorem s296 {G : FuncId → FF} (hG : ∀ j, Sound cx j (G j)) : Sound cx 296 (t296 G) :=
  sound_fnQ okC hG (f := 296) (fn := Tryz.f296) (c := bodyOf Tryz.f296) (by kernel_rfl) (by kernel_rfl) (by decide) (by kernel_rfl) (by kernel_rfl) (by kernel_rfl) (by kernel_rfl) (by kernel_rfl) (by kernel_rfl) (.inl (by kernel_rfl))
theorem s297 {G : FuncId → FF} (hG : ∀ j, Sound cx j (G j)) : Sound cx 297 (t297 G) :=
  sound_fnQ okC hG (f := 297) (fn := Tryz.f297) (c := bodyOf Tryz.f297) (by kernel_rfl) (by kernel_rfl) (by decide) (by kernel_rfl) (by kernel_rfl) (by kernel_rfl) (by kernel_rfl) (by kernel_rfl) (by kernel_rfl) (.inl (by kernel_rfl))
theorem s316 {G : FuncId → FF} (hG : ∀ j, Sound cx j (G j)) : Sound cx 316 (t316 G) :=
  sound_fnQ okC hG (f := 316) (fn := Tryz.f316) (c := bodyOf Tryz.f316) (by kernel_rfl) (by kernel_rfl) (by decide) (by kernel_rfl) (by kernel_rfl) (by kernel_rfl) (by kernel_rfl) (by kernel_rfl) (by kernel_rfl) (.inl (by kernel_rfl))
theorem s317 {G : FuncId → FF} (hG : ∀ j, Sound cx j (G j)) : Sound cx 317 (t317 G) :=
  sound_fnQ okC hG (f := 317) (fn := Tryz.f317) (c := bodyOf Tryz.f317) (by kernel_rfl) (by kernel_rfl) (by decide) (by kernel_rfl) (by kernel_rfl) (by kernel_rfl) (by kernel_rfl) (by kernel_rfl) (by kernel_rfl) (.inl (by kernel_rfl))
theorem s318 {G : FuncId → FF} (hG : ∀ j, Sound cx j (G j)) : Sound cx 318 (t318 G) :=
  sound_fnQ okC hG (f := 318) (fn := Tryz.f318) (c := bodyOf Tryz.f318) (by kernel_rfl) (by kernel_rfl) (by decide) (by kernel_rfl) (by kernel_rfl) (by kernel_rfl) (by kernel_rfl) (by kernel_rfl) (by kernel_rfl) (.inl (by kernel_rfl))
theorem s319 {G : FuncId → FF} (hG : ∀ j, Sound cx j (G j)) : Sound cx 319 (t319 G) :=
  sound_fnQ okC hG (f := 319) (fn := Tryz.f319) (c := bodyOf Tryz.f319) (by kernel_rfl) (by kernel_rfl) (by decide) (by kernel_rfl) (by kernel_rfl) (by kernel_rfl) (by kernel_rfl) (by kernel_rfl) (by kernel_rfl) (.inl (by kernel_rfl))
theorem s320 {G : FuncId → FF} (hG : ∀ j, Sound cx j (G j)) : Sound cx 320 (t320 G) :=
  sound_fnQ okC hG (f := 320) (fn := Tryz.f320) (c := bodyOf Tryz.f320) (by kernel_rfl) (by kernel_rfl) (by decide) (by kernel_rfl) (by kernel_rfl) (by kernel_rfl) (by kernel_rfl) (by kernel_rfl) (by kernel_rfl) (.inl (by kernel_rfl))
theorem s321 {G : FuncId → FF} (hG : ∀ j, Sound cx j (G j)) : Sound cx 321 (t321 G) :=
  sound_fnQ okC hG (f := 321) (fn := Tryz.f321) (c := bodyOf Tryz.f321) (by kernel_rfl) (by kernel_rfl) (by decide) (by kernel_rfl) (by kernel_rfl) (by kernel_rfl) (by kernel_rfl) (by kernel_rfl) (by kernel_rfl) (.inl (by kernel_rfl))
theorem s322 {G : FuncId → FF} (hG : ∀ j, Sound cx j (G j)) : Sound cx 322 (t322 G) :=
  sound_fnQ okC hG (f := 322) (fn := Tryz.f322) (c := bodyOf Tryz.f322) (by kernel_rfl) (by kernel_rfl) (by decide) (by kernel_rfl) (by kernel_rfl) (by kernel_rfl) (by kernel_rfl) (by kernel_rfl) (by kernel_rfl) (.inl (by kernel_rfl))
theorem s323 {G : FuncId → FF} (hG : ∀ j, Sound cx j (G j)) : Sound cx 323 (t323 G) :=
  sound_fnQ okC hG (f := 323) (fn := Tryz.f323) (c := bodyOf Tryz.f323) (by kernel_rfl) (by kernel_rfl) (by decide) (by kernel_rfl) (by kernel_rfl) (by kernel_rfl) (by kernel_rfl) (by kernel_rfl) (by kernel_rfl) (.inl (by kernel_rfl))
theorem s324 {G : FuncId → FF} (hG : ∀ j, Sound cx j (G j)) : Sound cx 324 (t324 G) :=
  sound_fnQ okC hG (f := 324) (fn := Tryz.f324) (c := bodyOf Tryz.f324) (by kernel_rfl) (by kernel_rfl) (by decide) (by kernel_rfl) (by kernel_rfl) (by kernel_rfl) (by kernel_rfl) (by kernel_rfl) (by kernel_rfl) (.inl (by kernel_rfl))
theorem s325 {G : FuncId → FF} (hG : ∀ j, Sound cx j (G j)) : Sound cx 325 (t325 G) :=
  sound_fnQ okC hG (f := 325) (fn := Tryz.f325) (c := bodyOf Tryz.f325) (by kernel_rfl) (by kernel_rfl) (by decide) (by kernel_rfl) (by kernel_rfl) (by kernel_rfl) (by kernel_rfl) (by kernel_rfl) (by kernel_rfl) (.inl (by kernel_rfl))
theorem s326 {G : FuncId → FF} (hG : ∀ j, Sound cx j (G j)) : Sound cx 326 (t326 G) :=
  sound_fnQ okC hG (f := 326) (fn := Tryz.f326) (c := bodyOf Tryz.f326) (by kernel_rfl) (by kernel_rfl) (by decide) (by kernel_rfl) (by kernel_rfl) (by kernel_rfl) (by kernel_rfl) (by kernel_rfl) (by kernel_rfl) (.inl (by kernel_rfl))
theorem s327 {G : FuncId → FF} (hG : ∀ j, Sound cx j (G j)) : Sound cx 327 (t327 G) :=
  sound_fnQ okC hG (f := 327) (fn := Tryz.f327) (c := bodyOf Tryz.f327) (by kernel_rfl) (by kernel_rfl) (by decide) (by kernel_rfl) (by kernel_rfl) (by kernel_rfl) (by kernel_rfl) (by kernel_rfl) (by kernel_rfl) (.inl (by kernel_rfl))
theorem s328 {G : FuncId → FF} (hG : ∀ j, Sound cx j (G j)) : Sound cx 328 (t328 G) :=
  sound_fnQ okC hG (f := 328) (fn := Tryz.f328) (c := bodyOf Tryz.f328) (by kernel_rfl) (by kernel_rfl) (by decide) (by kernel_rfl) (by kernel_rfl) (by kernel_rfl) (by kernel_rfl) (by kernel_rfl) (by kernel_rfl) (.inl (by kernel_rfl))
theorem s329 {G : FuncId → FF} (hG : ∀ j, Sound cx j (G j)) : Sound cx 329 (t329 G) :=
  sound_fnQ okC hG (f := 329) (fn := Tryz.f329) (c := bodyOf Tryz.f329) (by kernel_rfl) (by kernel_rfl) (by decide) (by kernel_rfl) (by kernel_rfl) (by kernel_rfl) (by kernel_rfl) (by kernel_rfl) (by kernel_rfl) (.inl (by kernel_rfl))
theorem s330 {G : FuncId → FF} (hG : ∀ j, Sound cx j (G j)) : Sound cx 330 (t330 G) :=
  sound_fnQ okC hG (f := 330) (fn := Tryz.f330) (c := bodyOf Tryz.f330) (by kernel_rfl) (by kernel_rfl) (by decide) (by kernel_rfl) (by kernel_rfl) (by kernel_rfl) (by kernel_rfl) (by kernel_rfl) (by kernel_rfl) (.inl (by kernel_rfl))
theorem s337 {G : FuncId → FF} (hG : ∀ j, Sound cx j (G j)) : Sound cx 337 (t337 G) :=
  sound_fnQ okC hG (f := 337) (fn := Tryz.f337) (c := bodyOf Tryz.f337) (by kernel_rfl) (by kernel_rfl) (by decide) (by kernel_rfl) (by kernel_rfl) (by kernel_rfl) (by kernel_rfl) (by kernel_rfl) (by kernel_rfl) (.inl (by kernel_rfl))
theorem tab_sound {G : FuncId → FF} (hG : ∀ j, Sound cx j (G j)) : ∀ k, Sound cx k (lkF k tab G) :=
  sound_cons (s2 hG) (
  sound_cons (s3 hG) (
  sound_cons (s4 hG) (
  sound_cons (s5 hG) (
  sound_cons (s6 hG) (
  sound_cons (s7 hG) (
  sound_cons (s8 hG) (
  sound_cons (s9 hG) (
  sound_cons (s10 hG) (
  sound_cons (s11 hG) (
  sound_cons (s12 hG) (
  sound_cons (s13 hG) (
  sound_cons (s14 hG) (
  sound_cons (s15 hG) (
  sound_cons (s16 hG) (
  sound_cons (s17 hG) (
  sound_cons (s18 hG) (
  sound_cons (s19 hG) (
  sound_cons (s20 hG) (
  sound_cons (s21 hG) (
  sound_cons (s22 hG) (
  sound_cons (s23 hG) (
  sound_cons (s24 hG) (
  sound_cons (s25 hG) (
  sound_cons (s26 hG) (
  sound_cons (s27 hG) (
  sound_cons (s28 hG) (
  sound_cons (s29 hG) (
  sound_cons (s30 hG) (
  sound_cons (s31 hG) (
  sound_cons (s32 hG) (
  sound_cons (s33 hG) (
  sound_cons (s34 hG) (
  sound_cons (s35 hG) (
  sound_cons (s36 hG) (
  sound_cons (s37 hG) (
  sound_cons (s38 hG) (
  sound_cons (s39 hG) (
  sound_cons (s40 hG) (
  sound_cons (s41 hG) (
  sound_cons (s42 hG) (
  sound_cons (s43 hG) (
  sound_cons (s44 hG) (
  sound_cons (s45 hG) (
  sound_cons (s46 hG) (
  sound_cons (s47 hG) (
  sound_cons (s48 hG) (
  sound_cons (s49 hG) (
  sound_cons (s50 hG) (
  sound_cons (s51 hG) (
  sound_cons (s52 hG) (
  sound_cons (s53 hG) (
  sound_cons (s54 hG) (
  sound_cons (s55 hG) (
  sound_cons (s56 hG) (
  sound_cons (s57 hG) (
  sound_cons (s58 hG) (
  sound_cons (s59 hG) (
  sound_cons (s60 hG) (
  sound_cons (s61 hG) (
  sound_cons (s62 hG) (
  sound_cons (s63 hG) (
  sound_cons (s64 hG) (
  sound_cons (s65 hG) (
  sound_cons (s66 hG) (
  sound_cons (s67 hG) (
  sound_cons (s68 hG) (
  sound_cons (s69 hG) (
  sound_cons (s70 hG) (
  sound_cons (s71 hG) (
  sound_cons (s72 hG) (
  sound_cons (s73 hG) (
  sound_cons (s74 hG) (
  sound_cons (s75 hG) (
  sound_cons (s76 hG) (
  sound_cons (s77 hG) (
  sound_cons (s78 hG) (
  sound_cons (s79 hG) (
  sound_cons (s80 hG) (
  sound_cons (s81 hG) (
  sound_cons (s82 hG) (
  sound_cons (s83 hG) (
  sound_cons (s84 hG) (
  sound_cons (s85 hG) (
  sound_cons (s86 hG) (
  sound_cons (s87 hG) (
  sound_cons (s88 hG) (
  sound_cons (s89 hG) (
  sound_cons (s90 hG) (
  sound_cons (s91 hG) (
  sound_cons (s92 hG) (
  sound_cons (s93 hG) (
  sound_cons (s94 hG) (
  sound_cons (s95 hG) (
  sound_cons (s96 hG) (
  sound_cons (s97 hG) (
  sound_cons (s98 hG) (
  sound_cons (s99 hG) (
  sound_cons (s100 hG) (
  sound_cons (s101 hG) (
  sound_cons (s102 hG) (
  sound_cons (s103 hG) (
  sound_cons (s104 hG) (
  sound_cons (s105 hG) (
  sound_cons (s106 hG) (
  sound_cons (s107 hG) (
  sound_cons (s108 hG) (
  sound_cons (s109 hG) (
  sound_cons (s110 hG) (
  sound_cons (s111 hG) (
  sound_cons (s112 hG) (
  sound_cons (s113 hG) (
  sound_cons (s114 hG) (
  sound_cons (s115 hG) (
  sound_cons (s116 hG) (
  sound_cons (s117 hG) (
  sound_cons (s118 hG) (
  sound_cons (s119 hG) (
  sound_cons (s120 hG) (
  sound_cons (s121 hG) (
  sound_cons (s122 hG) (
  sound_cons (s123 hG) (
  sound_cons (s124 hG) (
  sound_cons (s125 hG) (
  sound_cons (s126 hG) (
  sound_cons (s127 hG) (
  sound_cons (s128 hG) (
  sound_cons (s129 hG) (
  sound_cons (s130 hG) (
  sound_cons (s131 hG) (
  sound_cons (s132 hG) (
  sound_cons (s133 hG) (
  sound_cons (s134 hG) (
  sound_cons (s135 hG) (
  sound_cons (s136 hG) (
  sound_cons (s137 hG) (
  sound_cons (s138 hG) (
  sound_cons (s139 hG) (
  sound_cons (s140 hG) (
  sound_cons (s141 hG) (
  sound_cons (s142 hG) (
  sound_cons (s143 hG) (
  sound_cons (s144 hG) (
  sound_cons (s145 hG) (
  sound_cons (s146 hG) (
  sound_cons (s147 hG) (
  sound_cons (s148 hG) (
  sound_cons (s149 hG) (
  sound_cons (s150 hG) (
  sound_cons (s151 hG) (
  sound_cons (s152 hG) (
  sound_cons (s153 hG) (
  sound_cons (s154 hG) (
  sound_cons (s155 hG) (
  sound_cons (s156 hG) (
  sound_cons (s157 hG) (
  sound_cons (s158 hG) (
  sound_cons (s159 hG) (
  sound_cons (s160 hG) (
  sound_cons (s161 hG) (
  sound_cons (s162 hG) (
  sound_cons (s163 hG) (
  sound_cons (s164 hG) (
  sound_cons (s165 hG) (
  sound_cons (s166 hG) (
  sound_cons (s167 hG) (
  sound_cons (s168 hG) (
  sound_cons (s169 hG) (
  sound_cons (s170 hG) (
  sound_cons (s171 hG) (
  sound_cons (s172 hG) (
  sound_cons (s173 hG) (
  sound_cons (s174 hG) (
  sound_cons (s175 hG) (
  sound_cons (s176 hG) (
  sound_cons (s177 hG) (
  sound_cons (s178 hG) (
  sound_cons (s179 hG) (
  sound_cons (s180 hG) (
  sound_cons (s181 hG) (
  sound_cons (s182 hG) (
  sound_cons (s183 hG) (
  sound_cons (s184 hG) (
  sound_cons (s185 hG) (
  sound_cons (s186 hG) (
  sound_cons (s187 hG) (
  sound_cons (s188 hG) (
  sound_cons (s189 hG) (
  sound_cons (s190 hG) (
  sound_cons (s191 hG) (
  sound_cons (s192 hG) (
  sound_cons (s193 hG) (
  sound_cons (s194 hG) (
  sound_cons (s195 hG) (
  sound_cons (s196 hG) (
  sound_cons (s197 hG) (
  sound_cons (s198 hG) (
  sound_cons (s199 hG) (
  sound_cons (s200 hG) (
  sound_cons (s201 hG) (
  sound_cons (s202 hG) (
  sound_cons (s203 hG) (
  sound_cons (s204 hG) (
  sound_cons (s205 hG) (
  sound_cons (s206 hG) (
  sound_cons (s207 hG) (
  sound_cons (s208 hG) (
  sound_cons (s209 hG) (
  sound_cons (s210 hG) (
  sound_cons (s211 hG) (
  sound_cons (s212 hG) (
  sound_cons (s213 hG) (
  sound_cons (s214 hG) (
  sound_cons (s215 hG) (
  sound_cons (s216 hG) (
  sound_cons (s217 hG) (
  sound_cons (s218 hG) (
  sound_cons (s219 hG) (
  sound_cons (s220 hG) (
  sound_cons (s221 hG) (
  sound_cons (s222 hG) (
  sound_cons (s223 hG) (
  sound_cons (s224 hG) (
  sound_cons (s225 hG) (
  sound_cons (s226 hG) (
  sound_cons (s227 hG) (
  sound_cons (s228 hG) (
  sound_cons (s229 hG) (
  sound_cons (s230 hG) (
  sound_cons (s231 hG) (
  sound_cons (s232 hG) (
  sound_cons (s233 hG) (
  sound_cons (s234 hG) (
  sound_cons (s235 hG) (
  sound_cons (s236 hG) (
  sound_cons (s237 hG) (
  sound_cons (s238 hG) (
  sound_cons (s239 hG) (
  sound_cons (s240 hG) (
  sound_cons (s241 hG) (
  sound_cons (s242 hG) (
  sound_cons (s243 hG) (
  sound_cons (s244 hG) (
  sound_cons (s245 hG) (
  sound_cons (s246 hG) (
  sound_cons (s247 hG) (
  sound_cons (s248 hG) (
  sound_cons (s249 hG) (
  sound_cons (s250 hG) (
  sound_cons (s251 hG) (
  sound_cons (s252 hG) (
  sound_cons (s253 hG) (
  sound_cons (s254 hG) (
  sound_cons (s255 hG) (
  sound_cons (s256 hG) (
  sound_cons (s257 hG) (
  sound_cons (s258 hG) (
  sound_cons (s259 hG) (
  sound_cons (s260 hG) (
  sound_cons (s261 hG) (
  sound_cons (s262 hG) (
  sound_cons (s263 hG) (
  sound_cons (s264 hG) (
  sound_cons (s265 hG) (
  sound_cons (s266 hG) (
  sound_cons (s267 hG) (
  sound_cons (s268 hG) (
  sound_cons (s269 hG) (
  sound_cons (s270 hG) (
  sound_cons (s271 hG) (
  sound_cons (s272 hG) (
  sound_cons (s273 hG) (
  sound_cons (s274 hG) (
  sound_cons (s275 hG) (
  sound_cons (s276 hG) (
  sound_cons (s277 hG) (
  sound_cons (s278 hG) (
  sound_cons (s279 hG) (
  sound_cons (s280 hG) (
  sound_cons (s281 hG) (
  sound_cons (s282 hG) (
  sound_cons (s283 hG) (
  sound_cons (s284 hG) (
  sound_cons (s285 hG) (
  sound_cons (s286 hG) (
  sound_cons (s287 hG) (
  sound_cons (s288 hG) (
  sound_cons (s289 hG) (
  sound_cons (s290 hG) (
  sound_cons (s291 hG) (
  sound_cons (s292 hG) (
  sound_cons (s293 hG) (
  sound_cons (s294 hG) (
  sound_cons (s295 hG) (
  sound_cons (s296 hG) (
  sound_cons (s297 hG) (
  sound_cons (s316 hG) (
  sound_cons (s317 hG) (
  sound_cons (s318 hG) (
  sound_cons (s319 hG) (
  sound_cons (s320 hG) (
  sound_cons (s321 hG) (
  sound_cons (s322 hG) (
  sound_cons (s323 hG) (
  sound_cons (s324 hG) (
  sound_cons (s325 hG) (
  sound_cons (s326 hG) (
  sound_cons (s327 hG) (
  sound_cons (s328 hG) (
  sound_cons (s329 hG) (
  sound_cons (s330 hG) (
  sound_cons (s337 hG) (
  sound_nil))))))))))))))))))))))))))))))))))))))))))))))))))))))))))))))))))))))))))))))))))))))))))))))))))))))))))))))))))))))))))))))))))))))))))))))))))))))))))))))))))))))))))))))))))))))))))))))))))))))))))))))))))))))))))))))))))))))))))))))))))))))))))))))))))))))))))))))))))))))))))))))))))))))))))))))))))))))))
end Go.Vm
