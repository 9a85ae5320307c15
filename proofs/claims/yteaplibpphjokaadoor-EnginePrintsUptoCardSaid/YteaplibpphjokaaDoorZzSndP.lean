/- Part of a proof: ZzSndP. -/
import Derived.Test.YteaplibpphjokaaDoorZzL10
import Derived.KernelRfl
set_option linter.unusedSimpArgs false
set_option linter.unusedVariables false
set_option linter.unusedSectionVars false
namespace Go.Vm
open Go Go.Proofs
set_option maxRecDepth 100000
theorem okC : OkC cx := by
  refine ⟨Nat.le_refl _, fun gi cs h => ?_, by kernel_rfl, fun f cs xs h => by cases h⟩
  have h : globs gi = some cs := h
  unfold globs at h
  split at h
  · injection h with h; rw [← h]; rfl
  · cases h
theorem bif_cons {C : Cx} {S : Nat → Sp} {i : Nat} {p : Sp} (h : Sound C i p.sem) (hr : ∀ j, Sound C j (S j).sem) : ∀ j, Sound C j (bif Nat.beq j i then p else S j).sem := by
  intro j
  cases e : Nat.beq j i with
  | true => rw [Nat.eq_of_beq_eq_true e]; exact h
  | false => exact hr j
theorem spN_all {C : Cx} : ∀ j, Sound C j ((fun _ => spN) j).sem := fun j => sound_spN
theorem tab18 : ∀ j, Sound cx j (S18 j).sem := spN_all
theorem raw18 : Sound cx 18 f18_sem := by
  unfold f18_sem
  rw [semU_eq]
  exact sound_fn okC tab18 (f := 18) (fn := Tryd.f18) (c := bodyOf Tryd.f18) (by kernel_rfl) (by kernel_rfl) (by decide) (by kernel_rfl) (by kernel_rfl) (by kernel_rfl) (by kernel_rfl) (by kernel_rfl) (by kernel_rfl) (.inl (by kernel_rfl))
theorem sound18 : Sound cx 18 sp18.sem := Sound.pure0 (by kernel_rfl) (by kernel_rfl) raw18 fun l h => sp18_ok l h
theorem tab33 : ∀ j, Sound cx j (S33 j).sem := spN_all
theorem raw33 : Sound cx 33 f33_sem := by
  unfold f33_sem
  rw [semU_eq]
  exact sound_fn okC tab33 (f := 33) (fn := Tryd.f33) (c := bodyOf Tryd.f33) (by kernel_rfl) (by kernel_rfl) (by decide) (by kernel_rfl) (by kernel_rfl) (by kernel_rfl) (by kernel_rfl) (by kernel_rfl) (by kernel_rfl) (.inl (by kernel_rfl))
theorem sound33 : Sound cx 33 sp33.sem := Sound.pure0 (by kernel_rfl) (by kernel_rfl) raw33 fun l h => sp33_ok l h
theorem tab30 : ∀ j, Sound cx j (S30 j).sem := spN_all
theorem raw30 : Sound cx 30 f30_sem := by
  unfold f30_sem
  rw [semU_eq]
  exact sound_fn okC tab30 (f := 30) (fn := Tryd.f30) (c := bodyOf Tryd.f30) (by kernel_rfl) (by kernel_rfl) (by decide) (by kernel_rfl) (by kernel_rfl) (by kernel_rfl) (by kernel_rfl) (by kernel_rfl) (by kernel_rfl) (.inl (by kernel_rfl))
theorem sound30 : Sound cx 30 sp30.sem := Sound.pure0 (by kernel_rfl) (by kernel_rfl) raw30 fun l h => sp30_ok l h
theorem tab43 : ∀ j, Sound cx j (S43 j).sem := spN_all
theorem raw43 : Sound cx 43 f43_sem := by
  unfold f43_sem
  rw [semU_eq]
  exact sound_fn okC tab43 (f := 43) (fn := Tryd.f43) (c := bodyOf Tryd.f43) (by kernel_rfl) (by kernel_rfl) (by decide) (by kernel_rfl) (by kernel_rfl) (by kernel_rfl) (by kernel_rfl) (by kernel_rfl) (by kernel_rfl) (.inl (by kernel_rfl))
theorem sound43 : Sound cx 43 sp43.sem := Sound.pure0 (by kernel_rfl) (by kernel_rfl) raw43 fun l h => sp43_ok l h
theorem tab45 : ∀ j, Sound cx j (S45 j).sem := spN_all
theorem raw45 : Sound cx 45 f45_sem := by
  unfold f45_sem
  rw [semU_eq]
  exact sound_fn okC tab45 (f := 45) (fn := Tryd.f45) (c := bodyOf Tryd.f45) (by kernel_rfl) (by kernel_rfl) (by decide) (by kernel_rfl) (by kernel_rfl) (by kernel_rfl) (by kernel_rfl) (by kernel_rfl) (by kernel_rfl) (.inl (by kernel_rfl))
theorem sound45 : Sound cx 45 sp45.sem := Sound.pure0 (by kernel_rfl) (by kernel_rfl) raw45 fun l h => sp45_ok l h
theorem tab46 : ∀ j, Sound cx j (S46 j).sem := spN_all
theorem raw46 : Sound cx 46 f46_sem := by
  unfold f46_sem
  rw [semU_eq]
  exact sound_fn okC tab46 (f := 46) (fn := Tryd.f46) (c := bodyOf Tryd.f46) (by kernel_rfl) (by kernel_rfl) (by decide) (by kernel_rfl) (by kernel_rfl) (by kernel_rfl) (by kernel_rfl) (by kernel_rfl) (by kernel_rfl) (.inl (by kernel_rfl))
theorem sound46 : Sound cx 46 sp46.sem := Sound.pure0 (by kernel_rfl) (by kernel_rfl) raw46 fun l h => sp46_ok l h
theorem tab8 : ∀ j, Sound cx j (S8 j).sem := spN_all
theorem raw8 : Sound cx 8 f8_sem := by
  unfold f8_sem
  rw [semU_eq]
  exact sound_fn okC tab8 (f := 8) (fn := Tryd.f8) (c := bodyOf Tryd.f8) (by kernel_rfl) (by kernel_rfl) (by decide) (by kernel_rfl) (by kernel_rfl) (by kernel_rfl) (by kernel_rfl) (by kernel_rfl) (by kernel_rfl) (.inl (by kernel_rfl))
theorem sound8 : Sound cx 8 sp8.sem := Sound.pure0 (by kernel_rfl) (by kernel_rfl) raw8 fun l h => sp8_ok l h
theorem tab20 : ∀ j, Sound cx j (S20 j).sem := spN_all
theorem raw20 : Sound cx 20 f20_sem := by
  unfold f20_sem
  rw [semU_eq]
  exact sound_fn okC tab20 (f := 20) (fn := Tryd.f20) (c := bodyOf Tryd.f20) (by kernel_rfl) (by kernel_rfl) (by decide) (by kernel_rfl) (by kernel_rfl) (by kernel_rfl) (by kernel_rfl) (by kernel_rfl) (by kernel_rfl) (.inl (by kernel_rfl))
theorem sound20 : Sound cx 20 sp20.sem := Sound.pure0 (by kernel_rfl) (by kernel_rfl) raw20 fun l h => sp20_ok l h
theorem tab25 : ∀ j, Sound cx j (S25 j).sem := spN_all
theorem raw25 : Sound cx 25 f25_sem := by
  unfold f25_sem
  rw [semU_eq]
  exact sound_fn okC tab25 (f := 25) (fn := Tryd.f25) (c := bodyOf Tryd.f25) (by kernel_rfl) (by kernel_rfl) (by decide) (by kernel_rfl) (by kernel_rfl) (by kernel_rfl) (by kernel_rfl) (by kernel_rfl) (by kernel_rfl) (.inr ⟨by kernel_rfl, by kernel_rfl⟩)
theorem sound25 : Sound cx 25 sp25.sem := Sound.pure0 (by kernel_rfl) (by kernel_rfl) raw25 fun l h => sp25_ok l h
theorem tab6 : ∀ j, Sound cx j (S6 j).sem := spN_all
theorem raw6 : Sound cx 6 f6_sem := by
  unfold f6_sem
  rw [semU_eq]
  exact sound_fn okC tab6 (f := 6) (fn := Tryd.f6) (c := bodyOf Tryd.f6) (by kernel_rfl) (by kernel_rfl) (by decide) (by kernel_rfl) (by kernel_rfl) (by kernel_rfl) (by kernel_rfl) (by kernel_rfl) (by kernel_rfl) (.inl (by kernel_rfl))
theorem sound6 : Sound cx 6 sp6.sem := Sound.pure0 (by kernel_rfl) (by kernel_rfl) raw6 fun l h => sp6_ok l h
theorem tab12 : ∀ j, Sound cx j (S12 j).sem := spN_all
theorem raw12 : Sound cx 12 f12_sem := by
  unfold f12_sem
  rw [semU_eq]
  exact sound_fn okC tab12 (f := 12) (fn := Tryd.f12) (c := bodyOf Tryd.f12) (by kernel_rfl) (by kernel_rfl) (by decide) (by kernel_rfl) (by kernel_rfl) (by kernel_rfl) (by kernel_rfl) (by kernel_rfl) (by kernel_rfl) (.inl (by kernel_rfl))
theorem sound12 : Sound cx 12 sp12.sem := Sound.pure0 (by kernel_rfl) (by kernel_rfl) raw12 fun l h => sp12_ok l h
theorem tab34 : ∀ j, Sound cx j (S34 j).sem := spN_all
theorem raw34 : Sound cx 34 f34_sem := by
  unfold f34_sem
  rw [semU_eq]
  exact sound_fn okC tab34 (f := 34) (fn := Tryd.f34) (c := bodyOf Tryd.f34) (by kernel_rfl) (by kernel_rfl) (by decide) (by kernel_rfl) (by kernel_rfl) (by kernel_rfl) (by kernel_rfl) (by kernel_rfl) (by kernel_rfl) (.inl (by kernel_rfl))
theorem sound34 : Sound cx 34 sp34.sem := Sound.pure0 (by kernel_rfl) (by kernel_rfl) raw34 fun l h => sp34_ok l h
theorem tab32 : ∀ j, Sound cx j (S32 j).sem := bif_cons sound45 (spN_all)
theorem raw32 : Sound cx 32 f32_sem := by
  unfold f32_sem
  rw [semU_eq]
  exact sound_fn okC tab32 (f := 32) (fn := Tryd.f32) (c := bodyOf Tryd.f32) (by kernel_rfl) (by kernel_rfl) (by decide) (by kernel_rfl) (by kernel_rfl) (by kernel_rfl) (by kernel_rfl) (by kernel_rfl) (by kernel_rfl) (.inl (by kernel_rfl))
theorem sound32 : Sound cx 32 sp32.sem := Sound.pure0 (by kernel_rfl) (by kernel_rfl) raw32 fun l h => sp32_ok l h
theorem tab17 : ∀ j, Sound cx j (S17 j).sem := bif_cons sound32 (spN_all)
theorem raw17 : Sound cx 17 f17_sem := by
  unfold f17_sem
  rw [semU_eq]
  exact sound_fn okC tab17 (f := 17) (fn := Tryd.f17) (c := bodyOf Tryd.f17) (by kernel_rfl) (by kernel_rfl) (by decide) (by kernel_rfl) (by kernel_rfl) (by kernel_rfl) (by kernel_rfl) (by kernel_rfl) (by kernel_rfl) (.inl (by kernel_rfl))
theorem sound17 : Sound cx 17 sp17.sem := Sound.pure0 (by kernel_rfl) (by kernel_rfl) raw17 fun l h => sp17_ok l h
theorem tab31 : ∀ j, Sound cx j (S31 j).sem := bif_cons sound44 (spN_all)
theorem raw31 : Sound cx 31 f31_sem := by
  unfold f31_sem
  rw [semU_eq]
  exact sound_fn okC tab31 (f := 31) (fn := Tryd.f31) (c := bodyOf Tryd.f31) (by kernel_rfl) (by kernel_rfl) (by decide) (by kernel_rfl) (by kernel_rfl) (by kernel_rfl) (by kernel_rfl) (by kernel_rfl) (by kernel_rfl) (.inl (by kernel_rfl))
theorem sound31 : Sound cx 31 sp31.sem := Sound.pureV (by kernel_rfl) (by kernel_rfl) raw31 fun l g w vals hv h => by
  obtain ⟨a, b, rfl⟩ := spDraw_inv h
  obtain ⟨h1, h2⟩ := draw_of hv
  rw [f31_eq, f31_law h1 h2]
  rfl
theorem tab36 : ∀ j, Sound cx j (S36 j).sem := bif_cons sound46 (spN_all)
theorem raw36 : Sound cx 36 f36_sem := by
  unfold f36_sem
  rw [semU_eq]
  exact sound_fn okC tab36 (f := 36) (fn := Tryd.f36) (c := bodyOf Tryd.f36) (by kernel_rfl) (by kernel_rfl) (by decide) (by kernel_rfl) (by kernel_rfl) (by kernel_rfl) (by kernel_rfl) (by kernel_rfl) (by kernel_rfl) (.inl (by kernel_rfl))
theorem sound36 : Sound cx 36 sp36.sem := Sound.pureV (by kernel_rfl) (by kernel_rfl) raw36 fun l g w vals hv h => by
  obtain ⟨a, b, rfl⟩ := spDraw_inv h
  obtain ⟨h1, h2⟩ := draw_of hv
  rw [f36_eq, f36_law h1 h2]
  rfl
theorem tab35 : ∀ j, Sound cx j (S35 j).sem := bif_cons sound18 (spN_all)
theorem raw35 : Sound cx 35 f35_sem := by
  unfold f35_sem
  rw [semU_eq]
  exact sound_fn okC tab35 (f := 35) (fn := Tryd.f35) (c := bodyOf Tryd.f35) (by kernel_rfl) (by kernel_rfl) (by decide) (by kernel_rfl) (by kernel_rfl) (by kernel_rfl) (by kernel_rfl) (by kernel_rfl) (by kernel_rfl) (.inl (by kernel_rfl))
theorem sound35 : Sound cx 35 sp35.sem := Sound.pureV (by kernel_rfl) (by kernel_rfl) raw35 fun l g w vals hv h => by
  unfold sp35 at h
  dsimp only at h
  split at h
  case h_2 => cases h
  rename_i k
  simp only [VT] at hv
  obtain ⟨u, us, _, hu, _⟩ := hv
  rw [f35_eq, f35_law k (i63_of hu)]
  rfl
theorem tab13 : ∀ j, Sound cx j (S13 j).sem := bif_cons sound26 (bif_cons sound14 (spN_all))
theorem raw13 : Sound cx 13 f13_sem := by
  unfold f13_sem
  rw [semU_eq]
  exact sound_fn okC tab13 (f := 13) (fn := Tryd.f13) (c := bodyOf Tryd.f13) (by kernel_rfl) (by kernel_rfl) (by decide) (by kernel_rfl) (by kernel_rfl) (by kernel_rfl) (by kernel_rfl) (by kernel_rfl) (by kernel_rfl) (.inl (by kernel_rfl))
theorem sound13 : Sound cx 13 sp13.sem := raw13.sp fun l h hp => sp13_ok l h hp
theorem tab29 : ∀ j, Sound cx j (S29 j).sem := bif_cons sound14 (bif_cons sound26 (spN_all))
theorem raw29 : Sound cx 29 f29_sem := by
  unfold f29_sem
  rw [semU_eq]
  exact sound_fn okC tab29 (f := 29) (fn := Tryd.f29) (c := bodyOf Tryd.f29) (by kernel_rfl) (by kernel_rfl) (by decide) (by kernel_rfl) (by kernel_rfl) (by kernel_rfl) (by kernel_rfl) (by kernel_rfl) (by kernel_rfl) (.inl (by kernel_rfl))
theorem sound29 : Sound cx 29 sp29.sem := raw29.sp fun l h hp => sp29_ok l h hp
theorem tab28 : ∀ j, Sound cx j (S28 j).sem := bif_cons sound14 (bif_cons sound30 (bif_cons sound26 (bif_cons sound43 (spN_all))))
theorem raw28 : Sound cx 28 f28_sem := by
  unfold f28_sem
  rw [semU_eq]
  exact sound_fn okC tab28 (f := 28) (fn := Tryd.f28) (c := bodyOf Tryd.f28) (by kernel_rfl) (by kernel_rfl) (by decide) (by kernel_rfl) (by kernel_rfl) (by kernel_rfl) (by kernel_rfl) (by kernel_rfl) (by kernel_rfl) (.inl (by kernel_rfl))
theorem sound28 : Sound cx 28 sp28.sem := raw28.sp fun l h hp => sp28_ok l h hp
theorem tab15 : ∀ j, Sound cx j (S15 j).sem := bif_cons sound30 (bif_cons sound14 (bif_cons sound31 (bif_cons sound29 (bif_cons sound28 (bif_cons sound13 (spN_all))))))
theorem raw15 : Sound cx 15 f15_sem := by
  unfold f15_sem
  rw [semU_eq]
  exact sound_fn okC tab15 (f := 15) (fn := Tryd.f15) (c := bodyOf Tryd.f15) (by kernel_rfl) (by kernel_rfl) (by decide) (by kernel_rfl) (by kernel_rfl) (by kernel_rfl) (by kernel_rfl) (by kernel_rfl) (by kernel_rfl) (.inl (by kernel_rfl))
theorem sound15 : Sound cx 15 sp15.sem := raw15.sp fun l h hp => sp15_ok l h hp
theorem tab5 : ∀ j, Sound cx j (S5 j).sem := bif_cons sound16 (bif_cons sound15 (bif_cons sound14 (bif_cons sound13 (bif_cons sound12 (spN_all)))))
theorem raw5 : Sound cx 5 f5_sem := by
  unfold f5_sem
  rw [semU_eq]
  exact sound_fn okC tab5 (f := 5) (fn := Tryd.f5) (c := bodyOf Tryd.f5) (by kernel_rfl) (by kernel_rfl) (by decide) (by kernel_rfl) (by kernel_rfl) (by kernel_rfl) (by kernel_rfl) (by kernel_rfl) (by kernel_rfl) (.inl (by kernel_rfl))
theorem sound5 : Sound cx 5 sp5.sem := Sound.pure0 (by kernel_rfl) (by kernel_rfl) raw5 fun l h => sp5_ok l h
theorem tab19 : ∀ j, Sound cx j (S19 j).sem := bif_cons sound34 (bif_cons sound36 (bif_cons sound35 (bif_cons sound33 (bif_cons sound18 (spN_all)))))
theorem raw19 : Sound cx 19 f19_sem := by
  unfold f19_sem
  rw [semU_eq]
  exact sound_fn okC tab19 (f := 19) (fn := Tryd.f19) (c := bodyOf Tryd.f19) (by kernel_rfl) (by kernel_rfl) (by decide) (by kernel_rfl) (by kernel_rfl) (by kernel_rfl) (by kernel_rfl) (by kernel_rfl) (by kernel_rfl) (.inl (by kernel_rfl))
theorem sound19 : Sound cx 19 sp19.sem := Sound.pureV (by kernel_rfl) (by kernel_rfl) raw19 fun l g w vals hv h => sp19_ok l g w vals h
theorem tab7 : ∀ j, Sound cx j (S7 j).sem := bif_cons sound19 (bif_cons sound18 (bif_cons sound17 (spN_all)))
theorem raw7 : Sound cx 7 f7_sem := by
  unfold f7_sem
  rw [semU_eq]
  exact sound_fn okC tab7 (f := 7) (fn := Tryd.f7) (c := bodyOf Tryd.f7) (by kernel_rfl) (by kernel_rfl) (by decide) (by kernel_rfl) (by kernel_rfl) (by kernel_rfl) (by kernel_rfl) (by kernel_rfl) (by kernel_rfl) (.inl (by kernel_rfl))
theorem sound7 : Sound cx 7 sp7.sem := Sound.pure0 (by kernel_rfl) (by kernel_rfl) raw7 fun l h => sp7_ok l h
theorem tab11 : ∀ j, Sound cx j (S11 j).sem := bif_cons sound25 (spN_all)
theorem raw11 : Sound cx 11 f11_sem := by
  unfold f11_sem
  rw [semU_eq]
  exact sound_fn okC tab11 (f := 11) (fn := Tryd.f11) (c := bodyOf Tryd.f11) (by kernel_rfl) (by kernel_rfl) (by decide) (by kernel_rfl) (by kernel_rfl) (by kernel_rfl) (by kernel_rfl) (by kernel_rfl) (by kernel_rfl) (.inl (by kernel_rfl))
theorem sound11 : Sound cx 11 sp11.sem := raw11.sp fun l h hp => sp11_ok l h hp
theorem tab4 : ∀ j, Sound cx j (S4 j).sem := bif_cons sound11 (spN_all)
theorem raw4 : Sound cx 4 f4_sem := by
  unfold f4_sem
  rw [semU_eq]
  exact sound_fn okC tab4 (f := 4) (fn := Tryd.f4) (c := bodyOf Tryd.f4) (by kernel_rfl) (by kernel_rfl) (by decide) (by kernel_rfl) (by kernel_rfl) (by kernel_rfl) (by kernel_rfl) (by kernel_rfl) (by kernel_rfl) (.inl (by kernel_rfl))
theorem sound4 : Sound cx 4 sp4.sem := raw4.sp fun l h hp => sp4_ok l h hp
theorem tab9 : ∀ j, Sound cx j (S9 j).sem := bif_cons sound20 (spN_all)
theorem raw9 : Sound cx 9 f9_sem := by
  unfold f9_sem
  rw [semU_eq]
  exact sound_fn okC tab9 (f := 9) (fn := Tryd.f9) (c := bodyOf Tryd.f9) (by kernel_rfl) (by kernel_rfl) (by decide) (by kernel_rfl) (by kernel_rfl) (by kernel_rfl) (by kernel_rfl) (by kernel_rfl) (by kernel_rfl) (.inl (by kernel_rfl))
theorem sound9 : Sound cx 9 sp9.sem := Sound.pure0 (by kernel_rfl) (by kernel_rfl) raw9 fun l h => sp9_ok l h
theorem tab10 : ∀ j, Sound cx j (S10 j).sem := bif_cons sound_spN (bif_cons sound_spN (bif_cons sound_spN (bif_cons sound_spN (bif_cons sound20 (spN_all)))))
theorem raw10 : Sound cx 10 f10_sem := by
  unfold f10_sem
  rw [semU_eq]
  exact sound_fn okC tab10 (f := 10) (fn := Tryd.f10) (c := bodyOf Tryd.f10) (by kernel_rfl) (by kernel_rfl) (by decide) (by kernel_rfl) (by kernel_rfl) (by kernel_rfl) (by kernel_rfl) (by kernel_rfl) (by kernel_rfl) (.inl (by kernel_rfl))
theorem sound10 : Sound cx 10 sp10.sem := raw10.sp fun l h hp => sp10_ok l h hp
theorem tab3 : ∀ j, Sound cx j (S3 j).sem := bif_cons sound10 (bif_cons sound9 (bif_cons sound8 (bif_cons sound7 (bif_cons sound5 (bif_cons sound6 (bif_cons sound4 (spN_all)))))))
theorem raw3 : Sound cx 3 f3_sem := by
  unfold f3_sem
  rw [semU_eq]
  exact sound_fn okC tab3 (f := 3) (fn := Tryd.f3) (c := bodyOf Tryd.f3) (by kernel_rfl) (by kernel_rfl) (by decide) (by kernel_rfl) (by kernel_rfl) (by kernel_rfl) (by kernel_rfl) (by kernel_rfl) (by kernel_rfl) (.inl (by kernel_rfl))
end Go.Vm
