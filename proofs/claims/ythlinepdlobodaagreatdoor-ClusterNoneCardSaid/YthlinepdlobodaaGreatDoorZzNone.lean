/- Part of a proof: ZzNone. -/
import Derived.Test.YthlinepdlobodaaGreatDoorZzOk
import Derived.KernelRfl
set_option linter.unusedSimpArgs false
set_option linter.unusedVariables false
set_option linter.unusedSectionVars false
namespace Go.Vm
open Go Go.Proofs
set_option maxRecDepth 100000
noncomputable def tabS : List (Nat × ((FuncId → FF) → FF)) := [(3, semF cx (ann3x 4194304) Tryz.f3), (5, semF cx (ann5x 4194304) Tryz.f5), (9, semF cx (ann9x 4194304) Tryz.f9), (10, semF cx (ann10x 4194304) Tryz.f10), (11, semF cx (ann11x 4194304) Tryz.f11), (20, semF cx (ann20x 4194304) Tryz.f20), (21, semF cx (ann21x 4194304) Tryz.f21)]
noncomputable def tab2 : List (Nat × ((FuncId → FF) → FF)) := tabS ++ tab
theorem z3 {G : FuncId → FF} (hG : ∀ j, Sound cx j (G j)) : Sound cx 3 (semF cx (ann3x 4194304) Tryz.f3 G) :=
  sound_fn okC hG (f := 3) (fn := Tryz.f3) (c := bodyOf Tryz.f3) (by kernel_rfl) (by kernel_rfl) (by decide) (by kernel_rfl) (by kernel_rfl) (by kernel_rfl) (by kernel_rfl) (by kernel_rfl) (by kernel_rfl) (.inl (by kernel_rfl))
theorem z5 {G : FuncId → FF} (hG : ∀ j, Sound cx j (G j)) : Sound cx 5 (semF cx (ann5x 4194304) Tryz.f5 G) :=
  sound_fn okC hG (f := 5) (fn := Tryz.f5) (c := bodyOf Tryz.f5) (by kernel_rfl) (by kernel_rfl) (by decide) (by kernel_rfl) (by kernel_rfl) (by kernel_rfl) (by kernel_rfl) (by kernel_rfl) (by kernel_rfl) (.inl (by kernel_rfl))
theorem z9 {G : FuncId → FF} (hG : ∀ j, Sound cx j (G j)) : Sound cx 9 (semF cx (ann9x 4194304) Tryz.f9 G) :=
  sound_fn okC hG (f := 9) (fn := Tryz.f9) (c := bodyOf Tryz.f9) (by kernel_rfl) (by kernel_rfl) (by decide) (by kernel_rfl) (by kernel_rfl) (by kernel_rfl) (by kernel_rfl) (by kernel_rfl) (by kernel_rfl) (.inl (by kernel_rfl))
theorem z10 {G : FuncId → FF} (hG : ∀ j, Sound cx j (G j)) : Sound cx 10 (semF cx (ann10x 4194304) Tryz.f10 G) :=
  sound_fn okC hG (f := 10) (fn := Tryz.f10) (c := bodyOf Tryz.f10) (by kernel_rfl) (by kernel_rfl) (by decide) (by kernel_rfl) (by kernel_rfl) (by kernel_rfl) (by kernel_rfl) (by kernel_rfl) (by kernel_rfl) (.inl (by kernel_rfl))
theorem z11 {G : FuncId → FF} (hG : ∀ j, Sound cx j (G j)) : Sound cx 11 (semF cx (ann11x 4194304) Tryz.f11 G) :=
  sound_fn okC hG (f := 11) (fn := Tryz.f11) (c := bodyOf Tryz.f11) (by kernel_rfl) (by kernel_rfl) (by decide) (by kernel_rfl) (by kernel_rfl) (by kernel_rfl) (by kernel_rfl) (by kernel_rfl) (by kernel_rfl) (.inl (by kernel_rfl))
theorem z20 {G : FuncId → FF} (hG : ∀ j, Sound cx j (G j)) : Sound cx 20 (semF cx (ann20x 4194304) Tryz.f20 G) :=
  sound_fn okC hG (f := 20) (fn := Tryz.f20) (c := bodyOf Tryz.f20) (by kernel_rfl) (by kernel_rfl) (by decide) (by kernel_rfl) (by kernel_rfl) (by kernel_rfl) (by kernel_rfl) (by kernel_rfl) (by kernel_rfl) (.inl (by kernel_rfl))
theorem z21 {G : FuncId → FF} (hG : ∀ j, Sound cx j (G j)) : Sound cx 21 (semF cx (ann21x 4194304) Tryz.f21 G) :=
  sound_fn okC hG (f := 21) (fn := Tryz.f21) (c := bodyOf Tryz.f21) (by kernel_rfl) (by kernel_rfl) (by decide) (by kernel_rfl) (by kernel_rfl) (by kernel_rfl) (by kernel_rfl) (by kernel_rfl) (by kernel_rfl) (.inl (by kernel_rfl))
theorem tab2_sound {G : FuncId → FF} (hG : ∀ j, Sound cx j (G j)) : ∀ k, Sound cx k (lkF k tab2 G) :=
  sound_cons (z3 hG) (sound_cons (z5 hG) (sound_cons (z9 hG) (sound_cons (z10 hG) (sound_cons (z11 hG) (sound_cons (z20 hG) (sound_cons (z21 hG) (tab_sound hG)))))))
def mlN : ML := [e54]
theorem none_pos (a0 a1 a2 a3 a4 a5 a6 a7 a8 a9 a10 a11 a12 : AV) (m : Nat) : GGm tab2 mlN 60 3 [.A [a0, a1, a2, a3, a4, a5, a6, a7, a8, a9, a10, a11, a12], .I .i64 (Int.ofNat m)] [] = .ret (.B true) [] := by kernel_rfl
theorem none_neg (a0 a1 a2 a3 a4 a5 a6 a7 a8 a9 a10 a11 a12 : AV) (m : Nat) : GGm tab2 mlN 60 3 [.A [a0, a1, a2, a3, a4, a5, a6, a7, a8, a9, a10, a11, a12], .I .i64 (Int.negSucc m)] [] = .ret (.B true) [] := by kernel_rfl
theorem none_eval (l : List AV) (hl : l.length = 13) (n : Int) : GGm tab2 mlN 60 3 [.A l, .I .i64 n] [] = .ret (.B true) [] := by
  match l, hl with
  | [a0, a1, a2, a3, a4, a5, a6, a7, a8, a9, a10, a11, a12], _ =>
    cases n with
    | ofNat m => exact none_pos ..
    | negSucc m => exact none_neg ..
theorem none_sound : Sound cx 3 (GGm tab2 mlN 60 3) := GGm_sound tab2_sound (by kernel_rfl) (okCons w54 okNil) 60 3
end Go.Vm
