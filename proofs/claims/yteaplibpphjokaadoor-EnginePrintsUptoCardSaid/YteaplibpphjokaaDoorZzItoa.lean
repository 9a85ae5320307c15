/- Part of a proof: ZzItoa. -/
import Derived.Test.YteaplibpphjokaaDoorZzShelf
import Derived.Lib.AppendIntMem
import Derived.Lib.ItoaLen
import Derived.WalkKit
import Derived.Test.YteaplibpphjokaaDoorVE
import Derived.Test.YteaplibpphjokaaDoorZzAnnP
import Derived.Test.YteaplibpphjokaaDoorZzLaw18
set_option linter.unusedSimpArgs false
set_option linter.unusedVariables false
set_option linter.unusedSectionVars false
namespace Go.Vm
open Go Go.Proofs Go.RowKit Go.Lib Go.Sort
set_option maxHeartbeats 6400000 in
set_option maxRecDepth 100000 in
theorem fu48 (u : Nat) (hu64 : u < 18446744073709551616) (w : World) (htab : Lib.TabIs Tryd.prog w "internal/strconv.uint64pow10" .u64 Lib.pow10Tab) :
    Calls Tryd.prog 48 #[.int .u64 u, .int .i64 10] w fun e w' => e = .returned (.string ⟨(Lib.decDigits u).toArray⟩) ∧ ∃ k os, w' = Sort.grow (w.drewN k) os := by
  have mixed : Tryd.prog.follows .mixedOrders = true := by kernel_rfl
  by_cases hs : u < 100
  · have hs' : (u : Int) < 100 := by omega
    go_enter Tryd.func48, Tryd.ntmps48
    go_wp2_with (go_at_call 49; refine (Tryd.internal_strconv_small u hs _).mono ?_; rintro e w' ⟨rfl, rfl⟩)
    go_ret
    exact ⟨rfl, 0, #[], by simp [World.drewN_zero]⟩
  · have hs' : ¬ (u : Int) < 100 := by omega
    have hu1 : 1 ≤ u := by omega
    have hnd20 : Lib.nDigits u ≤ 20 := by have := Lib.numDigits_eq u hu1 hu64; split at this <;> omega
    have hal : Tryd.prog.arrayLen 122 = 24 := by kernel_rfl
    have hsl1 : ∀ W, (Instr.sliceAt 122 (.pointer (some ⟨w.heap.size, 0, none⟩)) none (some (.int .i64 (Lib.nDigits u : Int))) none).run Tryd.prog W = .ok (.slice (some ⟨w.heap.size, 0, none⟩) (Lib.nDigits u) 24) W := fun W => by
      rw [run_sliceAt_array_h W 122 ⟨w.heap.size, 0, none⟩ (by simp [Program.arrayLen, Program.elem, Tryd.underlying122]) .i64 (Lib.nDigits u : Int) (by omega) (by rw [hal]; omega)]
      rw [hal]
      have e5 : Tryd.prog.elem 122 = 5 := by simp [Program.elem, Tryd.underlying122]
      rw [e5, Tryd.sizeOf5]
      simp [slicedAt, Addr.add]
    have hH0 := Lib.holds_zero0 w 122 (Lib.nDigits u) (by omega)
    have hfmt := Tryd.internal_strconv_formatBase10 w.heap.size 0 24 u (Array.replicate (Lib.nDigits u) 0) (w.alloc (.cells Lib.zeros24 122)) hH0 (by rw [Array.size_replicate]; exact Lib.lt_pow_nDigits u) hu64 (by rw [Array.size_replicate]; omega)
    rw [Array.size_replicate] at hfmt
    have HH0 := Lib.hid hH0
    clear hH0 hal
    go_enter Tryd.func48, Tryd.ntmps48
    go_wp2_with (first
      | (go_at_call 50; refine (Tryd.internal_strconv_numDigits u hu1 hu64 _ (Lib.tabIs_alloc htab _)).mono ?_; rintro e w' ⟨rfl, rfl⟩))
    go_at_call 51
    refine hfmt.mono ?_
    rintro e w' ⟨rfl, k, v', dk, rfl, hF⟩
    have hcv : (convert 41 9 (.slice (some ⟨w.heap.size, 0, none⟩) (Lib.nDigits u) 24)).run Tryd.prog ((putRow (fun (b : UInt8) => Value.int .u8 (b.toNat : Int)) (w.alloc (.cells Lib.zeros24 122)) w.heap.size 0 dk).drewN k) = .ok (.string ⟨(Lib.decDigits u).toArray⟩) ((putRow (fun (b : UInt8) => Value.int .u8 (b.toNat : Int)) (w.alloc (.cells Lib.zeros24 122)) w.heap.size 0 dk).drewN k) := by
      have h := run_convert_bytes_back (P := Tryd.prog) ((putRow (fun (b : UInt8) => Value.int .u8 (b.toNat : Int)) (w.alloc (.cells Lib.zeros24 122)) w.heap.size 0 dk).drewN k) 41 9 5 ⟨w.heap.size, 0, none⟩ 24 (Lib.decDigits u) Tryd.underlying41 Tryd.underlying5 Tryd.underlying9 (fun j hj => by
        rw [Lib.row_is_numeral hF j hj, Lib.add_plain, World.cell?_drewN]
        exact cell?_putRow (fun (b : UInt8) => Value.int .u8 (b.toNat : Int)) _ w.heap.size 0 _ dk HH0.out (by rw [hF.size, Array.size_replicate]) j (by rw [hF.size]; rw [Lib.decDigits_length] at hj; exact hj))
      rw [Lib.decDigits_length] at h
      exact h
    go_wp2
    go_ret
    obtain ⟨os, eo⟩ := Lib.fin_at w (.cells Lib.zeros24 122) dk k 0
    exact ⟨rfl, k, os, eo⟩
set_option maxRecDepth 100000 in
theorem fu44 (u : Nat) (hu64 : u < 18446744073709551616) (w : World) (htab : Lib.TabIs Tryd.prog w "internal/strconv.uint64pow10" .u64 Lib.pow10Tab) :
    Calls Tryd.prog 44 #[.int .u64 u, .int .i64 10] w fun e w' => e = .returned (.string ⟨(Lib.decDigits u).toArray⟩) ∧ ∃ k os, w' = Sort.grow (w.drewN k) os := by
  have mixed : Tryd.prog.follows .mixedOrders = true := by kernel_rfl
  go_enter Tryd.func44, Tryd.ntmps44
  go_wp2_with (go_at_call 48; refine (fu48 u hu64 _ htab).mono ?_; rintro e w' ⟨rfl, hw⟩)
  go_ret
  exact ⟨rfl, hw⟩
theorem tab_of {C : Cx} (hP : C.P = Tryd.prog) (hgl : C.glob 0 = globs 0) {g : Gh} {w : World} (h : GlobR C g w) : Lib.TabIs Tryd.prog w "internal/strconv.uint64pow10" .u64 Lib.pow10Tab := by
  have e : globs 0 = some (Lib.pow10Tab.map (AV.I .u64)) := by kernel_rfl
  obtain ⟨t, fr, h1⟩ := (h 0 _ (hgl.trans e)).ints (by rw [Lib.pow10Tab_length]; omega)
  have hg : Tryd.prog.globalNamed "internal/strconv.uint64pow10" = some 0 := by kernel_rfl
  unfold Lib.TabIs World.var?
  rw [hg]
  show (match w.heap[0]? with | some (.cells cs _ _) => some cs | _ => none) = _
  rw [h1]
theorem dec_eq (n : Nat) : Lib.decDigits n = decB n := by
  induction n using Nat.strongRecOn with
  | _ n ih =>
    by_cases h : n < 10
    · rw [Lib.decDigits, dif_pos h, decB_le (by omega)]
    · rw [Lib.decDigits, dif_neg h, decB_gt (by omega), ih (n / 10) (by omega)]
def decI (n : Int) : List UInt8 := if n < 0 then 45 :: decB n.natAbs else decB n.toNat
theorem itoa_eq (n : Int) : Lib.itoa n = decI n := by
  unfold Lib.itoa decI
  simp only [dec_eq]
def sp26 : Sp := ⟨fun l _ => match l with
  | [.I .i64 _] => true
  | _ => false, fun l _ => match l with
  | [.I .i64 n] => .S (decI n)
  | _ => .U, fun _ _ => []⟩
def sp44 : Sp := ⟨fun l _ => match l with
  | [.I .u64 _, .I .i64 10] => true
  | _ => false, fun l _ => match l with
  | [.I .u64 n, _] => .S (decB n.toNat)
  | _ => .U, fun _ _ => []⟩
theorem sound26 : Sound cx 26 sp26.sem := by
  refine sound_txt (by kernel_rfl) (by kernel_rfl) (by kernel_rfl) ⟨Tryd.f26, by kernel_rfl, by kernel_rfl, by decide⟩ fun g w l vals hpre hv hgl => ?_
  unfold sp26 at hpre ⊢
  dsimp only at hpre ⊢
  split at hpre
  case h_2 => cases hpre
  rename_i n
  simp only [VT, V] at hv
  obtain ⟨u, us, rfl, ⟨rfl, h1, h2⟩, rfl⟩ := hv
  have h3 : -9223372036854775808 ≤ n := h1
  have h4 : n ≤ 9223372036854775807 := h2
  refine ⟨decI n, rfl, ?_, ?_⟩
  · have := Lib.itoa_length_le n h3 h4
    rw [itoa_eq] at this
    omega
  · rw [← itoa_eq]
    exact Tryd.strconv_Itoa n h3 h4 w (tab_of (C := cx) rfl rfl hgl)
theorem sound44 : Sound cx 44 sp44.sem := by
  refine sound_txt (by kernel_rfl) (by kernel_rfl) (by kernel_rfl) ⟨Tryd.f44, by kernel_rfl, by kernel_rfl, by decide⟩ fun g w l vals hpre hv hgl => ?_
  unfold sp44 at hpre ⊢
  dsimp only at hpre ⊢
  split at hpre
  case h_2 => cases hpre
  rename_i n
  simp only [VT, V] at hv
  obtain ⟨u, us, rfl, ⟨rfl, h1, h2⟩, u1, us1, rfl, ⟨rfl, _⟩, rfl⟩ := hv
  have h3 : 0 ≤ n := h1
  have h4 : n ≤ 18446744073709551615 := h2
  obtain ⟨m, rfl⟩ : ∃ m : Nat, n = m := ⟨n.toNat, by omega⟩
  refine ⟨decB m, rfl, ?_, ?_⟩
  · rw [← dec_eq, Lib.decDigits_length]
    have := Lib.nDigits_le20 m (by omega)
    omega
  · rw [← dec_eq]
    exact fu44 m (by omega) w (tab_of (C := cx) rfl rfl hgl)
end Go.Vm
