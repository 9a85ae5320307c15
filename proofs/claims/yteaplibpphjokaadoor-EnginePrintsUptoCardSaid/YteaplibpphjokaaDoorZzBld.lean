/- Part of a proof: ZzBld. -/
import Derived.Test.YteaplibpphjokaaDoorProg
import Derived.Lib.Walk
import Derived.Lib.Builder
import Derived.Lib.Strings
import Derived.Lib.Slices
import Derived.Lib.AppendStr
import Derived.Lib.UnsafeStr
import Derived.Lib.MakeNoZero
import Derived.Shelf.RegionOpenPlain
import Derived.WalkKit
import Derived.Laws.Externs
import Derived.Laws.IdiomCopy
import Derived.Laws.BitsLemmas
import Derived.Test.YteaplibpphjokaaDoorVE
set_option linter.unusedSimpArgs false
set_option linter.unusedVariables false
set_option linter.unusedSectionVars false
namespace Go.Vm
open Go Go.Proofs Go.RowKit Go.Lib
theorem wpList_app {P : Program} {ops : Array Oper} {rest : List Oper} {o : Oper} {a : Act} {w w2 : World} {Q : Exit → Act → World → Prop} (hgd : o.guard = none) (sl x : Operand) (t u : TypeId)
    (ho : o.op = .call { callee := .builtin .append, args := #[sl, x], argTypes := #[t, u] }) (v v' y : Value) (hs : a.eval sl = v) (hx : a.eval x = y)
    (hr : (Builtin.append_ #[t, u] o.type #[v, y]).run P w = .ok v' w2) (h : wpList P ops Q rest (a.put o.dst v') w2) : wpList P ops Q (o :: rest) a w := by
  refine wpList_plain hgd fun K hK => ?_
  unfold Oper.wp execOp
  simp only [ho, resolve, invoke, builtin, Sem.run_bind, Sem.run_pure, Result.andThen_ok, List.map_toArray, List.map_cons, List.map_nil, hs, hx, hr]
  exact hK _ _ h
theorem tyB : Tryd.prog.underlying 61 = some (.struct #[{ name := "addr", type := 59, offset := 0, embedded := false, tag := "", pkgPath := "strings", byteOffset := 0 }, { name := "buf", type := 41, offset := 1, embedded := false, tag := "", pkgPath := "strings", byteOffset := 8 }]) := by kernel_rfl
theorem tyP : Tryd.prog.underlying 59 = some (.pointer 61) := by kernel_rfl
theorem tyU : Tryd.prog.underlying 106 = some .unsafePointer := by kernel_rfl
set_option maxHeartbeats 1000000 in
set_option maxRecDepth 100000 in
theorem cc_used (b : Nat) (w : World) (h0 : w.cell? ⟨b, 0, none⟩ = some (.pointer (some ⟨b, 0, none⟩))) :
    Calls Tryd.prog 27 #[.pointer (some ⟨b, 0, none⟩)] w fun e w' => e = .returned (.tuple #[]) ∧ w' = w := by
  obtain ⟨j, hj, _⟩ := Option.map_eq_some_iff.1 (show (Tryd.prog.info? 61).map (·.size) = some 2 by kernel_rfl)
  have mixed : Tryd.prog.follows .mixedOrders = true := by kernel_rfl
  go_enter Tryd.func27, Tryd.ntmps27
  go_wp2
  rw [Lib.run_neq_ptr_same w _ tyP hj]
  go_wp2
  go_end0
  exact ⟨rfl, rfl⟩
set_option maxHeartbeats 1000000 in
set_option maxRecDepth 100000 in
theorem cc_fresh (b : Nat) (w : World) (h0 : w.cell? ⟨b, 0, none⟩ = some (.pointer none)) (hsh : w.shape? b = some (63, 3)) (hfz : w.frozen? ⟨b, 0, none⟩ = false) :
    Calls Tryd.prog 27 #[.pointer (some ⟨b, 0, none⟩)] w fun e w' => e = .returned (.tuple #[]) ∧ w' = w.setCell ⟨b, 0, none⟩ (.pointer (some ⟨b, 0, none⟩)) := by
  obtain ⟨j, hj, hjs⟩ := Option.map_eq_some_iff.1 (show (Tryd.prog.info? 61).map (·.size) = some 2 by kernel_rfl)
  have mixed : Tryd.prog.follows .mixedOrders = true := by kernel_rfl
  have hlies : liesAt Tryd.prog Tryd.prog.depth 63 (3 / Tryd.prog.cellsOf 63) 0 61 1 = true := by kernel_rfl
  go_enter Tryd.func27, Tryd.ntmps27
  go_wp2
  rw [Lib.run_to_unsafe w ⟨b, 0, none⟩ tyP tyU hj (by rw [hjs]; decide) hsh (Nat.zero_lt_succ 2)]
  simp only [Result.andThen]
  rw [Oper.upon_value]
  go_wp2
  rw [run_callFunc_extern (show Tryd.prog.funcs[42]? = some Tryd.f42 by kernel_rfl) (by kernel_rfl) (by kernel_rfl) (by kernel_rfl) (e := Extern.AbiNoEscape.same) (by kernel_rfl)]
  rw [Lib.run_noEscape]
  simp only [Result.andThen]
  rw [Oper.upon_value]
  go_wp2
  rw [Lib.run_from_unsafe w ⟨b, 0, none⟩ tyU tyP hj hsh hlies]
  simp only [Result.andThen]
  rw [Oper.upon_value]
  go_wp2
  go_end0
  exact ⟨rfl, rfl⟩
set_option maxHeartbeats 2000000 in
set_option maxRecDepth 100000 in
theorem ws_walk : WsC Tryd.prog 63 3 41 9 14 := by
  refine ⟨⟨Tryd.f14, by kernel_rfl, by kernel_rfl, by decide⟩, fun b n cap n' cap' p ao ao' s w w1 w2 hor h0 hf h1 happ h2 hf2 => ?_⟩
  have mixed : Tryd.prog.follows .mixedOrders = true := by kernel_rfl
  have hcc : Calls Tryd.prog 27 #[.pointer (some ⟨b, 0, none⟩)] w fun e w' => e = .returned (.tuple #[]) ∧ w' = w1 := by
    rcases hor with ⟨rfl, hsh, rfl⟩ | ⟨rfl, rfl⟩
    · exact cc_fresh b w h0 hsh hf
    · exact cc_used b w1 h0
  clear hor h0 hf
  go_enter Tryd.func14, Tryd.ntmps14
  have happ' : Hid ((Builtin.append_ #[41, 9] 41 #[.slice ao n cap, .string s]).run Tryd.prog w1 = .ok (.slice ao' n' cap') w2) := happ
  clear happ
  go_wp2_with (first | (go_at_call 27; refine hcc.mono ?_; rintro e w' ⟨rfl, rfl⟩) | (at_builtin; refine wpList_app rfl (.tmp 12) (.tmp 13) 41 9 rfl _ _ _ rfl rfl happ'.out ?_))
  go_ret2
  exact ⟨rfl, rfl⟩
set_option maxHeartbeats 2000000 in
set_option maxRecDepth 100000 in
theorem bs_walk : BsC Tryd.prog 97 3 9 16 := by
  refine ⟨⟨Tryd.f16, by kernel_rfl, by kernel_rfl, by decide⟩, fun b gb n cap s w w2 hc c1' hUS => ?_⟩
  have mixed : Tryd.prog.follows .mixedOrders = true := by kernel_rfl
  have c1 : w.drew.cell? ⟨b, 1, none⟩ = some (.slice (some ⟨gb, 0, none⟩) n cap) := c1'
  have hSD : (Builtin.unsafeSliceData_ #[41] 97 #[.slice (some ⟨gb, 0, none⟩) n cap]).run Tryd.prog w.drew = .ok (.pointer (some ⟨gb, 0, none⟩)) w.drew :=
    Lib.run_unsafeSliceData_row _ _ _ _ _ _ hc
  go_enter Tryd.func16, Tryd.ntmps16
  go_wp2
  go_region_o
  all_goals (go_wp2; go_ret; exact ⟨rfl, rfl⟩)
theorem ws_sound {C : Cx} (hP : C.P = Tryd.prog) (hp : C.pure 14 = false) : Sound C 14 (semWs 63 3 5) := by
  obtain ⟨i0, hi, hz0, hz1, hz2⟩ := info_parts (show (Tryd.prog.info? 5).map (fun i => (i.zero, i.size, i.bytes)) = some (some (.int .u8 0), 1, 1) by kernel_rfl)
  exact sound_ws hp (by rw [hP]; exact ws_walk) (by rw [hP]; kernel_rfl) (by rw [hP]; kernel_rfl) (by rw [hP]; exact hi) hz0 hz1 hz2
theorem bs_sound {C : Cx} (hP : C.P = Tryd.prog) (hp : C.pure 16 = false) : Sound C 16 (semBs 5) :=
  sound_bs hp (by rw [hP]; exact bs_walk) (by rw [hP]; kernel_rfl) (by rw [hP]; kernel_rfl)
end Go.Vm
