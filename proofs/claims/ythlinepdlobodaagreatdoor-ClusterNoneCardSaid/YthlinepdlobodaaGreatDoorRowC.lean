/- Part of a proof: RowC. -/
import Derived.Test.YthlinepdlobodaaGreatDoorCards
import Derived.Test.YthlinepdlobodaaGreatDoorTie
import Derived.Deep.DeepHandedRow
import Derived.Lib.LaidTab
import Derived.WalkKit
import Derived.Test.YthlinepdlobodaaGreatDoorZzNone
import Derived.Test.YthlinepdlobodaaGreatDoorFactsAll
import Derived.Test.YthlinepdlobodaaGreatDoorVF
set_option linter.unusedSimpArgs false
set_option linter.unusedVariables false
set_option linter.unusedSectionVars false
namespace Go.Proofs.YthlinepdlobodaaGreatDoor.rowNone
open Go Go.Vm Go.RowKit
set_option maxRecDepth 100000
theorem own : ownKnob Tryz.prog.godebug = none := by kernel_rfl
theorem kids : Kids Tryz.prog (· < Tryz.prog.types.size) := kids_rows (by kernel_rfl) (by kernel_rfl)
theorem slices : slicesOK Tryz.prog = true := by kernel_rfl
theorem fun3 : Tryz.prog.funcs[3]? = some Tryz.f3 := by kernel_rfl
theorem par3 : Tryz.f3.params.toList = [30, 3] := by kernel_rfl
theorem ltP : ∀ t ∈ Tryz.f3.params.toList, t < Tryz.prog.types.size := by
  rw [par3]
  intro t ht
  rcases List.mem_cons.1 ht with rfl | ht
  · exact Nat.le_of_ble_eq_true (by kernel_rfl)
  · rw [List.mem_singleton.1 ht]
    exact Nat.le_of_ble_eq_true (by kernel_rfl)
theorem uses0 : globs 0 = some (avD (H := Unit) Tryz.prog 20 173 Rows.laid_amnesia_message_uses) := by kernel_rfl
theorem nibbles1 : globs 1 = some (avD (H := Unit) Tryz.prog 20 246 Rows.laid_amnesia_wire_nibbles) := by kernel_rfl
theorem glob {W : World} (h : laidMetH Tryz.prog Rows.clusterNoneRow.laid W) : GlobR cx (gin W) W := by
  have h' : laidMet Tryz.prog Rows.clusterNoneRow.laid W := h
  obtain ⟨ps, hv, _⟩ := h'
  intro gi cs hg
  have hg' : globs gi = some cs := hg
  match gi, hg' with
  | 0, hg' =>
    rw [uses0] at hg'
    injection hg' with e
    rw [← e]
    exact laid_VC (n := "amnesia/message.uses") (d := Rows.laid_amnesia_message_uses) (gi := 0) (t := 173) (by kernel_rfl) (by kernel_rfl) (by kernel_rfl) (by kernel_rfl) _ _ hv (List.Mem.tail _ (List.Mem.head _))
  | 1, hg' =>
    rw [nibbles1] at hg'
    injection hg' with e
    rw [← e]
    exact laid_VC (n := "amnesia/wire.nibbles") (d := Rows.laid_amnesia_wire_nibbles) (gi := 1) (t := 246) (by kernel_rfl) (by kernel_rfl) (by kernel_rfl) (by kernel_rfl) _ _ hv (List.Mem.head _)
  | n + 2, hg' => cases hg'
theorem event30 {H : Type} {d : DataW H} {enc : TypeId × Value → H} {W : World} {base : Nat} {sp : Nat → Bool} {held : Bool} {fuel : Nat} {cs : List Value} {p : List MemPlace} (h : DataW.trod enc Tryz.prog W base sp held fuel 30 cs = some (d, p)) (hd : dOK d = true) : ∃ l : List AV, l.length = 13 ∧ argAV Tryz.prog 30 d = .A l := by
  refine ⟨avD Tryz.prog 20 30 d, ?_, ?_⟩
  · have := (trod_is (g := gin W) (fun _ _ h => h) 20 fuel 30 cs (d, p) h (by kernel_rfl) hd).2.1
    exact this.trans (show szT Tryz.prog 30 = 13 by kernel_rfl)
  · have ha : aggT Tryz.prog 30 = true := by kernel_rfl
    rw [argAV, if_pos ha]
theorem int3 {H : Type} {d : DataW H} {enc : TypeId × Value → H} {W : World} {base : Nat} {sp : Nat → Bool} {held : Bool} {fuel : Nat} {cs : List Value} {p : List MemPlace} (h : DataW.trod enc Tryz.prog W base sp held fuel 3 cs = some (d, p)) : ∃ n : Int, argAV Tryz.prog 3 d = .I .i64 n := by
  have hu : Tryz.prog.underlying 3 = some (.int .i64) := by kernel_rfl
  obtain ⟨z, _, e, _⟩ := DataW.trod_int hu h
  cases e
  refine ⟨z, ?_⟩
  have hud : und Tryz.prog 3 = .int .i64 := by rw [und, hu]; rfl
  have ha : aggT Tryz.prog 3 = false := by kernel_rfl
  rw [argAV, ha]
  simp [avD, hud]
theorem contract' (H : Type) (enc : TypeId × Value → H) (W : World) (base : Nat) (args : Array Value) (ds gs : List (DataW H)) (before : List MemPlace)
    (hval : ∀ (j : Nat) t v, Tryz.f3.params[j]? = some t → args[j]? = some v → Value.okWide Tryz.prog W .any base t v)
    (hW : DataW.Whole enc Tryz.prog Tryz.f3.params.toList Rows.clusterNoneSpec.vars false W args.toList ds gs before)
    (hwt : (DataW.weightsEach Tryz.prog (Tryz.f3.params.toList ++ (OpenSpec.ofChange Rows.clusterNoneSpec).bare.plain.varTypes Tryz.prog) (ds ++ gs)).all (· ≤ reachBytes) = true) (hL : laidMetH Tryz.prog Rows.clusterNoneRow.laid W) :
    Calls Tryz.prog 3 args W fun e W' => ∃ v, e = .returned v ∧ Rows.clusterNoneSpec.post enc Tryz.prog Tryz.f3 false true false false W args v W' := by
  obtain ⟨p, q, hA, hV, _, _, _⟩ := id hW
  obtain ⟨rfl, rfl⟩ := Go.ChangeShapes.trodVars_none hV
  have hA' := hA
  rw [par3] at hA'
  have hd : dOKs ds = true := by
    refine args_ok _ _ _ _ hA (by rw [par3]; kernel_rfl) ?_
    have hv0 : (OpenSpec.ofChange Rows.clusterNoneSpec).bare.plain.varTypes Tryz.prog = [] := rfl
    rw [hv0, List.append_nil, List.append_nil] at hwt
    exact hwt
  obtain ⟨v0, vs0, d1, ds0, p0, q0, hargs, rfl, rfl, ⟨fuel, h1⟩, r0⟩ := Go.ChangeShapes.trodAll_cons hA'
  obtain ⟨v1, vs1, d2, ds1, p1, q1, hargs1, rfl, rfl, ⟨fuel1, h2⟩, r1⟩ := Go.ChangeShapes.trodAll_cons r0
  obtain ⟨rfl, rfl, rfl⟩ := Go.ChangeShapes.trodAll_nil r1
  have hd' : dOK d1 = true ∧ dOK d2 = true := by simpa [dOKs] using hd
  obtain ⟨l, hl, ha1⟩ := event30 h1 hd'.1
  obtain ⟨n, ha2⟩ := int3 h2
  refine contract (C := cx) (fn := Tryz.f3) none_sound (by kernel_rfl) (by kernel_rfl) kids (fun a b => slicesOK_get slices a b) ltP (by rw [par3]; kernel_rfl) (tb := 4) (by kernel_rfl) (by kernel_rfl) rfl (base := base) hval hW rfl (glob hL) hd ?_
  rw [par3]
  show GGm tab2 mlN 60 3 [argAV Tryz.prog 30 d1, argAV Tryz.prog 3 d2] [] = _
  rw [ha1, ha2]
  exact none_eval l hl n
def layCells (vs : Array Value) : Obj → Obj
  | .cells _ t frozen => .cells vs t frozen
  | o => o
noncomputable def laidWorld (os : Os) : World :=
  { World.holding Tryz.prog os ⟨#[], #[], []⟩ with heap := ((World.holding Tryz.prog os ⟨#[], #[], []⟩).heap.modify 0 (layCells #[.bool false, .bool false, .bool false, .bool false, .bool false, .bool false, .bool false, .bool false, .bool false, .bool false, .bool false, .bool false, .bool false, .bool false, .bool false, .bool false, .bool true, .bool false, .bool false, .bool false, .bool true, .bool true, .bool false, .bool true, .bool false, .bool false, .bool true, .bool true, .bool false, .bool false, .bool true, .bool true, .bool false, .bool true, .bool true, .bool false, .bool true, .bool false, .bool false, .bool true, .bool true, .bool true, .bool false, .bool true, .bool false, .bool false, .bool false, .bool false, .bool false, .bool true, .bool true, .bool true, .bool false, .bool false, .bool true, .bool false, .bool false, .bool false, .bool false, .bool true, .bool true, .bool true, .bool false, .bool false, .bool false, .bool false, .bool false, .bool false, .bool false, .bool true, .bool true, .bool true, .bool true, .bool false, .bool true, .bool false, .bool false, .bool false, .bool true, .bool true, .bool true, .bool true, .bool false, .bool false, .bool true, .bool false, .bool false, .bool false, .bool true, .bool true, .bool true, .bool false, .bool false, .bool false, .bool false, .bool true, .bool false, .bool false, .bool false, .bool true, .bool true, .bool true, .bool false, .bool false, .bool true, .bool true, .bool false, .bool false, .bool true, .bool true, .bool true, .bool true, .bool false, .bool false, .bool false, .bool false, .bool false, .bool false, .bool false, .bool true, .bool true, .bool true, .bool false, .bool false, .bool true, .bool false, .bool false, .bool false, .bool true, .bool true, .bool false, .bool false, .bool false, .bool true, .bool false, .bool false, .bool true, .bool false, .bool false, .bool false, .bool true, .bool true, .bool false, .bool false, .bool true, .bool false, .bool true, .bool true, .bool false, .bool false])).modify 1 (layCells #[.int .u32 0, .int .u32 498536548, .int .u32 997073096, .int .u32 651767980, .int .u32 1994146192, .int .u32 1802195444, .int .u32 1303535960, .int .u32 1342533948, .int .u32 3988292384, .int .u32 4027552580, .int .u32 3604390888, .int .u32 3412177804, .int .u32 2607071920, .int .u32 2262029012, .int .u32 2685067896, .int .u32 3183342108]) }
theorem laid_met (os : Os) : laidMet Tryz.prog Rows.clusterNoneRow.laid ((laidWorld os).forCall (fun _ _ => 0) ⟨#[], #[.agg #[.int .i64 0, .int .i64 0, .int .i64 0, .int .i64 0, .int .i64 0, .int .i64 0, .int .i64 0, .int .u64 0, .int .u64 0, .int .i64 0, .int .i64 0, .string ⟨#[]⟩, .slice none 0 0], .int .i64 0], []⟩).memory :=
  laidMet_of_run' 8 (by kernel_rfl) (by kernel_rfl)
theorem reads (os : Os) {H : Type} (enc : TypeId × Value → H) : ∃ places, DataW.whole enc Tryz.prog ((laidWorld os).forCall (fun _ _ => 0) ⟨#[], #[.agg #[.int .i64 0, .int .i64 0, .int .i64 0, .int .i64 0, .int .i64 0, .int .i64 0, .int .i64 0, .int .u64 0, .int .u64 0, .int .i64 0, .int .i64 0, .string ⟨#[]⟩, .slice none 0 0], .int .i64 0], []⟩).memory Tryz.f3.params.toList Rows.clusterNoneSpec.vars false #[Value.agg #[.int .i64 0, .int .i64 0, .int .i64 0, .int .i64 0, .int .i64 0, .int .i64 0, .int .i64 0, .int .u64 0, .int .u64 0, .int .i64 0, .int .i64 0, .string ⟨#[]⟩, .slice none 0 0], Value.int .i64 0].toList 8 = some ([.agg [.lit (.int .i64 0), .lit (.int .i64 0), .lit (.int .i64 0), .lit (.int .i64 0), .lit (.int .i64 0), .lit (.int .i64 0), .lit (.int .i64 0), .agg [.lit (.int .u64 0), .lit (.int .u64 0)], .agg [.lit (.int .i64 0), .lit (.int .i64 0), .lit (.string [])], .nil], .lit (.int .i64 0)], [], places) :=
  ⟨[], by kernel_rfl⟩
theorem lifted (os : Os) (started : os.Started) (H : Type) (enc : TypeId × Value → H) (F : Stop.Interp) :
    ReturnsInHanded {} Tryz.checked os 3 .any ((OpenSpec.ofChange Rows.clusterNoneSpec).preRow enc Tryz.prog Tryz.f3 Rows.clusterNoneRow.domain false Rows.clusterNoneRow.laid) (((OpenSpec.ofChange Rows.clusterNoneSpec).at F).post enc Tryz.prog Tryz.f3 false true false false) := by
  obtain ⟨places, hx⟩ := reads os enc
  refine returnsInHanded_of_row (C := Tryz.checked) (s := OpenSpec.ofChange Rows.clusterNoneSpec) own started (by kernel_rfl) fun3
    (witness_row_at (enc := enc) (C := Tryz.checked) false (laidWorld os) #[.agg #[.int .i64 0, .int .i64 0, .int .i64 0, .int .i64 0, .int .i64 0, .int .i64 0, .int .i64 0, .int .u64 0, .int .u64 0, .int .i64 0, .int .i64 0, .string ⟨#[]⟩, .slice none 0 0], .int .i64 0] rfl (by kernel_rfl) (by kernel_rfl) (by kernel_rfl)
      (OpenSpec.preRow_of_cond 8 hx (by kernel_rfl) (fun k hk => by cases hk) (by kernel_rfl) (laid_met os))) ?_
  intro W base args ds gs before hval hW _ _ hwt hL _ _
  exact contract' H enc W base args ds gs before hval hW hwt hL
theorem said : Rows.ClusterNoneSaid :=
  OpenClaim.holds_of_cond 3 Tryz.f3 rfl rfl rfl rfl rfl rfl rfl ⟨rfl, rfl, rfl, rfl, rfl⟩ rfl rfl rfl rfl rfl (by kernel_rfl) fun3 closed
    (of_decide_eq_true (by kernel_rfl)) (by unfold Func.isWrapper; first | (rw [if_pos (by decide +kernel)]; kernel_rfl) | (rw [if_neg (by decide +kernel)]; exact ⟨rfl, rfl⟩))
    (fun os started H enc _ F => by rw [OpenClaim.pre_eq_preRow]; exact lifted os started H enc F)
theorem plain (f : FuncId) (fn : Func) (hf : Tryz.pinned.checked.prog.funcNamed "amnesia/amnesialaw15.ClusterNone" = some f) (hfn : Tryz.pinned.checked.prog.funcs[f]? = some fn) :
    true = Tryz.pinned.checked.prog.looks [] ∧ ∀ (j : Nat) t, fn.params[j]? = some t → Tryz.pinned.checked.prog.wantsStandIn t = false := by
  obtain rfl : f = 3 := Option.some.inj ((show Tryz.prog.funcNamed "amnesia/amnesialaw15.ClusterNone" = some 3 by kernel_rfl).symm.trans hf) |>.symm
  obtain rfl : fn = Tryz.f3 := (Option.some.inj (fun3.symm.trans hfn)).symm
  refine ⟨by kernel_rfl, fun j t ht => ?_⟩
  have ht' : t ∈ Tryz.f3.params.toList := by
    rw [← Array.getElem?_toList] at ht
    exact List.mem_of_getElem? ht
  rw [par3] at ht'
  rcases List.mem_cons.1 ht' with rfl | ht'
  · exact (show Tryz.prog.wantsStandIn 30 = false by kernel_rfl)
  · obtain rfl : t = 3 := List.mem_singleton.1 ht'
    exact (show Tryz.prog.wantsStandIn 3 = false by kernel_rfl)
theorem card : Rows.ClusterNoneCardSaid :=
  Claim7.holds_tied_plain_at .later [] _ _ _ _ said (fun _ h => by cases h) (by kernel_rfl) (fun _ h => by cases h) clusterNone_row_tie rfl ⟨rfl, rfl⟩ (by kernel_rfl) rfl plain (by kernel_rfl)
end Go.Proofs.YthlinepdlobodaaGreatDoor.rowNone
