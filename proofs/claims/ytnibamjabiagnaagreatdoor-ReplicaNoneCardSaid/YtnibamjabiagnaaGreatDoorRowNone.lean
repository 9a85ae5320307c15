/- ReplicaNone holds: a replica that no call made (nil or zero) answers each call as the document says, for every frame b. Conditions: the listed package variables (message.uses, wire.nibbles) hold what the text of the program lays (the card ties them); nothing else is asked of the input. -/
import Derived.Test.YtnibamjabiagnaaGreatDoorCards
import Derived.Test.YtnibamjabiagnaaGreatDoorTie
import Derived.Deep.DeepHandedRow
import Derived.Lib.LaidTab
import Derived.WalkKit
import Derived.Test.YtnibamjabiagnaaGreatDoorZzNone
import Derived.Test.YtnibamjabiagnaaGreatDoorFactsAll
import Derived.Test.YtnibamjabiagnaaGreatDoorVE
set_option linter.unusedSimpArgs false
set_option linter.unusedVariables false
set_option linter.unusedSectionVars false
namespace Go.Proofs.YtnibamjabiagnaaGreatDoor.rowNone
open Go Go.Vm Go.RowKit
set_option maxRecDepth 100000
theorem own : ownKnob Tryz.prog.godebug = none := by kernel_rfl
theorem kids : Kids Tryz.prog (· < Tryz.prog.types.size) := kids_rows (by kernel_rfl) (by kernel_rfl)
theorem slices : slicesOK Tryz.prog = true := by kernel_rfl
theorem fun4 : Tryz.prog.funcs[4]? = some Tryz.f4 := by kernel_rfl
theorem par4 : Tryz.f4.params.toList = [35] := by kernel_rfl
theorem lt35 : ∀ t ∈ Tryz.f4.params.toList, t < Tryz.prog.types.size := by
  rw [par4]
  intro t ht
  rw [List.mem_singleton.1 ht]
  exact Nat.le_of_ble_eq_true (by kernel_rfl)
theorem uses0 : globs 0 = some (avD (H := Unit) Tryz.prog 20 165 Rows.laid_amnesia_message_uses) := by kernel_rfl
theorem nibbles1 : globs 1 = some (avD (H := Unit) Tryz.prog 20 225 Rows.laid_amnesia_wire_nibbles) := by kernel_rfl
theorem glob {W : World} (h : laidMetH Tryz.prog Rows.replicaNoneRow.laid W) : GlobR cx (gin W) W := by
  have h' : laidMet Tryz.prog Rows.replicaNoneRow.laid W := h
  obtain ⟨ps, hv, _⟩ := h'
  intro gi cs hg
  have hg' : globs gi = some cs := hg
  match gi, hg' with
  | 0, hg' =>
    rw [uses0] at hg'
    injection hg' with e
    rw [← e]
    exact laid_VC (n := "amnesia/message.uses") (d := Rows.laid_amnesia_message_uses) (gi := 0) (t := 165) (by kernel_rfl) (by kernel_rfl) (by kernel_rfl) (by kernel_rfl) _ _ hv (List.Mem.tail _ (List.Mem.head _))
  | 1, hg' =>
    rw [nibbles1] at hg'
    injection hg' with e
    rw [← e]
    exact laid_VC (n := "amnesia/wire.nibbles") (d := Rows.laid_amnesia_wire_nibbles) (gi := 1) (t := 225) (by kernel_rfl) (by kernel_rfl) (by kernel_rfl) (by kernel_rfl) _ _ hv (List.Mem.head _)
  | n + 2, hg' => cases hg'
theorem bytes35 {H : Type} (d : DataW H) (base : Nat) {enc : TypeId × Value → H} {W : World} {sp : Nat → Bool} {held : Bool} {fuel : Nat} {cs : List Value} {p : List MemPlace} (h : DataW.trod enc Tryz.prog W base sp held fuel 35 cs = some (d, p)) : ∃ b : List UInt8, argAV Tryz.prog 35 d = .Y b := by
  have hu : Tryz.prog.underlying 35 = some (.slice 5) := by kernel_rfl
  have hb : byteT Tryz.prog 5 = true := by kernel_rfl
  have ha : aggT Tryz.prog 35 = false := by kernel_rfl
  have hud : und Tryz.prog 35 = .slice 5 := by rw [und, hu]; rfl
  rcases DataW.trod_slice hu h with ⟨_, e⟩ | ⟨a, len, cap, elems, rest, m, _, _, e, _⟩
  · cases e
    refine ⟨[], ?_⟩
    rw [argAV, ha]
    simp [avD, hud, hb]
  · injection e with e1 e2
    subst e1
    refine ⟨(elems.map (·.1)).map byteD, ?_⟩
    rw [argAV, ha]
    simp [avD, hud, hb]
theorem contract' (H : Type) (enc : TypeId × Value → H) (W : World) (base : Nat) (args : Array Value) (ds gs : List (DataW H)) (before : List MemPlace)
    (hval : ∀ (j : Nat) t v, Tryz.f4.params[j]? = some t → args[j]? = some v → Value.okWide Tryz.prog W .any base t v)
    (hW : DataW.Whole enc Tryz.prog Tryz.f4.params.toList Rows.replicaNoneSpec.vars false W args.toList ds gs before)
    (hwt : (DataW.weightsEach Tryz.prog (Tryz.f4.params.toList ++ (OpenSpec.ofChange Rows.replicaNoneSpec).bare.plain.varTypes Tryz.prog) (ds ++ gs)).all (· ≤ reachBytes) = true) (hL : laidMetH Tryz.prog Rows.replicaNoneRow.laid W) :
    Calls Tryz.prog 4 args W fun e W' => ∃ v, e = .returned v ∧ Rows.replicaNoneSpec.post enc Tryz.prog Tryz.f4 false true false false W args v W' := by
  obtain ⟨p, q, hA, hV, _, _, _⟩ := id hW
  obtain ⟨rfl, rfl⟩ := Go.ChangeShapes.trodVars_none hV
  have hA' := hA
  rw [par4] at hA'
  have hd : dOKs ds = true := by
    refine args_ok _ _ _ _ hA (by rw [par4]; kernel_rfl) ?_
    have hv0 : (OpenSpec.ofChange Rows.replicaNoneSpec).bare.plain.varTypes Tryz.prog = [] := rfl
    rw [hv0, List.append_nil, List.append_nil] at hwt
    exact hwt
  obtain ⟨v0, vs0, d, ds0, p0, q0, hargs, rfl, rfl, ⟨fuel, h1⟩, r0⟩ := Go.ChangeShapes.trodAll_cons hA'
  obtain ⟨rfl, rfl, rfl⟩ := Go.ChangeShapes.trodAll_nil r0
  obtain ⟨b, hb⟩ := bytes35 d 0 h1
  refine contract (C := cx) (fn := Tryz.f4) none_sound (by kernel_rfl) (by kernel_rfl) kids (fun a b => slicesOK_get slices a b) lt35 (by rw [par4]; kernel_rfl) (tb := 4) (by kernel_rfl) (by kernel_rfl) rfl (base := base) hval hW rfl (glob hL) hd ?_
  rw [par4]
  show GGm tab ml11 60 4 [argAV Tryz.prog 35 d] [] = _
  rw [hb]
  exact none_eval b
def layCells (vs : Array Value) : Obj → Obj
  | .cells _ t frozen => .cells vs t frozen
  | o => o
noncomputable def laidWorld (os : Os) : World :=
  { World.holding Tryz.prog os ⟨#[], #[], []⟩ with heap := ((World.holding Tryz.prog os ⟨#[], #[], []⟩).heap.modify 0 (layCells #[.bool false, .bool false, .bool false, .bool false, .bool false, .bool false, .bool false, .bool false, .bool false, .bool false, .bool false, .bool false, .bool false, .bool false, .bool false, .bool false, .bool true, .bool false, .bool false, .bool false, .bool true, .bool true, .bool false, .bool true, .bool false, .bool false, .bool true, .bool true, .bool false, .bool false, .bool true, .bool true, .bool false, .bool true, .bool true, .bool false, .bool true, .bool false, .bool false, .bool true, .bool true, .bool true, .bool false, .bool true, .bool false, .bool false, .bool false, .bool false, .bool false, .bool true, .bool true, .bool true, .bool false, .bool false, .bool true, .bool false, .bool false, .bool false, .bool false, .bool true, .bool true, .bool true, .bool false, .bool false, .bool false, .bool false, .bool false, .bool false, .bool false, .bool true, .bool true, .bool true, .bool true, .bool false, .bool true, .bool false, .bool false, .bool false, .bool true, .bool true, .bool true, .bool true, .bool false, .bool false, .bool true, .bool false, .bool false, .bool false, .bool true, .bool true, .bool true, .bool false, .bool false, .bool false, .bool false, .bool true, .bool false, .bool false, .bool false, .bool true, .bool true, .bool true, .bool false, .bool false, .bool true, .bool true, .bool false, .bool false, .bool true, .bool true, .bool true, .bool true, .bool false, .bool false, .bool false, .bool false, .bool false, .bool false, .bool false, .bool true, .bool true, .bool true, .bool false, .bool false, .bool true, .bool false, .bool false, .bool false, .bool true, .bool true, .bool false, .bool false, .bool false, .bool true, .bool false, .bool false, .bool true, .bool false, .bool false, .bool false, .bool true, .bool true, .bool false, .bool false, .bool true, .bool false, .bool true, .bool true, .bool false, .bool false])).modify 1 (layCells #[.int .u32 0, .int .u32 498536548, .int .u32 997073096, .int .u32 651767980, .int .u32 1994146192, .int .u32 1802195444, .int .u32 1303535960, .int .u32 1342533948, .int .u32 3988292384, .int .u32 4027552580, .int .u32 3604390888, .int .u32 3412177804, .int .u32 2607071920, .int .u32 2262029012, .int .u32 2685067896, .int .u32 3183342108]) }
theorem laid_met (os : Os) : laidMet Tryz.prog Rows.replicaNoneRow.laid ((laidWorld os).forCall (fun _ _ => 0) ⟨#[], #[.slice none 0 0], []⟩).memory :=
  laidMet_of_run' 8 (by kernel_rfl) (by kernel_rfl)
theorem reads (os : Os) {H : Type} (enc : TypeId × Value → H) : ∃ places, DataW.whole enc Tryz.prog ((laidWorld os).forCall (fun _ _ => 0) ⟨#[], #[.slice none 0 0], []⟩).memory Tryz.f4.params.toList Rows.replicaNoneSpec.vars false #[Value.slice none 0 0].toList 8 = some ([.nil], [], places) :=
  ⟨[], by kernel_rfl⟩
theorem lifted (os : Os) (started : os.Started) (H : Type) (enc : TypeId × Value → H) (F : Stop.Interp) :
    ReturnsInHanded {} Tryz.checked os 4 .any ((OpenSpec.ofChange Rows.replicaNoneSpec).preRow enc Tryz.prog Tryz.f4 Rows.replicaNoneRow.domain false Rows.replicaNoneRow.laid) (((OpenSpec.ofChange Rows.replicaNoneSpec).at F).post enc Tryz.prog Tryz.f4 false true false false) := by
  obtain ⟨places, hx⟩ := reads os enc
  refine returnsInHanded_of_row (C := Tryz.checked) (s := OpenSpec.ofChange Rows.replicaNoneSpec) own started (by kernel_rfl) fun4
    (witness_row_at (enc := enc) (C := Tryz.checked) false (laidWorld os) #[.slice none 0 0] rfl (by kernel_rfl) (by kernel_rfl) (by kernel_rfl)
      (OpenSpec.preRow_of_cond 8 hx (by kernel_rfl) (fun k hk => by cases hk) (by kernel_rfl) (laid_met os))) ?_
  intro W base args ds gs before hval hW _ _ hwt hL _ _
  exact contract' H enc W base args ds gs before hval hW hwt hL
theorem said : Rows.ReplicaNoneSaid :=
  OpenClaim.holds_of_cond 4 Tryz.f4 rfl rfl rfl rfl rfl rfl rfl ⟨rfl, rfl, rfl, rfl, rfl⟩ rfl rfl rfl rfl rfl (by kernel_rfl) fun4 closed
    (of_decide_eq_true (by kernel_rfl)) (by unfold Func.isWrapper; first | (rw [if_pos (by decide +kernel)]; kernel_rfl) | (rw [if_neg (by decide +kernel)]; exact ⟨rfl, rfl⟩))
    (fun os started H enc _ F => by rw [OpenClaim.pre_eq_preRow]; exact lifted os started H enc F)
theorem plain (f : FuncId) (fn : Func) (hf : Tryz.pinned.checked.prog.funcNamed "amnesia/amnesialaw13.ReplicaNone" = some f) (hfn : Tryz.pinned.checked.prog.funcs[f]? = some fn) :
    true = Tryz.pinned.checked.prog.looks [] ∧ ∀ (j : Nat) t, fn.params[j]? = some t → Tryz.pinned.checked.prog.wantsStandIn t = false := by
  obtain rfl : f = 4 := Option.some.inj ((show Tryz.prog.funcNamed "amnesia/amnesialaw13.ReplicaNone" = some 4 by kernel_rfl).symm.trans hf) |>.symm
  obtain rfl : fn = Tryz.f4 := (Option.some.inj (fun4.symm.trans hfn)).symm
  refine ⟨by kernel_rfl, fun j t ht => ?_⟩
  have ht' : t ∈ Tryz.f4.params.toList := by
    rw [← Array.getElem?_toList] at ht
    exact List.mem_of_getElem? ht
  rw [par4] at ht'
  obtain rfl : t = 35 := List.mem_singleton.1 ht'
  exact (show Tryz.prog.wantsStandIn 35 = false by kernel_rfl)
theorem card : Rows.ReplicaNoneCardSaid :=
  Claim7.holds_tied_plain_at .later [] _ _ _ _ said (fun _ h => by cases h) (by kernel_rfl) (fun _ h => by cases h) replicaNone_row_tie rfl ⟨rfl, rfl⟩ (by kernel_rfl) rfl plain (by kernel_rfl)
end Go.Proofs.YtnibamjabiagnaaGreatDoor.rowNone
