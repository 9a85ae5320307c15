/- Part of a proof: ZzErI. -/
import Derived.Test.YtmcocdbkonefjaaGreatDoorProg
import Derived.WalkKit
import Derived.LaidEql
import Derived.Stop.Asserts
import Derived.RowKitTokens
set_option linter.unusedSimpArgs false
set_option linter.unusedVariables false
set_option linter.unusedSectionVars false
namespace Go.Vm
open Go Go.Proofs Go.RowKit Go.Extern.Stop Go.Stop Go.Extern
def cmpE:Array Value→Sem Value:=Extern.ReflectliteType.method fun t=>do Extern.Rtype.noPackHeld "Comparable" t;pure (.bool (←typeInfo t).comparable)
theorem e_isTypeOf (v:Value) (w:World):(Extern.ReflectliteType.typeOf #[.iface 569 v]).run Tryz.prog w = .ok (.iface 294 (.agg #[.pointer (some ⟨14,569,none⟩)])) w:=by kernel_rfl
theorem e_isComparable (w:World):(cmpE #[.agg #[.pointer (some ⟨14,569,none⟩)]]).run Tryz.prog w = .ok (.bool true) w:=by kernel_rfl
theorem e_isMethodComparable (v:Value) (w:World):(Go.method 702 294 v "Comparable").run Tryz.prog w = .ok (393,v) w:=by kernel_rfl
theorem e_isComp:(Tryz.prog.info? 569).map (·.comparable)=some true:=by kernel_rfl
theorem e_isSize:(Tryz.prog.info? 590).map (·.size)=some 1:=by kernel_rfl
theorem e_noIsE (v:Value) (xT:TypeId) (w:World):(Instr.typeAssert (.iface 569 v) xT 306 true).run Tryz.prog w = .ok (.tuple #[.nilIface, .bool false]) w:=run_typeAssert_lacksB Tryz.underlying306 (by kernel_rfl) (by kernel_rfl) v xT w
theorem e_noUnwrapE (v:Value) (xT:TypeId) (w:World):(Instr.typeAssert (.iface 569 v) xT 301 true).run Tryz.prog w = .ok (.tuple #[.nilIface, .bool false]) w:=run_typeAssert_lacksB Tryz.underlying301 (by kernel_rfl) (by kernel_rfl) v xT w
theorem e_noUnwrapsE (v:Value) (xT:TypeId) (w:World):(Instr.typeAssert (.iface 569 v) xT 303 true).run Tryz.prog w = .ok (.tuple #[.nilIface, .bool false]) w:=run_typeAssert_lacksB Tryz.underlying303 (by kernel_rfl) (by kernel_rfl) v xT w
theorem e_noIsW (v:Value) (xT:TypeId) (w:World):(Instr.typeAssert (.iface 169 v) xT 306 true).run Tryz.prog w = .ok (.tuple #[.nilIface, .bool false]) w:=run_typeAssert_lacksB Tryz.underlying306 (by kernel_rfl) (by kernel_rfl) v xT w
theorem e_hasUnwrapW (v:Value) (xT:TypeId) (w:World):(Instr.typeAssert (.iface 169 v) xT 301 true).run Tryz.prog w = .ok (.tuple #[.iface 169 v, .bool true]) w:=run_typeAssert_hasB Tryz.underlying301 (by kernel_rfl) v xT w
theorem e_methodUnwrap (v:Value) (w:World):(Go.method 702 169 v "Unwrap").run Tryz.prog w = .ok (385,v) w:=by kernel_rfl
set_option maxHeartbeats 4000000 in
set_option maxRecDepth 20000 in
theorem is_wrap_other (pb po:Nat) (b a:Addr) (ca cb:Array Value) (ta tb:TypeId) (w:World) (h1:w.cell? ⟨pb,po+1,none⟩=some (.iface 569 (.pointer (some a)))) (hne:a≠b) (ha:w.heap[a.block]? = some (.cells ca ta (0,0))) (hb:w.heap[b.block]? = some (.cells cb tb (0,0))) :
  Calls Tryz.prog 62 #[.iface 169 (.pointer (some ⟨pb,po,none⟩)), .iface 569 (.pointer (some b))] w fun e w'=>e = .returned (.bool false)∧w'=w:=by
 obtain ⟨i,hi,hcmp⟩:=Option.map_eq_some_iff.1 e_isComp
 obtain ⟨j,hj,hjs⟩:=Option.map_eq_some_iff.1 e_isSize
 have h8 := @run_callFunc_extern Tryz.prog 96 _ Extern.ReflectliteType.typeOf Tryz.func96 (by kernel_rfl) (by kernel_rfl) (by kernel_rfl) (by kernel_rfl)
 have h32 := @run_callFunc_extern Tryz.prog 393 _ cmpE Tryz.func393 (by kernel_rfl) (by kernel_rfl) (by kernel_rfl) (by kernel_rfl)
 have tT:=e_isTypeOf
 have cT:=e_isComparable
 have mR:=e_isMethodComparable
 have nE:=e_noIsE
 have uE:=e_noUnwrapE
 have vE:=e_noUnwrapsE
 have nW:=e_noIsW
 have uW:=e_hasUnwrapW
 have mU:=e_methodUnwrap
 have heq:=run_eql_iface_ptr_other (P:=Tryz.prog) w Tryz.underlying166 Tryz.underlying569 hi hcmp hj (by rw [hjs];decide) hne ha hb
 have hty:=run_eql_iface_types (P:=Tryz.prog) 169 569 (.pointer (some ⟨pb,po,none⟩)) (.pointer (some b)) Tryz.underlying166 (by decide) w
 go_enter Tryz.func62,Tryz.ntmps62
 go_wp2
 refine wp_loop_rounds 2 ?_
 rw [rounds_succ]
 go_wp2
 rw [rounds_succ]
 go_wp2
 go_ret
 exact ⟨rfl,rfl⟩
end Go.Vm
