/- Part of a proof: ZzErA. -/
import Derived.Test.YtmcocdbkonefjaaGreatDoorProg
import Derived.WalkKit
import Derived.LaidEql
import Derived.Stop.Asserts
import Derived.RowKitTokens
set_option linter.unusedSimpArgs false
set_option linter.unusedVariables false
set_option linter.unusedSectionVars false
namespace Go.Vm
open Go Go.Proofs Go.RowKit Go.Extern.Stop Go.Stop Go.Extern
theorem e_valueOf27 (t:Addr) (w:World):(ReflectliteValue.unpack (.iface 171 (.pointer (some t)))).run Tryz.prog w
  = .ok (.agg #[.pointer (some ⟨14,171,none⟩), .pointer (some ⟨w.heap.size,0,none⟩), .int .u64 150]) (w.alloc (.cells #[.pointer (some t)] 171)):=by kernel_rfl
theorem e_type27 (a:Addr) (w:World):(ReflectliteValue.methodAny (ReflectliteValue.valueError "reflectlite.Value.Type" 0) (fun t _ _ _=>ReflectliteType.toType t) #[.agg #[.pointer (some ⟨14,171,none⟩), .pointer (some a), .int .u64 150]]).run Tryz.prog w
  = .ok (.iface 294 (.agg #[.pointer (some ⟨14,171,none⟩)])) w:=by kernel_rfl
theorem e_methodKind (h:Value) (w:World):(Go.method 702 294 (.agg #[h]) "Kind").run Tryz.prog w = .ok (378,h) w:=by kernel_rfl
theorem e_kind27 (w:World):((ReflectliteType.abiMethod fun t=>(fun a:Nat=>Value.int IntKind.u8 (a:Int)) <$> Rtype.kind t) #[.pointer (some ⟨14,171,none⟩)]).run Tryz.prog w = .ok (.int .u8 22) w:=by kernel_rfl
theorem e_kind25 (w:World):((ReflectliteType.abiMethod fun t=>(fun a:Nat=>Value.int IntKind.u8 (a:Int)) <$> Rtype.kind t) #[.pointer (some ⟨14,169,none⟩)]).run Tryz.prog w = .ok (.int .u8 22) w:=by kernel_rfl
theorem rlm (z:Sem Value) (f:TypeId→Addr→Nat→Nat→Sem Value) (v:Value) :
  ReflectliteValue.method z f #[v]=(do match ←ReflectliteValue.parts v with | none=>z | some (t,a,fl)=>f t a fl (fl % 32)):=rfl
theorem e_parts27 (a:Addr) (w:World):(ReflectliteValue.parts (.agg #[.pointer (some ⟨14,171,none⟩), .pointer (some a), .int .u64 150])).run Tryz.prog w = .ok (some (171,a,150)) w:=by kernel_rfl
theorem e_isNil27 (a p:Addr) (W:World) (ha:W.cell? a=some (.pointer (some p))) :
  (ReflectliteValue.method (ReflectliteValue.valueError "reflectlite.Value.IsNil" 0) ReflectliteValue.isNil #[.agg #[.pointer (some ⟨14,171,none⟩), .pointer (some a), .int .u64 150]]).run Tryz.prog W = .ok (.bool false) W:=by
 rw [rlm]
 simp only [Sem.run_bind,e_parts27,Result.andThen]
 simp [ReflectliteValue.isNil,loadVar,isAgg,underlying,Tryz.underlying171,ha,Result.andThen]
theorem e_methodElem (h:Value) (w:World):(Go.method 702 294 (.agg #[h]) "Elem").run Tryz.prog w = .ok (394, .agg #[h]) w:=by kernel_rfl
theorem e_methodImplements (h:Value) (w:World):(Go.method 702 294 (.agg #[h]) "Implements").run Tryz.prog w = .ok (395, .agg #[h]) w:=by kernel_rfl
theorem e_methodAssignableTo (h:Value) (w:World):(Go.method 702 294 (.agg #[h]) "AssignableTo").run Tryz.prog w = .ok (392, .agg #[h]) w:=by kernel_rfl
theorem e_elem27 (w:World):(ReflectliteType.method ReflectliteType.elem #[.agg #[.pointer (some ⟨14,171,none⟩)]]).run Tryz.prog w = .ok (.iface 294 (.agg #[.pointer (some ⟨14,169,none⟩)])) w:=by kernel_rfl
theorem e_implements25 (w:World):(ReflectliteType.relation "Implements" ReflectliteType.implements_ #[.agg #[.pointer (some ⟨14,169,none⟩)], .iface 294 (.agg #[.pointer (some ⟨14,166,none⟩)])]).run Tryz.prog w = .ok (.bool true) w:=by kernel_rfl
theorem e_typeOf25 (v:Value) (w:World):(ReflectliteType.typeOf #[.iface 169 v]).run Tryz.prog w = .ok (.iface 294 (.agg #[.pointer (some ⟨14,169,none⟩)])) w:=by kernel_rfl
theorem e_assignable25 (w:World):(ReflectliteType.relation "AssignableTo" ReflectliteType.assignableTo #[.agg #[.pointer (some ⟨14,169,none⟩)], .iface 294 (.agg #[.pointer (some ⟨14,169,none⟩)])]).run Tryz.prog w = .ok (.bool true) w:=by kernel_rfl
theorem e_valueOf25 (e:Addr) (w:World):(ReflectliteValue.unpack (.iface 169 (.pointer (some e)))).run Tryz.prog w
  = .ok (.agg #[.pointer (some ⟨14,169,none⟩), .pointer (some ⟨w.heap.size,0,none⟩), .int .u64 150]) (w.alloc (.cells #[.pointer (some e)] 169)):=by kernel_rfl
theorem e_elemOf27 (w:World):(Rtype.elem? 171).run Tryz.prog w = .ok (some 169) w:=by kernel_rfl
theorem e_mk25 (p:Addr) (w:World):(ReflectliteValue.mk 169 p ReflectliteValue.flagAddr).run Tryz.prog w = .ok (.agg #[.pointer (some ⟨14,169,none⟩), .pointer (some p), .int .u64 406]) w:=by kernel_rfl
theorem e_elemV27 (a p:Addr) (W:World) (ha:W.cell? a=some (.pointer (some p))) :
  (ReflectliteValue.method (ReflectliteValue.valueError "reflectlite.Value.Elem" 0) ReflectliteValue.elem #[.agg #[.pointer (some ⟨14,171,none⟩), .pointer (some a), .int .u64 150]]).run Tryz.prog W
   = .ok (.agg #[.pointer (some ⟨14,169,none⟩), .pointer (some p), .int .u64 406]) W:=by
 rw [rlm]
 simp only [Sem.run_bind,e_parts27,Result.andThen]
 simp [ReflectliteValue.elem,loadVar,isAgg,underlying,Tryz.underlying171,ha,Result.andThen,e_elemOf27,e_mk25]
theorem rls (v x:Value):ReflectliteValue.set #[v,x]=(do
  let (some (dst,a,fl),some (src,b,_)):=(←ReflectliteValue.parts v,←ReflectliteValue.parts x)
   | unsupported (.noEntry "extern/(internal/reflectlite.Value).Set.zeroValue")
  if fl / ReflectliteValue.flagAddr % 2 == 0 then unsupported (.noEntry "extern/(internal/reflectlite.Value).Set.unaddressable")
  let val ←loadVar src b
  if ←Rtype.directlyAssignable dst src then storeVar dst a val
  else if ←Rtype.implements dst src then
   if (←Rtype.kind src) == 20 then
    match val with
    | .nilIface=>unsupported (.noEntry "extern/reflectlite: a nil value of one interface type handed on as a value of another")
    | _=>storeVar dst a val
   else storeVar dst a (.iface src val)
  else panicString ("reflectlite.Set: value of type " ++ (←Rtype.spelt src) ++ " is not assignable to type " ++ (←Rtype.spelt dst))
  pure (.tuple #[])):=rfl
theorem e_parts25a (a:Addr) (w:World):(ReflectliteValue.parts (.agg #[.pointer (some ⟨14,169,none⟩), .pointer (some a), .int .u64 406])).run Tryz.prog w = .ok (some (169,a,406)) w:=by kernel_rfl
theorem e_parts25 (a:Addr) (w:World):(ReflectliteValue.parts (.agg #[.pointer (some ⟨14,169,none⟩), .pointer (some a), .int .u64 150])).run Tryz.prog w = .ok (some (169,a,150)) w:=by kernel_rfl
theorem e_direct25 (w:World):(Rtype.directlyAssignable 169 169).run Tryz.prog w = .ok true w:=by kernel_rfl
theorem e_size25 (w:World):(sizeOf 169).run Tryz.prog w = .ok 1 w:=by kernel_rfl
theorem e_set25 (ta b e:Addr) (old:Value) (W:World) (hb:W.cell? b=some (.pointer (some e))) (ht:W.cell? ta=some old) (hf:W.frozen? ta=false) :
  (ReflectliteValue.set #[.agg #[.pointer (some ⟨14,169,none⟩), .pointer (some ta), .int .u64 406], .agg #[.pointer (some ⟨14,169,none⟩), .pointer (some b), .int .u64 150]]).run Tryz.prog W
   = .ok (.tuple #[]) (W.setCell ta (.pointer (some e))):=by
 rw [rls]
 simp only [Sem.run_bind,e_parts25a,e_parts25,Result.andThen]
 simp [ReflectliteValue.flagAddr,loadVar,isAgg,underlying,Tryz.underlying169,hb,Result.andThen,e_direct25,storeVar,Value.cells,storeCells,Addr.add]
 rw [run_store Tryz.prog W ta _ _ (by rfl)]
 simp [ht,hf]
set_option maxHeartbeats 4000000 in
set_option maxRecDepth 20000 in
theorem as_hit (e t:Addr) (old:Value) (w:World) (hg:w.cell? ⟨1,0,none⟩=some (.iface 294 (.agg #[.pointer (some ⟨14,166,none⟩)]))) (ht0:w.cell? t=some old) (hf0:w.frozen? t=false) :
  Calls Tryz.prog 61 #[.iface 169 (.pointer (some e)), .iface 171 (.pointer (some t))] w fun ev w'=>ev = .returned (.bool true)∧w'=((((w.alloc (.cells #[.pointer (some t)] 171)).alloc (.cells #[.pointer (some ⟨14,171,none⟩), .pointer (some ⟨w.heap.size,0,none⟩), .int .u64 150] 218)).alloc (.cells #[.pointer (some ⟨14,171,none⟩), .pointer (some ⟨w.heap.size,0,none⟩), .int .u64 150] 218)).alloc (.cells #[.pointer (some e)] 169)).setCell t (.pointer (some e)):=by
 have h6 := @run_callFunc_extern Tryz.prog 92 _ (fun args=>ReflectliteValue.unpack (args.getD 0 (.tuple #[]))) Tryz.func92 (by kernel_rfl) (by kernel_rfl) (by kernel_rfl) (by kernel_rfl)
 have h7 := @run_callFunc_extern Tryz.prog 93 _ (ReflectliteValue.methodAny (ReflectliteValue.valueError "reflectlite.Value.Type" 0) (fun t _ _ _=>ReflectliteType.toType t)) Tryz.func93 (by kernel_rfl) (by kernel_rfl) (by kernel_rfl) (by kernel_rfl)
 have h8 := @run_callFunc_extern Tryz.prog 94 _ (ReflectliteValue.method (ReflectliteValue.valueError "reflectlite.Value.IsNil" 0) ReflectliteValue.isNil) Tryz.func94 (by kernel_rfl) (by kernel_rfl) (by kernel_rfl) (by kernel_rfl)
 have h27 := @run_callFunc_extern Tryz.prog 378 _ (ReflectliteType.abiMethod fun t=>do pure (.int .u8 (←Rtype.kind t))) Tryz.func378 (by kernel_rfl) (by kernel_rfl) (by kernel_rfl) (by kernel_rfl)
 have h37 := @run_callFunc_extern Tryz.prog 394 _ (ReflectliteType.method ReflectliteType.elem) Tryz.func394 (by kernel_rfl) (by kernel_rfl) (by kernel_rfl) (by kernel_rfl)
 have h38 := @run_callFunc_extern Tryz.prog 395 _ (ReflectliteType.relation "Implements" ReflectliteType.implements_) Tryz.func395 (by kernel_rfl) (by kernel_rfl) (by kernel_rfl) (by kernel_rfl)
 have h10 := @run_callFunc_extern Tryz.prog 96 _ ReflectliteType.typeOf Tryz.func96 (by kernel_rfl) (by kernel_rfl) (by kernel_rfl) (by kernel_rfl)
 have h35 := @run_callFunc_extern Tryz.prog 392 _ (ReflectliteType.relation "AssignableTo" ReflectliteType.assignableTo) Tryz.func392 (by kernel_rfl) (by kernel_rfl) (by kernel_rfl) (by kernel_rfl)
 have h11 := @run_callFunc_extern Tryz.prog 153 _ (ReflectliteValue.method (ReflectliteValue.valueError "reflectlite.Value.Elem" 0) ReflectliteValue.elem) Tryz.func153 (by kernel_rfl) (by kernel_rfl) (by kernel_rfl) (by kernel_rfl)
 have h12 := @run_callFunc_extern Tryz.prog 154 _ ReflectliteValue.set Tryz.func154 (by kernel_rfl) (by kernel_rfl) (by kernel_rfl) (by kernel_rfl)
 have tO:=e_typeOf25
 have mA:=e_methodAssignableTo
 have a25:=e_assignable25
 have v25:=e_valueOf25
 have f6:=e_valueOf27
 have f7:=e_type27
 have mK:=e_methodKind
 have mE:=e_methodElem
 have mI:=e_methodImplements
 have k27:=e_kind27
 have k25:=e_kind25
 have e27:=e_elem27
 have i25:=e_implements25
 have n8:=e_isNil27 ⟨w.heap.size,0,none⟩ t ((w.alloc (.cells #[.pointer (some t)] 171)).alloc (.cells #[.pointer (some ⟨14,171,none⟩), .pointer (some ⟨w.heap.size,0,none⟩), .int .u64 150] 218)) (by simp)
 have hlt:1<w.heap.size:=by
  rcases Nat.lt_or_ge 1 w.heap.size with h | h
  ·exact h
  ·simp [World.cell?,Array.getElem?_eq_none h] at hg
 have hg2:((w.alloc (.cells #[.pointer (some t)] 171)).alloc (.cells #[.pointer (some ⟨14,171,none⟩), .pointer (some ⟨w.heap.size,0,none⟩), .int .u64 150] 218)).cell? ⟨1,0,none⟩=some (.iface 294 (.agg #[.pointer (some ⟨14,166,none⟩)])):=by
  rw [World.cell?_alloc_lt _ _ ⟨1,0,none⟩ (by simp;omega),World.cell?_alloc_lt _ _ ⟨1,0,none⟩ hlt];exact hg
 have htl:t.block<w.heap.size:=by
  rcases Nat.lt_or_ge t.block w.heap.size with h | h
  ·exact h
  ·simp [World.cell?,Array.getElem?_eq_none h] at ht0
 have el:=e_elemV27 ⟨w.heap.size,0,none⟩ t (((w.alloc (.cells #[.pointer (some t)] 171)).alloc (.cells #[.pointer (some ⟨14,171,none⟩), .pointer (some ⟨w.heap.size,0,none⟩), .int .u64 150] 218)).alloc (.cells #[.pointer (some ⟨14,171,none⟩), .pointer (some ⟨w.heap.size,0,none⟩), .int .u64 150] 218)) (by rw [World.cell?_alloc_lt _ _ ⟨w.heap.size,0,none⟩ (by simp;omega)];simp)
 have st:=e_set25 t ⟨w.heap.size+1+1+1,0,none⟩ e old ((((w.alloc (.cells #[.pointer (some t)] 171)).alloc (.cells #[.pointer (some ⟨14,171,none⟩), .pointer (some ⟨w.heap.size,0,none⟩), .int .u64 150] 218)).alloc (.cells #[.pointer (some ⟨14,171,none⟩), .pointer (some ⟨w.heap.size,0,none⟩), .int .u64 150] 218)).alloc (.cells #[.pointer (some e)] 169))
  (by rw [World.cell?_alloc_at _ _ _ _ (by simp)];rfl)
  (by rw [World.cell?_alloc_lt _ _ t (by simp;omega),World.cell?_alloc_lt _ _ t (by simp;omega),World.cell?_alloc_lt _ _ t (by simp;omega),World.cell?_alloc_lt _ _ t htl];exact ht0)
  (by rw [World.frozen?_alloc_old _ _ t (by simp;omega),World.frozen?_alloc_old _ _ t (by simp;omega),World.frozen?_alloc_old _ _ t (by simp;omega),World.frozen?_alloc_old _ _ t (Nat.ne_of_lt htl)];exact hf0)
 go_enter Tryz.func61,Tryz.ntmps61
 go_wp2
 refine wp_loop_rounds 1 ?_
 rw [rounds_succ]
 go_wp2
 go_ret
 exact ⟨rfl,rfl⟩
end Go.Vm
