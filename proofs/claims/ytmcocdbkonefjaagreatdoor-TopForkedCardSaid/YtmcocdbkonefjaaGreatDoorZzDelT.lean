/- Part of a proof: ZzDelT. -/
import Derived.Test.YtmcocdbkonefjaaGreatDoorProg
import Derived.WalkKit
import Derived.Deep.LoopGhost
import Derived.Deep.RegionLaw
import Derived.Shelf.RegionOpenPlain
import Derived.Lib.SliceRun
import Derived.Test.YtmcocdbkonefjaaGreatDoorVG
set_option linter.unusedSimpArgs false
set_option linter.unusedVariables false
set_option linter.unusedSectionVars false
namespace Go.Vm
open Go Go.Proofs Go.RowKit Go.Lib
def zc (n:Nat):List Value:=(Builtin.zeroCells (Value.agg #[.int .i64 0, .int .i64 0, .slice none 0 0]).cells n).toList
theorem zc_length (n:Nat):(zc n).length=n*3:=by simp [zc,Builtin.zeroCells,Value.cells]
theorem zc_one (n:Nat):∀v∈zc n,v.oneCell'=true:=by
 intro v hv
 simp only [zc,Builtin.zeroCells,Value.cells,Array.toList_map,Array.toList_range,List.mem_map] at hv
 obtain ⟨k,_,rfl⟩:=hv
 have:k % 3<3:=Nat.mod_lt _ (by omega)
 show (#[Value.int .i64 0, .int .i64 0, .slice none 0 0][k % 3]!).oneCell'=true
 match h:k % 3,this with
 | 0,_=>rfl
 | 1,_=>rfl
 | 2,_=>rfl
set_option maxHeartbeats 4000000 in
set_option maxRecDepth 1000000 in
theorem del_walk (b len cap i j:Nat) (news:List Value) (w:World) (hij:i<j) (hj:j≤len) (hl:len≤cap) (hm:cap≤9223372036854775807)
  (hlen:news.length=(len-j)*3) (hone:∀u∈news,u.oneCell'=true)
  (hsrc0:∀t u,news[t]? = some u→w.cell? ⟨b,j*3+t,none⟩=some u) (hc:∀t,t<cap*3→(w.cell? ⟨b,t,none⟩).isSome=true) (hf:∀t,t<cap*3→w.frozen? ⟨b,t,none⟩=false) :
  Calls Tryz.prog 169 #[.slice (some ⟨b,0,none⟩) len cap, .int .i64 i, .int .i64 j] w fun e w'=>e = .returned (.slice (some ⟨b,0,none⟩) (i+(len-j)) cap) ∧
   w'=(w.drew.setCells b (i*3) news).setCells b ((i+(len-j))*3) (zc (len-(i+(len-j)))):=by
 have mixed:Tryz.prog.follows .mixedOrders=true:=by kernel_rfl
 obtain ⟨i0,hi0,hz0,hz1,hz2⟩:=info_parts (show (Tryz.prog.info? 118).map (fun i=>(i.zero,i.size,i.bytes))=some (some (.agg #[.int .i64 0, .int .i64 0, .slice none 0 0]),3,40) by kernel_rfl)
 obtain ⟨A,hA,hsrc⟩:∃A:Addr,(if cap=j then some (⟨b,0,none⟩:Addr) else some ⟨b,j*3,none⟩)=some A∧Hid (∀t u,news[t]? = some u→w.drew.cell? (A.add t)=some u):=by
  by_cases h:cap=j
  ·refine ⟨⟨b,0,none⟩,by simp [h],fun t u hu => ?_⟩
   have h0:news.length=0:=by rw [hlen];omega
   rw [List.length_eq_zero_iff.1 h0] at hu
   simp at hu
  ·refine ⟨⟨b,j*3,none⟩,by simp [h],fun t u hu => ?_⟩
   rw [Addr.add_lit]
   exact hsrc0 t u hu
 have s1:Hid (news.length=(len-j)*3):=hlen
 have s2:Hid (∀u∈news,u.oneCell'=true):=hone
 have s3:Hid (∀t,t<news.length→(w.drew.cell? ⟨b,0+i*3+t,none⟩).isSome=true∧w.drew.frozen? ⟨b,0+i*3+t,none⟩=false):=by
  intro t ht
  rw [hlen] at ht
  rw [Nat.zero_add]
  exact ⟨hc _ (by omega),hf _ (by omega)⟩
 obtain ⟨W1,hW1⟩:∃W1,W1=w.drew.setCells b (0+i*3) news:=⟨_,rfl⟩
 have hc1:∀t,t<cap*3→(W1.cell? ⟨b,t,none⟩).isSome=true∧W1.frozen? ⟨b,t,none⟩=false:=by
  intro t ht
  rw [hW1,World.frozen?_setCells]
  refine ⟨?_,hf t ht⟩
  have hin:∀k,k<news.length→(w.drew.cell? ⟨b,0+i*3+k,none⟩).isSome=true:=fun k hk=>(s3.out k hk).1
  by_cases h:i*3≤t∧t<i*3+news.length
  ·have:=World.cell?_setCells_in b news (0+i*3) w.drew hin (t-i*3) (by omega)
   rw [show 0+i*3+(t-i*3)=t by omega] at this
   rw [this];rfl
  ·rw [World.cell?_setCells_out b news _ _ _ (fun _ _=>by show t<_∨_≤t;omega)]
   exact hc t ht
 have hst:=run_storeCells_cells (P:=Tryz.prog) b ((i+(len-j))*3) (zc (len-(i+(len-j)))) 0 W1 (fun t ht=>by rw [zc_length] at ht;exact (hc1 _ (by omega)).1) (fun t ht=>by rw [zc_length] at ht;exact (hc1 _ (by omega)).2) (zc_one _)
 obtain ⟨m,hm'⟩:∃m,len-(i+(len-j))=m+1:=⟨len-(i+(len-j))-1,by omega⟩
 have hcl:∀ty,(Builtin.clear_ #[158] ty #[.slice (some ⟨b,(i+(len-j))*3,none⟩) (len-(i+(len-j))) (cap-(i+(len-j)))]).run Tryz.prog W1 = .ok (.tuple #[]) (W1.setCells b ((i+(len-j))*3) (zc (len-(i+(len-j))))):=by
  intro ty
  rw [Nat.add_zero] at hst
  rw [hm'] at hst ⊢
  have hst':Sem.run Tryz.prog (storeCells ⟨b,(i+(len-j))*3,none⟩ (Builtin.zeroCells (Value.agg #[.int .i64 0, .int .i64 0, .slice none 0 0]).cells (m+1)).toList 0) W1=_:=hst
  simp only [Builtin.clear_,Sem.run_bind,List.getElem?_toArray,List.getElem?_cons_zero,run_underlying (show Tryz.prog.underlying 158=some (.slice 118) by kernel_rfl),Result.andThen_ok,Tryz.zeroValue118,hst']
  rfl
 have hW:Hid (W1=w.drew.setCells b (0+i*3) news):=hW1
 have hic:i≤cap:=by omega
 have hjc:j≤cap:=by omega
 clear hW1 hsrc0 hlen hc hf hc1 hst hm'
 go_enter Tryz.func169,Tryz.ntmps169
 go_wp2_with fail
 go_region_law_o (refine step_append_room rfl (.tmp 22) (.tmp 25) 158 rfl 118 i0 3 (show Tryz.prog.underlying 158=some (.slice 118) by kernel_rfl) hi0 hz1 b 0 i cap (by simp [Act.eval,Act.put]) A (len-j) (cap-j) news (by simp [Act.eval,Act.put]) s1.out hsrc.out s2.out (by omega) s3.out ?_;rw [←hW.out])
 go_wp2
 go_ret
 refine ⟨rfl,?_⟩
 rw [hW.out,Nat.zero_add]
theorem del169:DelC Tryz.prog 169:=by
 refine ⟨⟨Tryz.f169,by kernel_rfl,by kernel_rfl,by decide⟩,fun b len cap i j news w h1 h2 h3 h4 h5 h6 h7 h8 h9=>(del_walk b len cap i j news w h1 h2 h3 h4 h5 h6 h7 h8 h9).mono ?_⟩
 rintro e w' ⟨rfl,rfl⟩
 exact ⟨rfl,_,zc_length _,rfl⟩
end Go.Vm
