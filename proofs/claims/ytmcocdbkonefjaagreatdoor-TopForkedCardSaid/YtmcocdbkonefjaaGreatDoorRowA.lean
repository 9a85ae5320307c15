/- Part of a proof: RowA. -/
import Derived.Test.YtmcocdbkonefjaaGreatDoorCards
import Derived.Test.YtmcocdbkonefjaaGreatDoorTie
import Derived.Deep.DeepHandedRow
import Derived.Lib.LaidTab
import Derived.LaidHandle
import Derived.LaidLaws
import Derived.WalkKit
import Derived.Test.YtmcocdbkonefjaaGreatDoorZzOk
import Derived.Test.YtmcocdbkonefjaaGreatDoorFactsAll
set_option linter.unusedSimpArgs false
set_option linter.unusedVariables false
set_option linter.unusedSectionVars false
namespace Go.Vm
open Go Go.Proofs Go.RowKit Go.ChangeShapes
theorem laid_S {P:Program} {n nm:String} {text:List UInt8} {W:World} {g:Nat} {ti tp te ts:TypeId} {ms:Array (String×TypeId)} {f:Field} {PS:List MemPlace} (h1000:g<1000)
  (hg:P.globalNamed n=some g) (ht:(P.globals[g]?).map (·.type)=some ti) (hi:P.underlying ti=some (.interface ms)) (hrow:∀u,P.typeName? 3 u=some nm→u=tp)
  (hp:P.underlying tp=some (.pointer te)) (he:P.underlying te=some (.struct #[f])) (hft:f.type=ts) (hfo:f.offset=0) (hs:P.underlying ts=some .string) (hc:P.cellsOf te=1) (hcs:P.cellsOf ts=1) (hlen:text.length≤140737488355328)
  (hrows:∀b off,MemPlace.cell b off∈PS→(∃c t,W.heap[b]? = some (.cells c t (0,0)))∧∀u v,W.cell? ⟨b,off,none⟩=some (.iface u v)→Value.okWide P W .any 0 u v) :
  ∀(laid:List (String×DataW Unit)) (ps:List MemPlace),(∀m∈ps,m∈PS)→DataW.LaidVars P W laid ps→(n, .iface nm (.ptr (.agg [.lit (.string text)])))∈laid→GV (gin W) W g [.X tp (.Q [.S text])]
 | [],_,_,_,hm=>by cases hm
 | (n',d')::r,ps,hps,h,hm=>by
  obtain ⟨g0,t0,cs0,f0,p0,q0,hg0,ht0,hv0,hd0,h5,e0⟩:=h
  rcases List.mem_cons.1 hm with e | hm
  ·cases e
   obtain rfl:=Option.some.inj (hg.symm.trans hg0)
   obtain rfl:=Option.some.inj (ht.symm.trans ht0)
   subst e0
   obtain ⟨l0⟩:=cs0
   have ok0:∀u v,l0=[.iface u v]→Value.okWide P W .any 0 u v:=fun u v e=>by
    subst e
    exact (hrows g 0 (hps _ (by simp [MemPlace.row]))).2 u v (by simpa using World.var?_cell hg0 hv0 0)
   obtain ⟨a0,s0,rfl,hc0,hs0,hz0,rfl⟩:=errorString_of_trod hi hrow hp he hft hfo hs hc hcs hd0 ok0
   obtain ⟨⟨c1,t1,hn1⟩,_⟩:=hrows g 0 (hps _ (by simp [MemPlace.row]))
   obtain ⟨⟨c2,t2,hn2⟩,_⟩:=hrows a0.block (a0.off+0) (hps _ (by simp [MemPlace.row]))
   have hsp:a0=⟨a0.block,a0.off,none⟩:=by
    obtain ⟨b,o,sp⟩:=a0
    cases sp with
    | none=>rfl
    | some x=>simp [World.cell?,hn2] at hc0
   have hlt:g<W.heap.size:=(Array.getElem?_eq_some_iff.1 hn1).1
   have hlt2:a0.block<W.heap.size:=(Array.getElem?_eq_some_iff.1 hn2).1
   have hcell:∀j,W.cell? ⟨g,j,none⟩=([Value.iface tp (.pointer (some a0))]:List Value)[j]? := fun j=>by
    have:=World.var?_cell hg0 hv0 j
    simpa using this
   unfold GV
   rw [if_pos h1000]
   refine ⟨?_,hlt,by rw [hcell];rfl⟩
   simp only [VC,V]
   refine ⟨hlt,⟨_,hcell 0,⟨_,rfl,a0.block,a0.off,by rw [←hsp],⟨hlt2,⟨_,by rw [←hsp];exact hc0,⟨?_,hlen⟩,rfl⟩,trivial⟩,fun _ _ _=>⟨c2,t2,hn2⟩⟩,rfl⟩,trivial⟩
   obtain ⟨⟨sl⟩⟩:=s0
   simp only at hs0
   rw [←hs0]
  ·subst e0
   exact laid_S h1000 hg ht hi hrow hp he hft hfo hs hc hcs hlen hrows r q0 (fun m hm'=>hps m (List.mem_append_right _ hm')) h5 hm
end Go.Vm
namespace Go.Proofs.YtmcocdbkonefjaaGreatDoor.rowTop
open Go Go.Vm Go.RowKit
set_option maxRecDepth 100000
theorem own:ownKnob Tryz.prog.godebug=none:=by kernel_rfl
theorem kids:Kids Tryz.prog (· < Tryz.prog.types.size):=kids_rows (by kernel_rfl) (by kernel_rfl)
theorem slices:slicesOK Tryz.prog=true:=by kernel_rfl
theorem fun3:Tryz.prog.funcs[3]? = some Tryz.f3:=by kernel_rfl
theorem par3:Tryz.f3.params.toList=[]:=by kernel_rfl
abbrev dataL:List (String×DataW Unit):=[("amnesia/wire.nibbles",Rows.laid_amnesia_wire_nibbles),("amnesia/message.uses",Rows.laid_amnesia_message_uses),("amnesia/history.ErrRows",Rows.laid_amnesia_history_ErrRows),("amnesia/history.ErrUnasked",Rows.laid_amnesia_history_ErrUnasked),("amnesia/history.ErrAgain",Rows.laid_amnesia_history_ErrAgain),("amnesia/history.ErrParted",Rows.laid_amnesia_history_ErrParted),("amnesia/history.ErrGap",Rows.laid_amnesia_history_ErrGap),("amnesia/history.ErrReply",Rows.laid_amnesia_history_ErrReply),("amnesia/history.ErrForgot",Rows.laid_amnesia_history_ErrForgot),("amnesia/history.ErrLead",Rows.laid_amnesia_history_ErrLead),("amnesia/history.ErrLogs",Rows.laid_amnesia_history_ErrLogs),("amnesia/history.ErrSpoke",Rows.laid_amnesia_history_ErrSpoke),("amnesia/history.ErrRead",Rows.laid_amnesia_history_ErrRead)]
abbrev hdlL:List (String×DataW Unit):=[("errors.errorType",Rows.laid_errors_errorType)]
theorem parts (W:World):laidMetH Tryz.prog Rows.topForkedRow.laid W=(laidMet Tryz.prog dataL W∧handlesMet Tryz.prog hdlL W):=by kernel_rfl
theorem rt:(Tryz.prog.cutTypes.find? (·.1 == "internal/reflectlite.rtype")).map (·.2)=some 294:=by kernel_rfl
theorem et:Tryz.prog.globalNamed "errors.errorType" = some 1:=by kernel_rfl
theorem size:Tryz.prog.types.size=602:=by kernel_rfl
theorem oneRow:((List.range 602).filter fun t=>Tryz.prog.rowNamed t [101,114,114,111,114])=[166]:=by kernel_rfl
theorem handle {W:World} (h:handlesMet Tryz.prog hdlL W):W.cell? ⟨1,0,none⟩=some (.iface 294 (.agg #[.pointer (some ⟨14,166,none⟩)])):=by
 obtain ⟨name,u,ty,e1,e2,e3,e4,e5⟩:=h _ (List.mem_singleton.2 rfl)
 have en:name=[101,114,114,111,114]:=(Option.some.inj e1).symm
 subst en
 obtain rfl:=Option.some.inj (rt.symm.trans e2)
 have hm:ty∈(List.range 602).filter fun t=>Tryz.prog.rowNamed t [101,114,114,111,114]:=List.mem_filter.2 ⟨List.mem_range.2 (by rw [←size];exact e3),e4⟩
 rw [oneRow] at hm
 obtain rfl:=List.mem_singleton.1 hm
 have hh:typeHandle Tryz.prog 166 = .pointer (some ⟨14,166,none⟩):=by kernel_rfl
 rw [hh] at e5
 simpa using World.var?_cell et e5 0
theorem uses2:globs 2=some (avD (H:=Unit) Tryz.prog 20 350 Rows.laid_amnesia_message_uses):=by kernel_rfl
theorem nibbles13:globs 13=some (avD (H:=Unit) Tryz.prog 20 410 Rows.laid_amnesia_wire_nibbles):=by kernel_rfl
theorem nameOut:∀u,Tryz.prog.typeName? 3 u=some "*errors.errorString" → u=569:=fun u h=>
 typeName_ptr_named (nm := "errors.errorString") (by rw [show "*" ++ "errors.errorString" = "*errors.errorString" by decide];kernel_rfl) (by kernel_rfl) (by decide) u (by rw [show "*" ++ "errors.errorString" = "*errors.errorString" by decide];exact h)
theorem glob {W:World} (h:laidMetH Tryz.prog Rows.topForkedRow.laid W):GlobR cx (gin W) W:=by
 rw [parts] at h
 obtain ⟨⟨ps,hv,_,hrows⟩,hh⟩:=h
 intro gi cs hg
 have hg':globs gi=some cs:=hg
 have sent:∀(n:String) (text:List UInt8) (g:Nat),Tryz.prog.globalNamed n=some g→(Tryz.prog.globals[g]?).map (·.type)=some 166→g<1000→text.length≤140737488355328→(n,(.iface "*errors.errorString" (.ptr (.agg [.lit (.string text)])):DataW Unit))∈dataL→GV (gin W) W g [.X 569 (.Q [.S text])]:=
  fun n text g h1 h2 h3 h4 h5=>laid_S h3 h1 h2 Tryz.underlying166 nameOut Tryz.underlying569 Tryz.underlying590 rfl rfl Tryz.underlying9 (by kernel_rfl) (by kernel_rfl) h4 hrows dataL ps (fun _ h=>h) hv h5
 match gi,hg' with
 | 0,hg'=>
  cases hg'
  exact sent "amnesia/history.ErrRows" [114,111,119,115,32,116,104,97,116,32,109,97,121,32,110,111,116,32,98,101] 0 (by kernel_rfl) (by kernel_rfl) (by decide) (by decide) (List.Mem.tail _ (List.Mem.tail _ (List.Mem.head _)))
 | 2,hg'=>
  rw [uses2] at hg'
  injection hg' with e
  rw [←e]
  exact laid_VC (n := "amnesia/message.uses") (d:=Rows.laid_amnesia_message_uses) (gi:=2) (t:=350) (by decide) (by kernel_rfl) (by kernel_rfl) (by kernel_rfl) (by kernel_rfl) _ _ hv (List.Mem.tail _ (List.Mem.head _))
 | 3,hg'=>
  cases hg'
  exact sent "amnesia/history.ErrGap" [97,110,32,101,110,116,114,121,32,98,101,104,105,110,100,32,97,32,112,108,97,99,101,32,116,104,97,116,32,110,111,98,111,100,121,32,99,97,114,114,105,101,100,32,111,117,116] 3 (by kernel_rfl) (by kernel_rfl) (by decide) (by decide) (List.Mem.tail _ (List.Mem.tail _ (List.Mem.tail _ (List.Mem.tail _ (List.Mem.tail _ (List.Mem.tail _ (List.Mem.head _)))))))
 | 4,hg'=>
  cases hg'
  exact sent "amnesia/history.ErrParted" [116,119,111,32,101,110,116,114,105,101,115,32,105,110,32,111,110,101,32,112,108,97,99,101] 4 (by kernel_rfl) (by kernel_rfl) (by decide) (by decide) (List.Mem.tail _ (List.Mem.tail _ (List.Mem.tail _ (List.Mem.tail _ (List.Mem.tail _ (List.Mem.head _))))))
 | 5,hg'=>
  cases hg'
  exact sent "amnesia/history.ErrUnasked" [97,110,32,101,110,116,114,121,32,116,104,97,116,32,110,111,32,99,108,105,101,110,116,32,97,115,107,101,100,32,102,111,114] 5 (by kernel_rfl) (by kernel_rfl) (by decide) (by decide) (List.Mem.tail _ (List.Mem.tail _ (List.Mem.tail _ (List.Mem.head _))))
 | 6,hg'=>
  cases hg'
  exact sent "amnesia/history.ErrAgain" [97,32,114,101,113,117,101,115,116,32,116,104,97,116,32,115,116,97,110,100,115,32,105,110,32,116,119,111,32,112,108,97,99,101,115] 6 (by kernel_rfl) (by kernel_rfl) (by decide) (by decide) (List.Mem.tail _ (List.Mem.tail _ (List.Mem.tail _ (List.Mem.tail _ (List.Mem.head _)))))
 | 7,hg'=>
  cases hg'
  exact sent "amnesia/history.ErrLead" [97,32,110,101,119,32,112,114,105,109,97,114,121,32,116,104,97,116,32,108,97,99,107,115,32,97,110,32,101,110,116,114,121] 7 (by kernel_rfl) (by kernel_rfl) (by decide) (by decide) (List.Mem.tail _ (List.Mem.tail _ (List.Mem.tail _ (List.Mem.tail _ (List.Mem.tail _ (List.Mem.tail _ (List.Mem.tail _ (List.Mem.tail _ (List.Mem.tail _ (List.Mem.head _))))))))))
 | 8,hg'=>
  cases hg'
  exact sent "amnesia/history.ErrLogs" [97,32,118,105,101,119,32,116,104,97,116,32,119,97,115,32,115,116,97,114,116,101,100,32,116,119,105,99,101] 8 (by kernel_rfl) (by kernel_rfl) (by decide) (by decide) (List.Mem.tail _ (List.Mem.tail _ (List.Mem.tail _ (List.Mem.tail _ (List.Mem.tail _ (List.Mem.tail _ (List.Mem.tail _ (List.Mem.tail _ (List.Mem.tail _ (List.Mem.tail _ (List.Mem.head _)))))))))))
 | 9,hg'=>
  cases hg'
  exact sent "amnesia/history.ErrForgot" [97,32,114,101,116,117,114,110,101,100,32,114,101,112,108,105,99,97,32,116,104,97,116,32,108,97,99,107,115,32,97,110,32,101,110,116,114,121] 9 (by kernel_rfl) (by kernel_rfl) (by decide) (by decide) (List.Mem.tail _ (List.Mem.tail _ (List.Mem.tail _ (List.Mem.tail _ (List.Mem.tail _ (List.Mem.tail _ (List.Mem.tail _ (List.Mem.tail _ (List.Mem.head _)))))))))
 | 10,hg'=>
  cases hg'
  exact sent "amnesia/history.ErrReply" [97,32,114,101,112,108,121,32,116,104,97,116,32,116,104,101,32,108,101,100,103,101,114,32,100,111,101,115,32,110,111,116,32,103,105,118,101] 10 (by kernel_rfl) (by kernel_rfl) (by decide) (by decide) (List.Mem.tail _ (List.Mem.tail _ (List.Mem.tail _ (List.Mem.tail _ (List.Mem.tail _ (List.Mem.tail _ (List.Mem.tail _ (List.Mem.head _))))))))
 | 11,hg'=>
  cases hg'
  exact sent "amnesia/history.ErrSpoke" [97,32,114,101,99,111,118,101,114,105,110,103,32,114,101,112,108,105,99,97,32,116,104,97,116,32,115,101,110,116,32,109,111,114,101,32,116,104,97,110,32,82,101,99,111,118,101,114,121] 11 (by kernel_rfl) (by kernel_rfl) (by decide) (by decide) (List.Mem.tail _ (List.Mem.tail _ (List.Mem.tail _ (List.Mem.tail _ (List.Mem.tail _ (List.Mem.tail _ (List.Mem.tail _ (List.Mem.tail _ (List.Mem.tail _ (List.Mem.tail _ (List.Mem.tail _ (List.Mem.head _))))))))))))
 | 12,hg'=>
  cases hg'
  exact sent "amnesia/history.ErrRead" [97,32,114,101,97,100,105,110,103,32,116,104,97,116,32,105,115,32,110,111,116,32,111,102,32,116,104,101,32,115,101,113,117,101,110,99,101,44,32,111,114,32,116,104,97,116,32,103,111,101,115,32,98,97,99,107] 12 (by kernel_rfl) (by kernel_rfl) (by decide) (by decide) (List.Mem.tail _ (List.Mem.tail _ (List.Mem.tail _ (List.Mem.tail _ (List.Mem.tail _ (List.Mem.tail _ (List.Mem.tail _ (List.Mem.tail _ (List.Mem.tail _ (List.Mem.tail _ (List.Mem.tail _ (List.Mem.tail _ (List.Mem.head _)))))))))))))
 | 13,hg'=>
  rw [nibbles13] at hg'
  injection hg' with e
  rw [←e]
  exact laid_VC (n := "amnesia/wire.nibbles") (d:=Rows.laid_amnesia_wire_nibbles) (gi:=13) (t:=410) (by decide) (by kernel_rfl) (by kernel_rfl) (by kernel_rfl) (by kernel_rfl) _ _ hv (List.Mem.head _)
 | 1001,hg'=>
  cases hg'
  unfold GV
  rw [if_neg (by omega)]
  have hc:=handle hh
  refine ⟨294,14,166,rfl,?_,hc⟩
  show 1<W.heap.size
  rcases Nat.lt_or_ge 1 W.heap.size with h | h
  ·exact h
  ·simp [World.cell?,Array.getElem?_eq_none h] at hc
theorem contract' (H:Type) (enc:TypeId×Value→H) (W:World) (base:Nat) (args:Array Value) (ds gs:List (DataW H)) (before:List MemPlace)
  (hval:∀(j:Nat) t v,Tryz.f3.params[j]? = some t→args[j]? = some v→Value.okWide Tryz.prog W .any base t v)
  (hW:DataW.Whole enc Tryz.prog Tryz.f3.params.toList Rows.topForkedSpec.vars false W args.toList ds gs before) (hL:laidMetH Tryz.prog Rows.topForkedRow.laid W) :
  Calls Tryz.prog 3 args W fun e W'=>∃v,e = .returned v∧Rows.topForkedSpec.post enc Tryz.prog Tryz.f3 false true false false W args v W':=by
 obtain ⟨p,q,hA,hV,_,_,_⟩:=id hW
 obtain ⟨rfl,rfl⟩:=Go.ChangeShapes.trodVars_none hV
 have hA':=hA
 rw [par3] at hA'
 obtain ⟨hargs,rfl,rfl⟩:=Go.ChangeShapes.trodAll_nil hA'
 obtain ⟨S,hS,hev⟩:=w493
 refine contract (C:=cx) (fn:=Tryz.f3) (S:=S) hS (by kernel_rfl) (by kernel_rfl) kids (fun a b=>slicesOK_get slices a b) (by rw [par3];intro t ht;cases ht) (by rw [par3];rfl) (tb:=4) (by kernel_rfl) (by kernel_rfl) rfl (base:=base) hval hW rfl (glob hL) rfl fun _ => ?_
 rw [par3]
 exact hev
def layCells (vs:Array Value):Obj→Obj
 | .cells _ t frozen => .cells vs t frozen
 | o=>o
noncomputable def low:Nat:=(World.holding Tryz.prog default ⟨#[],#[],[]⟩).heap.size
def errBlocks:Array Obj := #[.cells #[.string ⟨#[114,111,119,115,32,116,104,97,116,32,109,97,121,32,110,111,116,32,98,101]⟩] 590, .cells #[.string ⟨#[97,110,32,101,110,116,114,121,32,98,101,104,105,110,100,32,97,32,112,108,97,99,101,32,116,104,97,116,32,110,111,98,111,100,121,32,99,97,114,114,105,101,100,32,111,117,116]⟩] 590, .cells #[.string ⟨#[116,119,111,32,101,110,116,114,105,101,115,32,105,110,32,111,110,101,32,112,108,97,99,101]⟩] 590, .cells #[.string ⟨#[97,110,32,101,110,116,114,121,32,116,104,97,116,32,110,111,32,99,108,105,101,110,116,32,97,115,107,101,100,32,102,111,114]⟩] 590, .cells #[.string ⟨#[97,32,114,101,113,117,101,115,116,32,116,104,97,116,32,115,116,97,110,100,115,32,105,110,32,116,119,111,32,112,108,97,99,101,115]⟩] 590, .cells #[.string ⟨#[97,32,110,101,119,32,112,114,105,109,97,114,121,32,116,104,97,116,32,108,97,99,107,115,32,97,110,32,101,110,116,114,121]⟩] 590, .cells #[.string ⟨#[97,32,118,105,101,119,32,116,104,97,116,32,119,97,115,32,115,116,97,114,116,101,100,32,116,119,105,99,101]⟩] 590, .cells #[.string ⟨#[97,32,114,101,116,117,114,110,101,100,32,114,101,112,108,105,99,97,32,116,104,97,116,32,108,97,99,107,115,32,97,110,32,101,110,116,114,121]⟩] 590, .cells #[.string ⟨#[97,32,114,101,112,108,121,32,116,104,97,116,32,116,104,101,32,108,101,100,103,101,114,32,100,111,101,115,32,110,111,116,32,103,105,118,101]⟩] 590, .cells #[.string ⟨#[97,32,114,101,99,111,118,101,114,105,110,103,32,114,101,112,108,105,99,97,32,116,104,97,116,32,115,101,110,116,32,109,111,114,101,32,116,104,97,110,32,82,101,99,111,118,101,114,121]⟩] 590, .cells #[.string ⟨#[97,32,114,101,97,100,105,110,103,32,116,104,97,116,32,105,115,32,110,111,116,32,111,102,32,116,104,101,32,115,101,113,117,101,110,99,101,44,32,111,114,32,116,104,97,116,32,103,111,101,115,32,98,97,99,107]⟩] 590]
noncomputable def laidWorld (os:Os):World := { World.holding Tryz.prog os ⟨errBlocks,#[],[]⟩ with heap:=(((((((((((((((World.holding Tryz.prog os ⟨errBlocks,#[],[]⟩).heap.modify 1 (layCells #[.iface 294 (.agg #[.pointer (some ⟨14,166,none⟩)])])).modify 2 (layCells #[.bool false, .bool false, .bool false, .bool false, .bool false, .bool false, .bool false, .bool false, .bool false, .bool false, .bool false, .bool false, .bool false, .bool false, .bool false, .bool false, .bool true, .bool false, .bool false, .bool false, .bool true, .bool true, .bool false, .bool true, .bool false, .bool false, .bool true, .bool true, .bool false, .bool false, .bool true, .bool true, .bool false, .bool true, .bool true, .bool false, .bool true, .bool false, .bool false, .bool true, .bool true, .bool true, .bool false, .bool true, .bool false, .bool false, .bool false, .bool false, .bool false, .bool true, .bool true, .bool true, .bool false, .bool false, .bool true, .bool false, .bool false, .bool false, .bool false, .bool true, .bool true, .bool true, .bool false, .bool false, .bool false, .bool false, .bool false, .bool false, .bool false, .bool true, .bool true, .bool true, .bool true, .bool false, .bool true, .bool false, .bool false, .bool false, .bool true, .bool true, .bool true, .bool true, .bool false, .bool false, .bool true, .bool false, .bool false, .bool false, .bool true, .bool true, .bool true, .bool false, .bool false, .bool false, .bool false, .bool true, .bool false, .bool false, .bool false, .bool true, .bool true, .bool true, .bool false, .bool false, .bool true, .bool true, .bool false, .bool false, .bool true, .bool true, .bool true, .bool true, .bool false, .bool false, .bool false, .bool false, .bool false, .bool false, .bool false, .bool true, .bool true, .bool true, .bool false, .bool false, .bool true, .bool false, .bool false, .bool false, .bool true, .bool true, .bool false, .bool false, .bool false, .bool true, .bool false, .bool false, .bool true, .bool false, .bool false, .bool false, .bool true, .bool true, .bool false, .bool false, .bool true, .bool false, .bool true, .bool true, .bool false, .bool false])).modify 13 (layCells #[.int .u32 0, .int .u32 498536548, .int .u32 997073096, .int .u32 651767980, .int .u32 1994146192, .int .u32 1802195444, .int .u32 1303535960, .int .u32 1342533948, .int .u32 3988292384, .int .u32 4027552580, .int .u32 3604390888, .int .u32 3412177804, .int .u32 2607071920, .int .u32 2262029012, .int .u32 2685067896, .int .u32 3183342108])).modify 0 (layCells #[.iface 569 (.pointer (some ⟨low+0,0,none⟩))])).modify 3 (layCells #[.iface 569 (.pointer (some ⟨low+1,0,none⟩))])).modify 4 (layCells #[.iface 569 (.pointer (some ⟨low+2,0,none⟩))])).modify 5 (layCells #[.iface 569 (.pointer (some ⟨low+3,0,none⟩))])).modify 6 (layCells #[.iface 569 (.pointer (some ⟨low+4,0,none⟩))])).modify 7 (layCells #[.iface 569 (.pointer (some ⟨low+5,0,none⟩))])).modify 8 (layCells #[.iface 569 (.pointer (some ⟨low+6,0,none⟩))])).modify 9 (layCells #[.iface 569 (.pointer (some ⟨low+7,0,none⟩))])).modify 10 (layCells #[.iface 569 (.pointer (some ⟨low+8,0,none⟩))])).modify 11 (layCells #[.iface 569 (.pointer (some ⟨low+9,0,none⟩))])).modify 12 (layCells #[.iface 569 (.pointer (some ⟨low+10,0,none⟩))])) }
theorem laid_met (os:Os):laidMetH Tryz.prog Rows.topForkedRow.laid ((laidWorld os).forCall (fun _ _=>0) ⟨#[],#[],[]⟩).memory:=
 laidMetH_of_parts (laidMet_of_run' 8 (by kernel_rfl) (by kernel_rfl)) (by kernel_rfl)
theorem reads (os:Os) {H:Type} (enc:TypeId×Value→H):∃places,DataW.whole enc Tryz.prog ((laidWorld os).forCall (fun _ _=>0) ⟨#[],#[],[]⟩).memory Tryz.f3.params.toList Rows.topForkedSpec.vars false (#[]:Array Value).toList 8=some ([],[],places):=
 ⟨[],by kernel_rfl⟩
theorem lifted (os:Os) (started:os.Started) (H:Type) (enc:TypeId×Value→H) (F:Stop.Interp) :
  ReturnsInHanded {} Tryz.checked os 3 .any ((OpenSpec.ofChange Rows.topForkedSpec).preRow enc Tryz.prog Tryz.f3 Rows.topForkedRow.domain false Rows.topForkedRow.laid) (((OpenSpec.ofChange Rows.topForkedSpec).at F).post enc Tryz.prog Tryz.f3 false true false false):=by
 obtain ⟨places,hx⟩:=reads os enc
 refine returnsInHanded_of_row (C:=Tryz.checked) (s:=OpenSpec.ofChange Rows.topForkedSpec) own started (by kernel_rfl) fun3
  (witness_row_at (enc:=enc) (C:=Tryz.checked) false (laidWorld os) #[] rfl (by kernel_rfl) (by kernel_rfl) (by kernel_rfl)
   (OpenSpec.preRow_of_cond 8 hx (by kernel_rfl) (fun k hk=>by cases hk) (by kernel_rfl) (laid_met os))) ?_
 intro W base args ds gs before hval hW _ _ hwt hL _ _
 exact contract' H enc W base args ds gs before hval hW hL
theorem said:Rows.TopForkedSaid:=
 OpenClaim.holds_of_cond 3 Tryz.f3 rfl rfl rfl rfl rfl rfl rfl ⟨rfl,rfl,rfl,rfl,rfl⟩ rfl rfl rfl rfl rfl (by kernel_rfl) fun3 closed
  (of_decide_eq_true (by kernel_rfl)) (by unfold Func.isWrapper;first | (rw [if_pos (by decide +kernel)];kernel_rfl) | (rw [if_neg (by decide +kernel)];exact ⟨rfl,rfl⟩))
  (fun os started H enc _ F=>by rw [OpenClaim.pre_eq_preRow];exact lifted os started H enc F)
theorem plain (f:FuncId) (fn:Func) (hf:Tryz.pinned.checked.prog.funcNamed "amnesia/amnesiatop.TopForked" = some f) (hfn:Tryz.pinned.checked.prog.funcs[f]? = some fn) :
  true=Tryz.pinned.checked.prog.looks []∧∀(j:Nat) t,fn.params[j]? = some t→Tryz.pinned.checked.prog.wantsStandIn t=false:=by
 obtain rfl:f=3:=Option.some.inj ((show Tryz.prog.funcNamed "amnesia/amnesiatop.TopForked" = some 3 by kernel_rfl).symm.trans hf) |>.symm
 obtain rfl:fn=Tryz.f3:=(Option.some.inj (fun3.symm.trans hfn)).symm
 refine ⟨by kernel_rfl,fun j t ht => ?_⟩
 have ht':t∈Tryz.f3.params.toList:=by
  rw [←Array.getElem?_toList] at ht
  exact List.mem_of_getElem? ht
 rw [par3] at ht'
 cases ht'
end Go.Proofs.YtmcocdbkonefjaaGreatDoor.rowTop
