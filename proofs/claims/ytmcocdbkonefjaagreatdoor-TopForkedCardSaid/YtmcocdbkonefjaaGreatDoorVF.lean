/- Part of a proof: VmK, VmQ0, VmQ, VmQ2, VmX, VmDc, VmQ3, VmNet, VmLed. -/
import Derived.Test.YtmcocdbkonefjaaGreatDoorVE
import Derived.Laws.IdiomRangeMap
import Derived.Test.YtmcocdbkonefjaaGreatDoorVA
import Derived.Test.YtmcocdbkonefjaaGreatDoorVC
set_option linter.unusedSimpArgs false
set_option linter.unusedVariables false
set_option linter.unusedSectionVars false
namespace Go.Vm
open Go
theorem run_getObjG {P:Program} {w:World} {l:Nat} {o:Obj} (h:w.heap[l]? = some o) (hn:ncell o=true:=by rfl):(getObj l).run P w = .ok o w:=by
 simp only [getObj,Sem.run,h]
 cases o<;>simp_all [ncell]
theorem run_setObjG {P:Program} {w:World} {l:Nat} {o:Obj} (o':Obj) (h:w.heap[l]? = some o) (hn:ncell o=true:=by rfl):(setObj l o').run P w = .ok () (w.putObj l o'):=by
 simp only [setObj,Sem.run,h,World.putObj]
 cases o<;>simp_all [ncell]
theorem run_nextG {P:Program} (w:World) (ty:TypeId) (it bm since c0:Nat) (seen:Array Nat) (es:Array MapEntry) (clock:Nat) (hit:w.heap[it]? = some (.mapIter (some bm) since seen c0)) (hb:w.heap[bm]? = some (.map es clock))
  (hold:∀x∈es.toList,x.born<since) (hsc:since≤c0) :
  ((leftOf es seen).toList=[]∧(Instr.next (.pointer (some ⟨it,0,none⟩)) false ty).run P w = .ok (.tuple #[.bool false]) w) ∨
  ∃(j:Nat) (e:MapEntry) (w1:World),(leftOf es seen).toList[j]? = some e∧(w1=w∨w1=w.drew)∧(Instr.next (.pointer (some ⟨it,0,none⟩)) false ty).run P w = .ok (.tuple #[.bool true,e.key,e.val]) (w1.putObj it (.mapIter (some bm) since (seen.push e.born) clock)):=by
 simp only [Instr.next,Sem.run_bind,run_getObjG hit,run_getObjG hb,Result.andThen,next_test_false seen es since c0 hold hsc,Bool.false_eq_true,if_false]
 unfold leftOf
 have hmem:∀x∈(Array.filter (fun e => !seen.contains e.born) es).toList,x.born<since:=fun x hx=>hold x (by simp at hx ⊢;exact hx.1)
 generalize Array.filter (fun e => !seen.contains e.born) es=L at hmem ⊢
 have e1:L.filter (fun x=>decide (x.born<since))=L:=Array.filter_eq_self.2 (fun x hx=>by simpa using hmem x (by simpa using hx))
 have e2:L.filter (fun x=>decide (x.born≥since)) = #[]:=by
  rw [Array.filter_eq_empty_iff]
  intro x hx
  have:=hmem x (by simpa using hx)
  simp
  omega
 simp only [e1,e2,Array.append_empty]
 by_cases h0:L.size=0
 ·left
  have:L = #[]:=Array.eq_empty_of_size_eq_zero h0
  subst this
  refine ⟨rfl,?_⟩
  simp [choose,Sem.run,Question.forced]
 ·right
  have hne:L.isEmpty=false:=by simp [Array.isEmpty,h0]
  simp only [hne,Bool.false_eq_true,if_false,Array.empty_append,Array.size_map]
  have hch:∃(j:Nat) (w1:World),j<L.size∧(w1=w∨w1=w.drew)∧(choose (Question.mapNext L.size)).run P w = .ok j w1:=by
   by_cases hf:L.size≤1
   ·exact ⟨0,w,by omega, .inl rfl,by simp [choose,Sem.run,Question.forced,hf]⟩
   ·exact ⟨_,w.drew,Nat.mod_lt _ (by omega), .inr rfl,by
     simp only [choose,Sem.run,Question.forced,decide_eq_true_eq,hf,if_false,Question.cut]
     rfl⟩
  obtain ⟨j,w1,hj,hal,hrun⟩:=hch
  refine ⟨j,L[j],w1,by simp [hj],hal,?_⟩
  have hit1:w1.heap[it]? = some (.mapIter (some bm) since seen c0):=by rcases hal with rfl | rfl<;>exact hit
  simp only [hrun,Array.getElem?_map,Array.getElem?_eq_getElem hj,Option.map_some,Sem.run_bind,run_setObjG _ hit1,Result.andThen]
  rfl
theorem run_entryG {P:Program} (w:World) (it bm since:Nat) (seen:Array Nat) (es:Array MapEntry) (clock:Nat) (e:MapEntry) (hit:w.heap[it]? = some (.mapIter (some bm) since (seen.push e.born) clock)) (hb:w.heap[bm]? = some (.map es clock)) (he:e∈es.toList) (hn:(es.toList.map (·.born)).Nodup) :
  (Instr.entry (.pointer (some ⟨it,0,none⟩))).run P w = .ok (.tuple #[e.key,e.val]) w:=by
 have hf:es.find? (·.born == e.born)=some e:=by rw [←Array.find?_toList];exact find_born e es.toList hn he
 simp only [Instr.entry,Sem.run_bind,run_getObjG hit,run_getObjG hb,Result.andThen,Array.back?_push,bne_self_eq_false,Bool.false_eq_true,if_false,hf]
 rfl
def Gh.hide (g:Gh) (bm:Nat):Gh := { g with ow:=fun b=>if b=bm then none else g.ow b }
def Gh.unhide (g:Gh) (bm mid:Nat):Gh := { g with ow:=fun b=>if b=bm then some (.obj mid) else g.ow b }
section
variable {C:Cx} {N:Ann} {nt:NT} {g0 g:Gh} {w0 w:World} {f:Fr} {s:St} {a:Act} {R:Res} {G:FuncId→List AV→List HO→Res}
theorem LR.reown {g':Gh} {be:Nat→Nat} {hd:Nat→Value} {k:Nat} {l:LOv} (h:LR g w be hd k l) (h1:g'.n=g.n) (h2:g'.ix=g.ix) (hst:g'.st=g.st) (how:∀b (o:Own),o.site=some k→g.ow b=some o→g'.ow b=some o):LR g' w be hd k l:=by
 unfold LR at h ⊢
 split
 ·trivial
 ·rename_i m cs e
  rw [e] at h
  exact BoxR.reown h h1 h2 hst (fun b=>how b _ rfl) (fun i b=>how b _ rfl)
 ·rename_i c ex e
  rw [e] at h
  exact SR.reown h h1 h2 hst (fun b=>how b _ rfl)
theorem VE.ow {g':Gh} {s':St} (h1:g'.n=g.n) (h2:g'.ix=g.ix) (hst:g'.st=g.st) (hl:s'.loc=s.loc) (hv:s'.hv=s.hv) (hh:∀(id:Nat) (cs:List HV),s.h[id]? = some (HO.cells cs)→s'.h[id]? = some (HO.cells cs)) {e:EV} {u:Value} (h:VE g w f s e u):VE g' w f s' e u:=by
 have lat:=Later.sameV w h1 h2 hst
 cases e with
 | v a=>exact V.later lat a u h
 | nil=>exact h
 | lp k ver off=>simp only [VE] at h ⊢;rw [hl];exact h
 | ls k ver=>simp only [VE] at h ⊢;rw [hl];exact h
 | le k ver i off=>simp only [VE] at h ⊢;rw [hl];exact h
 | ep n cs off=>
  obtain ⟨b,o,q1,q2,q3⟩:=h
  exact ⟨b,o,q1,q2,VC.later lat b cs o q3⟩
 | hb k ver m off x=>
  obtain ⟨q1,q2⟩:=h
  refine ⟨V.later lat _ _ q1,?_⟩
  rw [hl];exact q2
 | hh id off hv0 x=>
  obtain ⟨q1,q2,q3⟩:=h
  refine ⟨V.later lat _ _ q1,by rw [hv];exact q2,fun e => ?_⟩
  rw [hv] at e
  obtain ⟨cs,c1,c2,c3⟩:=q3 e
  exact ⟨cs,hh id cs c1,c2,by rw [Gh.io_of h2];exact c3⟩
 | ag cs=>
  obtain ⟨us,q1,q2⟩:=h
  exact ⟨us,q1,q2.later lat⟩
 | un=>exact h
 | ub=>exact h
 | lw k ver off=>simp only [VE] at h ⊢;rw [hl];exact h
theorem Rel.hide (r:Rel C nt g0 w0 g w f s a) (hmk:nt.mks=false) {mid:Nat} {es:List (AV×AV)} (hm:s.h[mid]? = some (.map es)):Rel C nt g0 w0 (g.hide (g.io mid)) w f { s with h:=s.h.set mid .no } a:=by
 have hM:=r.core.heap.map mid es hm
 have keep:∀b (o:Own),o ≠ .obj mid→g.ow b=some o→(g.hide (g.io mid)).ow b=some o:=by
  intro b o ho hb
  show (if b=g.io mid then none else g.ow b)=some o
  rw [if_neg]
  ·exact hb
  ·intro e
   rw [e,hM.ow] at hb
   exact ho (Option.some.inj hb).symm
 have hset:∀(id:Nat) (x:HO),(s.h.set mid .no)[id]? = some x→x ≠ .no→id≠mid∧s.h[id]? = some x:=by
  intro id x hx hn
  by_cases e:mid=id
  ·subst e
   rw [List.getElem?_set_self (List.getElem?_eq_some_iff.1 hm).1] at hx
   cases hx
   exact absurd rfl hn
  ·rw [List.getElem?_set_ne e] at hx
   exact ⟨fun h=>e h.symm,hx⟩
 have henv:∀t,VE (g.hide (g.io mid)) w f { s with h:=s.h.set mid .no } (s.env t) (a.tmps.getD t undef):=fun t=>
  VE.ow (g:=g) (g':=g.hide (g.io mid)) (s:=s) (s' := { s with h:=s.h.set mid .no }) rfl rfl rfl rfl rfl (fun (id:Nat) cs hc=>by
   show (s.h.set mid .no)[id]? = _
   by_cases e2:mid=id
   ·subst e2
    rw [hm] at hc
    cases hc
   ·rw [List.getElem?_set_ne e2]
    exact hc) (r.env t)
 have hglob:∀gi cs,C.glob gi=some cs→GV (g.hide (g.io mid)) w gi cs:=fun gi cs hg=>GV.later (g:=g) (g':=g.hide (g.io mid)) (Later.sameV w rfl rfl rfl) gi cs (r.glob gi cs hg)
 have e:=r.ext
 refine ⟨⟨⟨e.later.n,e.later.ix,e.later.st,e.later.cell,e.later.nf⟩,e.size,e.blk,fun b hb hn => ?_,e.st,e.os,e.tape,e.out⟩,⟨⟨?_,r.core.heap.lt,fun id cs hc => ?_,fun id es' hc => ?_,fun id t9 n9 xs9 hc => ?_⟩,fun k=>(r.core.loc k).reown rfl rfl rfl fun b o ho hb=>keep b o (by rintro rfl;cases ho) hb,r.core.wf⟩,
  henv,hglob,?_,r.sz,r.fixed⟩
 ·show (if b=g.io mid then none else g.ow b)=g0.ow b
  split
  ·rename_i hbm
   have:=e.ow b hb hn
   have hn':g0.ow b=none:=by simpa using hn
   rw [hn']
  ·exact e.ow b hb hn
 ·simp [Gh.hide,r.core.heap.len]
 ·obtain ⟨h1,h2⟩:=hset id _ hc (by simp)
  exact BoxR.reown (r.core.heap.obj id cs h2) rfl rfl rfl (fun b=>keep b _ (by simp;exact h1)) (fun i b=>keep b _ (by simp))
 ·obtain ⟨h1,h2⟩:=hset id _ hc (by simp)
  exact MapR.reown (r.core.heap.map id es' h2) rfl rfl rfl (fun b=>keep b _ (by simp;exact h1))
 ·obtain ⟨h1,h2⟩:=hset id _ hc (by simp)
  exact ⟨SR.reown (r.core.heap.arr id t9 n9 xs9 h2).sr rfl rfl rfl (fun b=>keep b _ (by simp;exact h1)),(r.core.heap.arr id t9 n9 xs9 h2).bl⟩
 ·have:=r.dfr
  rw [hmk] at this ⊢
  exact this
theorem Rel.unhide (r:Rel C nt g0 w0 g w f s a) (hmk:nt.mks=false) {mid bm:Nat} {es:List (AV×AV)} (hno:s.h[mid]? = some .no) (hio:g.io mid=bm) (how:g.ow bm=none) (hst:∀i,¬g.st bm i) (hbm:w0.heap.size≤bm∨g0.ow bm≠none)
  (hcl:dirty es=false) (hrow:∃(mes:Array MapEntry) (clock:Nat),w.heap[bm]? = some (.map mes clock)∧ER g w es mes.toList∧Born mes.toList clock) :
  Rel C nt g0 w0 (g.unhide bm mid) w f { s with h:=s.h.set mid (.map es) } a:=by
 have keep:∀b (o:Own),g.ow b=some o→(g.unhide bm mid).ow b=some o:=by
  intro b o hb
  show (if b=bm then some (Own.obj mid) else g.ow b)=some o
  rw [if_neg]
  ·exact hb
  ·intro e
   rw [e,how] at hb
   cases hb
 have lat:Later g w (g.unhide bm mid) w:=Later.sameV (g:=g) (g':=g.unhide bm mid) w rfl rfl rfl
 have hlt:=(List.getElem?_eq_some_iff.1 hno).1
 have henv:∀t,VE (g.unhide bm mid) w f { s with h:=s.h.set mid (.map es) } (s.env t) (a.tmps.getD t undef):=fun t=>
  VE.ow (g:=g) (g':=g.unhide bm mid) (s:=s) (s' := { s with h:=s.h.set mid (.map es) }) rfl rfl rfl rfl rfl (fun (id:Nat) cs hc=>by
   show (s.h.set mid (.map es))[id]? = _
   by_cases e2:mid=id
   ·subst e2
    rw [hno] at hc
    cases hc
   ·rw [List.getElem?_set_ne e2]
    exact hc) (r.env t)
 have hglob:∀gi cs,C.glob gi=some cs→GV (g.unhide bm mid) w gi cs:=fun gi cs hg=>GV.later (g:=g) (g':=g.unhide bm mid) (Later.sameV w rfl rfl rfl) gi cs (r.glob gi cs hg)
 have e:=r.ext
 refine ⟨⟨⟨e.later.n,e.later.ix,e.later.st,e.later.cell,e.later.nf⟩,e.size,e.blk,fun b hb hn => ?_,e.st,e.os,e.tape,e.out⟩,⟨⟨?_,r.core.heap.lt,fun id cs hc => ?_,fun id es' hc => ?_,fun id t9 n9 xs9 hc => ?_⟩,fun k=>(r.core.loc k).reown rfl rfl rfl fun b o _ hb=>keep b o hb,r.core.wf⟩,
  henv,hglob,?_,r.sz,r.fixed⟩
 ·show (if b=bm then some (Own.obj mid) else g.ow b)=g0.ow b
  rw [if_neg]
  ·exact e.ow b hb hn
  ·rintro rfl
   rcases hbm with h | h
   ·omega
   ·exact hn h
 ·simp [Gh.unhide,r.core.heap.len]
 ·have hc':(s.h.set mid (.map es))[id]? = some (.cells cs):=hc
  by_cases e2:mid=id
  ·subst e2
   rw [List.getElem?_set_self hlt] at hc'
   cases hc'
  ·rw [List.getElem?_set_ne e2] at hc'
   exact BoxR.reown (r.core.heap.obj id cs hc') rfl rfl rfl (fun b=>keep b _) (fun i b=>keep b _)
 ·have hc':(s.h.set mid (.map es))[id]? = some (.map es'):=hc
  by_cases e2:mid=id
  ·subst e2
   rw [List.getElem?_set_self hlt] at hc'
   cases hc'
   obtain ⟨mes,clock,q1,q2,q3⟩:=hrow
   show MapR _ w _ (g.io mid) es
   rw [hio]
   exact ⟨by show (if bm=bm then some (Own.obj mid) else g.ow bm)=_;rw [if_pos rfl],hst,mes,clock,q1,by rw [lives_of hcl];exact q2.later lat,fun _=>q3⟩
  ·rw [List.getElem?_set_ne e2] at hc'
   exact MapR.reown (r.core.heap.map id es' hc') rfl rfl rfl (fun b=>keep b _)
 ·have hc':(s.h.set mid (.map es))[id]? = some (.arr t9 n9 xs9):=hc
  by_cases e2:mid=id
  ·subst e2
   rw [List.getElem?_set_self hlt] at hc'
   cases hc'
  ·rw [List.getElem?_set_ne e2] at hc'
   exact ⟨SR.reown (r.core.heap.arr id t9 n9 xs9 hc').sr rfl rfl rfl (fun b=>keep b _),(r.core.heap.arr id t9 n9 xs9 hc').bl⟩
 ·have:=r.dfr
  rw [hmk] at this ⊢
  exact this
end
open Classical in
noncomputable def allI (n:Nat) (F:Nat→Res):Res:=match n with
 | 0 => .stuck
 | 1=>F 0
 | n+2=>if ∀i,i<n+2→F i=F 0 then F 0 else .stuck
theorem allI_inv {n:Nat} {F:Nat→Res} {R:Res} (h:allI n F=R) (hR:R ≠ .stuck):∀i,i<n→F i=R:=by
 intro i hi
 match n,h,hi with
 | 1,h,hi=>
  have:i=0:=by omega
  subst this
  exact h
 | n+2,h,hi=>
  unfold allI at h
  simp only at h
  split at h
  ·rename_i hall
   rw [hall i hi]
   exact h
  ·exact absurd h.symm hR
structure MapLoop where
 opsR:Array Oper
 pre:List Oper
 oR:Oper
 oN:Oper
 oX:Oper
 oE:Oper
 mt:TypeId
 tt:TypeId
 tm:Nat
 ti:Nat
 tn:Nat
 tx:Nat
 tE:Nat
 rR:Nat
 rN:Nat
 rE:Nat
 b:Nat
 b5:Nat
 opsE:Array Oper
 rest:Code
def MapLoop.code (m:MapLoop):Code := .seq (.region m.rR m.opsR false) (.block m.b (.loop (.seq (.region m.rN #[m.oN,m.oX] false) (.seq (.cond (.tmp m.tx) .skip (.exit m.b)) (.block m.b5 (.seq (.region m.rE m.opsE false) m.rest))))))
structure MapLoop.OK (P:Program) (n:Nat) (m:MapLoop):Prop where
 ops:m.opsR.toList=m.pre++[m.oR]
 oR:IsO m.oR (.range m.mt (.tmp m.tm)) m.ti
 oN:IsO m.oN (.next (.tmp m.ti) false) m.tn
 oX:IsO m.oX (.extract (.tmp m.tn) 0) m.tx
 oE0:m.opsE[0]? = some m.oE
 oE:IsO m.oE (.entry (.tmp m.ti)) m.tE
 ut:∃k e,P.underlying m.mt=some (.map k e)
 dR:dstOK (NT.of n) m.opsR=true
 dE:codeOK (NT.of n) (.region m.rE m.opsE false)=true
 offE:offOK [m.ti] (.region m.rE m.opsE false)=true
 dT:codeOK (NT.of n) m.rest=true
 offT:offOK [m.ti] m.rest=true
 lt:m.ti<n∧m.tn<n∧m.tx<n∧m.tE<n
 ne:m.tn≠m.ti∧m.tx≠m.ti∧m.tE≠m.ti∧m.tn≠m.tx
section
variable (C:Cx) (N:Ann) (AN A:Alg Res) (m:MapLoop)
noncomputable def mapTree (mid:Nat) (kT:St→Res):Nat→List (AV×AV)→St→Res
 | 0,_,s=>match s.h[mid]? with
  | some .no=>kT (((nrm N (some m.rN) s).put (some m.tn) (.v .U)).put (some m.tx) (.v .U))
  | _ => .stuck
 | n+1,rest,s=>match s.h[mid]? with
  | some .no=>allI (n+1) fun i=>
    aOps A C N m.opsE (m.opsE.toList.drop 1) ((((nrm N (some m.rN) s).put (some m.tn) (.v .U)).put (some m.tx) (.v .U)).put (some m.tE) (.v (.T [(rest.getD i (.U, .U)).1,(rest.getD i (.U, .U)).2]))) fun s'=>
     aC C N AN A m.rest (fun s''=>mapTree mid kT n (rest.eraseIdx i) s'') (fun _ _ => .stuck) (fun _ => .stuck) (nrm N (headId m.rest) s')
  | _ => .stuck
noncomputable def mapK (kT:St→Res) (s:St):Res:=aOps A C N m.opsR m.pre s fun s1=>match s1.env m.tm with
 | .v (.M mid)=>match s1.h[mid]? with
  | some (.map es)=>(match dirty es with
   | true => .stuck
   | false=>mapTree C N AN A m mid (fun s2=>kT { s2 with h:=s2.h.set mid (.map es) }) es.length es (({ s1 with h:=s1.h.set mid .no } : St).put (some m.ti) (.v .U)))
  | _ => .stuck
 | _ => .stuck
end
theorem nrm_h {N:Ann} {r:Option Nat} {s:St} : (nrm N r s).h=s.h:=by
 unfold nrm
 split<;>rfl
section
variable {C:Cx} {N:Ann} {G:FuncId→List AV→List HO→Res} {g0:Gh} {w0:World} {R:Res} {n:Nat} {m:MapLoop}
structure MJ (C:Cx) (nt:NT) (g0:Gh) (w0:World) (it bm mid since clock:Nat) (mes:Array MapEntry) (es rest:List (AV×AV)) (seen:Array Nat) (c0:Nat) (g:Gh) (w:World) (f:Fr) (s:St) (a:Act):Prop where
 rel:Rel C nt g0 w0 g w f s a
 iow:g.ow it=none
 ist:∀i,¬g.st it i
 iter:w.heap[it]? = some (.mapIter (some bm) since seen c0)
 sc:since≤c0
 mow:g.ow bm=none
 mst:∀i,¬g.st bm i
 mp:w.heap[bm]? = some (.map mes clock)
 io:g.io mid=bm
 idn:mid<g.n
 eall:ER g w es mes.toList
 eleft:ER g w rest (leftOf mes seen).toList
theorem MJ.chg {nt nt':NT} {g0 g0' g g':Gh} {w0 w0' w w':World} {it bm mid since clock c0:Nat} {mes:Array MapEntry} {es rest:List (AV×AV)} {seen:Array Nat} {f f':Fr} {s s':St} {a a':Act}
  (h:MJ C nt g0 w0 it bm mid since clock mes es rest seen c0 g w f s a) (hch:Chg (fun b=>g.ow b≠none) g w g' w') (r:Rel C nt' g0' w0' g' w' f' s' a'):MJ C nt' g0' w0' it bm mid since clock mes es rest seen c0 g' w' f' s' a':=by
 have hi:it<w.heap.size:=(Array.getElem?_eq_some_iff.1 h.iter).1
 have hb:bm<w.heap.size:=(Array.getElem?_eq_some_iff.1 h.mp).1
 have ni:¬g.ow it≠none:=fun x=>x h.iow
 have nb:¬g.ow bm≠none:=fun x=>x h.mow
 exact ⟨r,(hch.ow it hi ni).trans h.iow,fun i x=>h.ist i (hch.st it i hi ni x),(hch.blk it hi ni).trans h.iter,h.sc,(hch.ow bm hb nb).trans h.mow,fun i x=>h.mst i (hch.st bm i hb nb x),(hch.blk bm hb nb).trans h.mp,
  (hch.later.io mid h.idn).trans h.io,Nat.lt_of_lt_of_le h.idn hch.later.n,h.eall.later hch.later,h.eleft.later hch.later⟩
theorem ER_get {g:Gh} {w:World} : ∀(es:List (AV×AV)) (ms:List MapEntry) (j:Nat) (e:MapEntry),ER g w es ms→ms[j]? = some e→V g w (es.getD j (.U, .U)).1 e.key∧V g w (es.getD j (.U, .U)).2 e.val∧ER g w (es.eraseIdx j) (ms.eraseIdx j)
 | [],_,j,e,h,he=>by rw [show _=[] from h] at he;simp at he
 | p::es,_,0,e,⟨e',r,h,h1,h2,h3⟩,he=>by
  subst h
  simp at he
  subst he
  exact ⟨h1,h2,h3⟩
 | p::es,_,j+1,e,⟨e',r,h,h1,h2,h3⟩,he=>by
  subst h
  obtain ⟨q1,q2,q3⟩:=ER_get es r j e h3 (by simpa using he)
  exact ⟨q1,q2,e',_,rfl,h1,h2,q3⟩
theorem left_push {mes:Array MapEntry} {seen:Array Nat} (hn:(mes.toList.map (·.born)).Nodup) {j:Nat} {e:MapEntry} (he:(leftOf mes seen).toList[j]? = some e):(leftOf mes (seen.push e.born)).toList=(leftOf mes seen).toList.eraseIdx j:=by
 have hsub:((leftOf mes seen).toList.map (·.born)).Nodup:=by
  unfold leftOf
  rw [Array.toList_filter]
  exact (List.Nodup.sublist (List.filter_sublist.map _) hn)
 have h1:(leftOf mes (seen.push e.born)).toList=(leftOf mes seen).toList.filter fun x => !(x.born == e.born):=by
  unfold leftOf
  simp only [Array.toList_filter,List.filter_filter]
  congr 1
  funext x
  rw [contains_push]
  cases seen.contains x.born<;>cases (x.born == e.born)<;>rfl
 rw [h1]
 generalize (leftOf mes seen).toList=L at he hsub
 clear h1
 induction L generalizing j with
 | nil=>simp at he
 | cons x L ih=>
  have hn2:=List.nodup_cons.1 hsub
  cases j with
  | zero=>
   simp at he
   subst he
   rw [List.filter_cons_of_neg (by simp),List.eraseIdx_cons_zero]
   refine List.filter_eq_self.2 fun y hy => ?_
   simp only [Bool.not_eq_true',beq_eq_false_iff_ne]
   intro e2
   exact hn2.1 (by show x.born∈_;rw [←e2];exact List.mem_map_of_mem hy)
  | succ j=>
   have he':L[j]? = some e:=by simpa using he
   rw [List.filter_cons_of_pos,List.eraseIdx_cons_succ,ih he' hn2.2]
   simp only [Bool.not_eq_true',beq_eq_false_iff_ne]
   intro e2
   have hm:e∈L:=List.mem_of_getElem? he'
   exact hn2.1 (by show x.born∈_;rw [e2];exact List.mem_map_of_mem hm)
theorem codeOK_fix {n:Nat} {fixl:List Nat} {val:Nat→Value} (c:Code) (h:codeOK (NT.of n) c=true) (h':offOK fixl c=true):codeOK { n,fix:=fixl,val,mks:=false } c=true:=by
 have:=codeOK_rnd (nt:=NT.of n) (fixl:=fixl) (a := { tmps := #[],defers:=[] }) c h h'
 have key:∀c:Code,codeOK ((NT.of n).rnd fixl { tmps := #[],defers:=[] }) c=codeOK { n,fix:=fixl,val,mks:=false } c:=by
  intro c
  induction c<;>simp_all [codeOK,dstOK,NT.rnd,NT.ofm]
 rw [←key]
 exact this
theorem wp1 {P:Program} {o:Oper} {a:Act} {w w':World} {ops:Array Oper} {Q:Exit→Act→World→Prop} {i:Nat} {rest:List Nat} {v:Value} {op:Op} {d:Nat} (hi:ops[i]? = some o) (ho:IsO o op d) (hnd:∀c,op ≠ .defer c)
  (hx:(execOp a.eval o).run P w = .ok (.value v) w') (h:wpOpsIn (FR none) 0 P ops Q rest (a.put (some d) v) w'):wpOpsIn (FR none) 0 P ops Q (i::rest) a w:=by
 simp only [wpOpsIn,hi]
 rw [if_pos (by simp [Region.wanted,ho.2.2])]
 refine ⟨fun _ _=>trivial,?_⟩
 rw [Oper.semAt_eq _ _ _ (by rw [ho.1];exact hnd),hx]
 simp only [Oper.uponIn,ho.2.1]
 exact h
theorem mapTree_sound (hC:OkC C) (hR:R ≠ .stuck) (hnp:∀v h,R ≠ .pan v h) (hG:∀j,Sound C j (G j)) (hm:m.OK C.P n) {Q:Exit→Act→World→Prop} {it bm mid since clock:Nat} {mes:Array MapEntry} {es:List (AV×AV)} {val:Nat→Value} (hcl:dirty es=false)
  (hval:val m.ti = .pointer (some ⟨it,0,none⟩)) (hbm:w0.heap.size≤bm∨g0.ow bm≠none) (hit0:w0.heap.size≤it) (hne:it≠bm) (hbb:Born mes.toList clock) (hsince:since=clock) {kT:St→Res}
  (hQ:∀g w f s a,Rel C (NT.of n) g0 w0 g w f s a→kT s=R→Q .normal a w) :
  ∀(k:Nat) (rest:List (AV×AV)) (seen:Array Nat) (c0:Nat) (g:Gh) (w:World) (f:Fr) (s:St) (a:Act),rest.length=k→MJ C { n,fix:=[m.ti],val,mks:=false } g0 w0 it bm mid since clock mes es rest seen c0 g w f s a →
   mapTree C N (stdAlg C.pure (noPan G)) (stdAlg C.pure G) m mid (fun s2=>kT { s2 with h:=s2.h.set mid (.map es) }) k rest s=R →
   Code.roundsIn (FR none) 0 C.P (.seq (.region m.rN #[m.oN,m.oX] false) (.seq (.cond (.tmp m.tx) .skip (.exit m.b)) (.block m.b5 (.seq (.region m.rE m.opsE false) m.rest)))) (Exit.inBlock m.b Q) (k+1) a w:=by
 have hpanF:∀(nt:NT) (g0:Gh) (w0:World) (Q:Exit→Act→World→Prop),PanAll nt g0 w0 Q R:=fun nt g0 w0 Q=>by
  unfold PanAll
  cases nt.mks with
  | true=>exact hnp
  | false=>exact fun a _ v h' u g' w' e=>absurd e (hnp v h')
 have hnod:(mes.toList.map (·.born)).Nodup:=by
  rw [List.nodup_iff_pairwise_ne,List.pairwise_map]
  exact hbb.pair.imp fun h=>by omega
 have hok:∀d,d<n→d≠m.ti→({ n,fix:=[m.ti],val,mks:=false } : NT).ok d:=fun d h1 h2=>⟨h1,by
  have:Nat.beq d m.ti=false:=by
   rw [Bool.eq_false_iff]
   exact fun e=>h2 (Nat.eq_of_beq_eq_true e)
  simp [this]⟩
 have start:∀{rest:List (AV×AV)} {seen:Array Nat} {c0:Nat} {g:Gh} {w:World} {f:Fr} {s:St} {a:Act},MJ C { n,fix:=[m.ti],val,mks:=false } g0 w0 it bm mid since clock mes es rest seen c0 g w f s a →
   (∃g1,MJ C { n,fix:=[m.ti],val,mks:=false } g0 w0 it bm mid since clock mes es rest seen c0 g1 w f (nrm N (some m.rN) s) a)∧a.eval (.tmp m.ti) = .pointer (some ⟨it,0,none⟩)∧n≤a.tmps.size:=by
  intro rest seen c0 g w f s a J
  obtain ⟨g1,r1⟩:=(J.rel.base rfl).nrm (N:=N) (some m.rN)
  refine ⟨⟨g1,J.chg r1.since (Rel.unbase J.rel.ext rfl r1)⟩,?_,J.rel.sz⟩
  have:=J.rel.fixed m.ti (by simp)
  have this:a.tmps.getD m.ti undef=val m.ti:=this
  rw [hval] at this
  rw [←this]
  simp [Act.eval,Array.getD_eq_getD_getElem?]
 intro k
 induction k with
 | zero=>
  intro rest seen c0 g w f s a hk J h
  have hr0:rest=[]:=List.eq_nil_of_length_eq_zero hk
  subst hr0
  simp only [mapTree] at h
  split at h
  case h_2=>exact absurd h.symm hR
  rename_i hno
  obtain ⟨⟨g1,J1⟩,hti,hsz⟩:=start J
  have hleft:(leftOf mes seen).toList=[]:=J.eleft
  rw [roundsIn_succ]
  refine wpIn_seq (wpIn_region ?_)
  show wpOpsIn (FR none) 0 C.P _ _ [0,1] a w
  rcases run_nextG (P:=C.P) w m.oN.type it bm since c0 seen mes clock J.iter J.mp (by rw [hsince];exact hbb.lt) J.sc with ⟨_,hrun⟩ | ⟨j,e,w1,hj,_⟩
  case inr=>rw [hleft] at hj;simp at hj
  refine wp1 (o:=m.oN) rfl hm.oN (by simp) (v := .tuple #[.bool false]) (w':=w) (by simp [execOp,hm.oN.1,hti,hrun]) ?_
  have e1:∀t,(a.put (some m.tn) (.tuple #[.bool false])).eval (.tmp t)=if t=m.tn then .tuple #[.bool false] else a.eval (.tmp t):=fun t=>ev_put (by have:=hm.lt;omega)
  refine wp1 (o:=m.oX) rfl hm.oX (by simp) (v := .bool false) (w':=w) (by simp [execOp,hm.oX.1,e1,Instr.extract]) ?_
  have e2:((a.put (some m.tn) (.tuple #[.bool false])).put (some m.tx) (.bool false)).eval (.tmp m.tx) = .bool false:=by
   rw [ev_put (by rw [sz_put];have:=hm.lt;omega)]
   simp
  refine wpIn_seq (wpIn_cond_false e2 (wpIn_exit ?_))
  show Exit.inBlock m.b Q (.exit m.b) _ w
  simp only [Exit.inBlock,if_true]
  have r2:=(J1.rel.val (d:=some m.tn) (e := .v .U) (u := .tuple #[.bool false]) (fun x hx=>by cases hx;exact hok _ hm.lt.2.1 hm.ne.1) trivial).val (d:=some m.tx) (e := .v .U) (u := .bool false) (fun x hx=>by cases hx;exact hok _ hm.lt.2.2.1 hm.ne.2.1) trivial
  have r3:Rel C (NT.of n) g0 w0 g1 w f _ _:=⟨r2.ext,r2.core,r2.env,r2.glob,r2.dfr,r2.sz,fun t ht=>by simp [NT.ofm] at ht⟩
  have r4:=r3.unhide rfl (mid:=mid) (bm:=bm) (es:=es) (by show (nrm N (some m.rN) s).h[mid]? = _;rw [nrm_h];exact hno) J1.io J1.mow J1.mst hbm hcl ⟨mes,clock,J1.mp,J1.eall,hbb⟩
  exact hQ _ _ _ _ _ r4 h
 | succ k ih=>
  intro rest seen c0 g w f s a hk J h
  simp only [mapTree] at h
  split at h
  case h_2=>exact absurd h.symm hR
  rename_i hno
  obtain ⟨⟨g1,J1⟩,hti,hsz⟩:=start J
  rw [roundsIn_succ]
  refine wpIn_seq (wpIn_region ?_)
  show wpOpsIn (FR none) 0 C.P _ _ [0,1] a w
  have hll:(leftOf mes seen).toList.length=k+1:=by rw [J.eleft.length,hk]
  rcases run_nextG (P:=C.P) w m.oN.type it bm since c0 seen mes clock J.iter J.mp (by rw [hsince];exact hbb.lt) J.sc with ⟨hnil,_⟩ | ⟨j,e,w1,hj,hw1,hrun⟩
  case inl=>rw [hnil] at hll;simp at hll
  have hjk:j<k+1:=by rw [←hll];exact (List.getElem?_eq_some_iff.1 hj).1
  have hF:=allI_inv h hR j hjk
  refine wp1 (o:=m.oN) rfl hm.oN (by simp) (v := .tuple #[.bool true,e.key,e.val]) (w':=w1.putObj it (.mapIter (some bm) since (seen.push e.born) clock)) (by simp [execOp,hm.oN.1,hti,hrun]) ?_
  have e1:∀t,(a.put (some m.tn) (.tuple #[.bool true,e.key,e.val])).eval (.tmp t)=if t=m.tn then .tuple #[.bool true,e.key,e.val] else a.eval (.tmp t):=fun t=>ev_put (by have:=hm.lt;omega)
  refine wp1 (o:=m.oX) rfl hm.oX (by simp) (v := .bool true) (w':=w1.putObj it (.mapIter (some bm) since (seen.push e.born) clock)) (by simp [execOp,hm.oX.1,e1,Instr.extract]) ?_
  have e2:∀t,((a.put (some m.tn) (.tuple #[.bool true,e.key,e.val])).put (some m.tx) (.bool true)).eval (.tmp t)=if t=m.tx then .bool true else if t=m.tn then .tuple #[.bool true,e.key,e.val] else a.eval (.tmp t):=fun t=>by
   rw [ev_put (by rw [sz_put];have:=hm.lt;omega),e1]
  refine wpIn_seq (wpIn_cond_true (by rw [e2];simp) (wpIn_skip ?_))
  show (Code.block m.b5 (.seq (.region m.rE m.opsE false) m.rest)).wpIn (FR none) 0 C.P _ _ _
  have r1w:Rel C { n,fix:=[m.ti],val,mks:=false } g0 w0 g1 w1 f (nrm N (some m.rN) s) a∧w1.heap=w.heap:=by
   rcases hw1 with rfl | rfl
   ·exact ⟨J1.rel,rfl⟩
   ·exact ⟨J1.rel.drew,rfl⟩
  obtain ⟨r1w,hheap⟩:=r1w
  have hit1:w1.heap[it]? = some (.mapIter (some bm) since seen c0):=by rw [hheap];exact J1.iter
  have hitlt:it<w1.heap.size:=(Array.getElem?_eq_some_iff.1 hit1).1
  have hcell1:∀ad,w1.cell? ad=w.cell? ad:=fun ad=>by simp only [World.cell?,hheap]
  have lat1:Later g1 w g1 w1:=⟨Nat.le_refl _,fun _ _=>rfl,fun _ _ h=>h,fun _ _ _=>hcell1 _,fun _ _ _ _ _ ⟨c,t,e⟩=>⟨c,t,by rw [hheap];exact e⟩⟩
  have hch2:=put_chg (g:=g1) (o' := .mapIter (some bm) since (seen.push e.born) clock) hit1 rfl rfl
  have r2:=r1w.quietB rfl hch2 rfl (fun b e=>by cases e;exact ⟨J1.iow,hit0⟩) fun b i x=>by simpa using r1w.core.wf b i x
  have lat2:=lat1.trans hch2.later
  obtain ⟨k1,k2,k3⟩:=ER_get rest _ j e J1.eleft hj
  have J2:MJ C { n,fix:=[m.ti],val,mks:=false } g0 w0 it bm mid since clock mes es (rest.eraseIdx j) (seen.push e.born) clock g1 (w1.putObj it (.mapIter (some bm) since (seen.push e.born) clock)) f (nrm N (some m.rN) s) a:=
   ⟨r2,J1.iow,J1.ist,World.putObj_heap_same hitlt,by omega,J1.mow,J1.mst,by rw [World.putObj_heap_other (Ne.symm hne),hheap];exact J1.mp,J1.io,J1.idn,J1.eall.later lat2,by rw [left_push hnod hj];exact k3.later lat2⟩
  have r3:=(J2.rel.val (d:=some m.tn) (e := .v .U) (u := .tuple #[.bool true,e.key,e.val]) (fun x hx=>by cases hx;exact hok _ hm.lt.2.1 hm.ne.1) trivial).val (d:=some m.tx) (e := .v .U) (u := .bool true) (fun x hx=>by cases hx;exact hok _ hm.lt.2.2.1 hm.ne.2.1) trivial
  refine wpIn_block (wpIn_seq (wpIn_region ?_))
  have hEs:(List.range m.opsE.size)=0::(List.range m.opsE.size).drop 1:=by
   have:0<m.opsE.size:=(Array.getElem?_eq_some_iff.1 hm.oE0).1
   have h:=List.drop_eq_getElem_cons (l:=List.range m.opsE.size) (i:=0) (by simpa using this)
   simpa using h
  rw [hEs]
  have hmem:e∈mes.toList:=by
   have:=List.mem_of_getElem? hj
   unfold leftOf at this
   rw [Array.toList_filter] at this
   exact (List.mem_filter.1 this).1
  refine wp1 (o:=m.oE) hm.oE0 hm.oE (by simp) (v := .tuple #[e.key,e.val]) (w':=w1.putObj it (.mapIter (some bm) since (seen.push e.born) clock)) (by
   have:=run_entryG (P:=C.P) _ it bm since seen mes clock e J2.iter J2.mp hmem hnod
   have h0:((a.put (some m.tn) (.tuple #[.bool true,e.key,e.val])).put (some m.tx) (.bool true)).eval (.tmp m.ti) = .pointer (some ⟨it,0,none⟩):=by
    rw [e2,if_neg (Ne.symm hm.ne.2.1),if_neg (Ne.symm hm.ne.1),hti]
   simp [execOp,hm.oE.1,h0,this]) ?_
  have r4:=r3.val (d:=some m.tE) (e := .v (.T [(rest.getD j (.U, .U)).1,(rest.getD j (.U, .U)).2])) (u := .tuple #[e.key,e.val]) (fun x hx=>by cases hx;exact hok _ hm.lt.2.2.2 hm.ne.2.2.1) (by
   show V g1 _ (.T _) _
   simp only [V]
   refine ⟨[e.key,e.val],rfl,?_⟩
   simp only [VT]
   exact ⟨_,_,rfl,V.later lat2 _ _ k1,_,_,rfl,V.later lat2 _ _ k2,rfl⟩)
  have J4:MJ C { n,fix:=[m.ti],val,mks:=false } g0 w0 it bm mid since clock mes es (rest.eraseIdx j) (seen.push e.born) clock g1 (w1.putObj it (.mapIter (some bm) since (seen.push e.born) clock)) f _ _:=
   ⟨r4,J2.iow,J2.ist,J2.iter,J2.sc,J2.mow,J2.mst,J2.mp,J2.io,J2.idn,J2.eall,J2.eleft⟩
  refine aOps_sound (ro:=none) (n:=0) (nt := { n,fix:=[m.ti],val,mks:=false }) hC hR hG (codeOK_fix (.region m.rE m.opsE false) hm.dE hm.offE) (hpanF _ _ _ _) ?_ (m.opsE.toList.drop 1) 1 g1 _ f _ _ rfl (J4.rel.base rfl) hF
  intro g5 w5 f5 s5 a5 r5 h5
  show m.rest.wpIn (FR none) 0 C.P _ a5 w5
  obtain ⟨g6,r6⟩:=r5.nrm (N:=N) (headId m.rest)
  refine code_sound m.rest none hC hR hG (codeOK_fix m.rest hm.dT hm.offT) (.inl rfl) (.inl rfl) ?_ (fun id g w f s a _ h=>absurd h.symm hR) (fun g w f s a _ h=>absurd h.symm hR) (hpanF _ _ _ _) g6 w5 f5 _ a5 r6 h5
  intro g7 w7 f7 s7 a7 r7 h7
  show Code.roundsIn (FR none) 0 C.P _ _ (k+1) a7 w7
  exact ih (rest.eraseIdx j) (seen.push e.born) clock g7 w7 f7 s7 a7 (by rw [List.length_eraseIdx_of_lt (by omega),hk];rfl) (J4.chg r7.since (Rel.unbase J4.rel.ext rfl r7)) h7
theorem alloc1_chg {g:Gh} {w:World} (hwf:∀b i,g.st b i→b<w.heap.size) (o1:Obj):Chg (fun _=>False) g w (g.only w.heap.size) (w.alloc o1):=by
 have hh:∀b,b<w.heap.size→(w.alloc o1).heap[b]? = w.heap[b]? := fun b hb=>by
  show (w.heap.push o1)[b]? = _
  rw [Array.getElem?_push_lt hb]
  simp [hb]
 refine ⟨⟨Nat.le_refl _,fun _ _=>rfl,fun _ _ h=>h,fun b i hx => ?_,fun b i _ h _ ⟨c,t,e⟩=>⟨c,t,(hh b (hwf b i h)).trans e⟩⟩,by simp,fun b hb _=>hh b hb,fun b hb _=>by simp [Gh.only,hb],fun _ _ _ _ h=>h,rfl,rfl,rfl⟩
 ·simp only [World.cell?,hh b (hwf b i hx)]
theorem mapK_sound (hC:OkC C) (hR:R ≠ .stuck) (hnp:∀v h,R ≠ .pan v h) (hG:∀j,Sound C j (G j)) (hm:m.OK C.P n) {Q:Exit→Act→World→Prop} {kT:St→Res}
  (hQ:∀g w f s a,Rel C (NT.of n) g0 w0 g w f s a→kT s=R→Q .normal a w) (g:Gh) (w:World) (f:Fr) (s:St) (a:Act) (r:Rel C (NT.of n) g0 w0 g w f s a)
  (h:mapK C N (stdAlg C.pure (noPan G)) (stdAlg C.pure G) m kT s=R):m.code.wpIn (FR none) 0 C.P Q a w:=by
 have hpanF:∀(nt:NT) (g0:Gh) (w0:World) (Q:Exit→Act→World→Prop),PanAll nt g0 w0 Q R:=fun nt g0 w0 Q=>by
  unfold PanAll
  cases nt.mks with
  | true=>exact hnp
  | false=>exact fun a _ v h' u g' w' e=>absurd e (hnp v h')
 have hdrop0:(List.range m.opsR.size)=(List.range m.opsR.size).drop 0:=by simp
 have hsize:m.opsR.size=m.pre.length+1:=by
  have:=congrArg List.length hm.ops
  simpa using this
 refine wpIn_seq (wpIn_region ?_)
 rw [hdrop0]
 refine aOps_pre (ro:=none) (n:=0) hC hR hG hm.dR (hpanF _ _ _ _) [m.oR] m.pre 0 (by simpa using hm.ops) ?_ g w f s a r h
 intro g1 w1 f1 s1 a1 r1 h1
 split at h1
 case h_2=>exact absurd h1.symm hR
 rename_i mid hmid
 split at h1
 case h_2=>exact absurd h1.symm hR
 rename_i es hes
 split at h1
 ·exact absurd h1.symm hR
 rename_i hcl
 have hM:=r1.core.heap.map mid es hes
 have hidn:mid<g1.n:=by rw [←r1.core.heap.len];exact (List.getElem?_eq_some_iff.1 hes).1
 obtain ⟨mes,clock,q1,q2,qb⟩:=hM.row
 have qb:=qb hcl
 rw [lives_of hcl] at q2
 have q3:=qb.pair
 have q4:=qb.lt
 have hev:a1.eval (.tmp m.tm) = .map (some (g1.io mid)):=by
  have:=r1.env m.tm
  rw [hmid] at this
  have h2:mid<g1.n∧a1.tmps.getD m.tm undef = .map (some (g1.io mid)):=by simpa [VE,V] using this
  rw [←h2.2]
  simp [Act.eval,Array.getD_eq_getD_getElem?]
 have hrange:(List.range m.opsR.size).drop (0+m.pre.length)=[m.pre.length]:=by
  rw [hsize,Nat.zero_add,List.range_succ,List.drop_append_of_le_length (by simp)]
  simp
 rw [hrange]
 obtain ⟨kk,ee,hut⟩:=hm.ut
 have hi:m.opsR[m.pre.length]? = some m.oR:=by
  rw [←Array.getElem?_toList,hm.ops]
  simp
 refine wp1 (o:=m.oR) hi hm.oR (by simp) (v := .pointer (some ⟨w1.heap.size,0,none⟩)) (w':=w1.alloc (.mapIter (some (g1.io mid)) clock #[] clock)) (by
  have:=run_range_map (P:=C.P) w1 m.mt kk ee (g1.io mid) mes clock hut q1
  simp [execOp,hm.oR.1,hev,this]) ?_
 have hch:=alloc1_chg (g:=g1) r1.core.wf (.mapIter (some (g1.io mid)) clock #[] clock)
 have r2:=r1.quietB rfl hch rfl (fun _ x=>x.elim) fun b i x=>by
  have:=r1.core.wf b i x
  simp
  omega
 have r3:=r2.hide rfl hes
 have r4:=r3.val (d:=some m.ti) (e := .v .U) (u := .pointer (some ⟨w1.heap.size,0,none⟩)) (fun x hx=>by cases hx;exact ⟨hm.lt.1,rfl⟩) trivial
 have hbmlt:=hM.lt
 have hsz:n≤a1.tmps.size:=r1.sz
 have lat:=hch.later
 refine wpIn_block (wpIn_loop_rounds (es.length+1) ?_)
 refine mapTree_sound (g0:=g0) (w0:=w0) (it:=w1.heap.size) (bm:=g1.io mid) (mid:=mid) (since:=clock) (clock:=clock) (mes:=mes) (es:=es) (val:=fun t=>(a1.put (some m.ti) (.pointer (some ⟨w1.heap.size,0,none⟩))).tmps.getD t undef) hC hR hnp hG hm hcl ?_ ?_ r1.ext.size (by omega) qb rfl hQ es.length es #[] clock _ _ f1 _ _ rfl
  ⟨⟨r4.ext,r4.core,r4.env,r4.glob,r4.dfr,r4.sz,fun t _=>rfl⟩,?_,?_,?_,Nat.le_refl _,?_,hM.st,?_,rfl,hidn,?_,?_⟩ h1
 ·rw [getD_put m.ti (by have:=hm.lt.1;omega),if_pos rfl]
 ·rcases Nat.lt_or_ge (g1.io mid) w0.heap.size with hlt | hge
  ·right
   intro h0
   have:=r1.ext.ow _ hlt (fun x=>x h0)
   rw [hM.ow,h0] at this
   cases this
  ·exact .inl hge
 ·show (if w1.heap.size=g1.io mid then none else (if w1.heap.size<w1.heap.size then g1.ow w1.heap.size else none))=none
  split<;>simp
 ·intro i x
  have:=r1.core.wf _ i x
  omega
 ·exact World.alloc_heap_new w1 _
 ·show (if g1.io mid=g1.io mid then none else _)=none
  rw [if_pos rfl]
 ·show (w1.heap.push _)[g1.io mid]? = _
  rw [Array.getElem?_push_lt hbmlt]
  rw [Array.getElem?_eq_getElem hbmlt] at q1
  exact q1
 ·exact (q2.later lat).later (Later.sameV (g:=g1.only w1.heap.size) (g':=(g1.only w1.heap.size).hide (g1.io mid)) _ rfl rfl rfl)
 ·have:(leftOf mes #[]).toList=mes.toList:=by
   unfold leftOf
   rw [Array.toList_filter]
   exact List.filter_eq_self.2 fun x _=>by simp
  rw [this]
  exact (q2.later lat).later (Later.sameV (g:=g1.only w1.heap.size) (g':=(g1.only w1.heap.size).hide (g1.io mid)) _ rfl rfl rfl)
end
def seqL:List Code→Code→Code
 | [],T=>T
 | c::cs,T => .seq c (seqL cs T)
def headL (cs:List Code) (T:Code):Option Nat:=match cs with
 | []=>headId T
 | c::_=>headId c
def preL:Nat→Code→List Code
 | k+1, .seq a b=>a::preL k b
 | _,_=>[]
def dropS:Nat→Code→Code
 | k+1, .seq _ b=>dropS k b
 | _,c=>c
def rangeOf:Op→TypeId×Nat
 | .range t (.tmp x)=>(t,x)
 | _=>(0,0)
def dstOf (o:Oper):Nat:=o.dst.getD 0
def mkMap:Code→MapLoop
 | .seq (.region rR opsR _) (.block b (.loop (.seq (.region rN opsN _) (.seq (.cond (.tmp tx) _ _) (.block b5 (.seq (.region rE opsE _) rest))))))=>
  let oR:=opsR.toList.getLastD default
  { opsR,pre:=opsR.toList.dropLast,oR,oN:=opsN.toList.getD 0 default,oX:=opsN.toList.getD 1 default,oE:=opsE.toList.getD 0 default,mt:=(rangeOf oR.op).1,tt:=0,tm:=(rangeOf oR.op).2,ti:=dstOf oR,tn:=dstOf (opsN.toList.getD 0 default),tx,tE:=dstOf (opsE.toList.getD 0 default),rR,rN,rE,b,b5,opsE,rest }
 | _ => { opsR := #[],pre:=[],oR:=default,oN:=default,oX:=default,oE:=default,mt:=0,tt:=0,tm:=0,ti:=0,tn:=0,tx:=0,tE:=0,rR:=0,rN:=0,rE:=0,b:=0,b5:=0,opsE := #[],rest := .skip }
section
variable (C:Cx) (N:Ann) (AN A:Alg Res)
noncomputable def aSeq (T:Code) (kT kr:St→Res):List Code→St→Res
 | [],s=>kT s
 | c::cs,s=>aC C N AN A c (fun s'=>aSeq T kT kr cs (nrm N (headL cs T) s')) (fun _ _ => .stuck) kr s
end
noncomputable def semMr (C:Cx) (N:Ann) (fn:Func) (pre:List Code) (m:MapLoop) (post:Code) (G:FuncId→FF):FF:=fun as h=>
 let Rk:=resK (stdAlg C.pure G) C N fn
 let r:=aSeq C N (stdAlg C.pure (noPan G)) (stdAlg C.pure G) (.seq m.code post) (fun s=>mapK C N (stdAlg C.pure (noPan G)) (stdAlg C.pure G) m (fun s'=>aC C N (stdAlg C.pure (noPan G)) (stdAlg C.pure G) post Rk (fun _ _ => .stuck) Rk (nrm N (headId post) s')) s) Rk pre (initSt as h)
 match r with
 | .ret v h => .ret v h
 | _ => .stuck
section
variable {C:Cx} {N:Ann} {G:FuncId→List AV→List HO→Res} {g0:Gh} {w0:World} {R:Res} {n:Nat} {m:MapLoop}
theorem aSeq_sound (hC:OkC C) (hR:R ≠ .stuck) (hnp:∀v h,R ≠ .pan v h) (hG:∀j,Sound C j (G j)) {T:Code} {kT kr:St→Res} {Q:Exit→Act→World→Prop}
  (hT:∀g w f s a,Rel C (NT.of n) g0 w0 g w f s a→kT s=R→T.wpIn (FR none) 0 C.P Q a w) (hr:∀g w f s a,Rel C (NT.of n) g0 w0 g w f s a→kr s=R→Q .ret a w) :
  ∀(cs:List Code),(cs.all fun c=>codeOK (NT.of n) c)=true→∀g w f s a,Rel C (NT.of n) g0 w0 g w f s a→aSeq C N (stdAlg C.pure (noPan G)) (stdAlg C.pure G) T kT kr cs s=R→(seqL cs T).wpIn (FR none) 0 C.P Q a w
 | [],_,g,w,f,s,a,r,h=>hT g w f s a r h
 | c::cs,hok,g,w,f,s,a,r,h=>by
  simp only [List.all_cons,Bool.and_eq_true] at hok
  refine wpIn_seq (code_sound c none hC hR hG hok.1 (.inl rfl) (.inl rfl) (Q:=Exit.then ((seqL cs T).wpIn (FR none) 0 C.P Q) Q) ?_ (fun id g w f s a _ h=>absurd h.symm hR) (fun g w f s a r h=>hr g w f s a r h) (fun a _ v h' u g' w' e=>absurd e (hnp v h')) g w f s a r h)
  intro g1 w1 f1 s1 a1 r1 h1
  obtain ⟨g2,r2⟩:=r1.nrm (N:=N) (headL cs T)
  exact aSeq_sound hC hR hnp hG hT hr cs hok.2 g2 w1 f1 _ a1 r2 h1
theorem sound_mr (hC:OkC C) (hG:∀j,Sound C j (G j)) {f:FuncId} {fn:Func} {pre:List Code} {post:Code} (hf:C.P.funcs[f]? = some fn) (hb:fn.body=some (seqL pre (.seq m.code post))) (hname:fn.name ≠ "runtime.NumGoroutine")
  (hm:m.OK C.P fn.ntmps) (hpre:(pre.all fun c=>codeOK (NT.of fn.ntmps) c)=true) (hpost:codeOK (NT.of fn.ntmps) post=true)
  (hlen:fn.results.size=fn.resultTypes.size) (hdrop:N.drop=C.pure f) (hceat:C.eats f=none) (hNf:N.fresh=none) (hfresh:C.fresh f=none):Sound C f (semMr C N fn pre m post G):=by
 have hcall:Callable C.P f:=⟨fn,hf,by rw [hb];rfl,hname⟩
 have key:∀(g:Gh) (w:World) (as:List AV) (vals:List Value) (h:List HO) (R:Res) (R':Ending→World→Prop),R ≠ .stuck→semMr C N fn pre m post G as h=R→HeapR g w h→VT g w as vals→Wf g w→GlobR C g w →
   (∀g' w' f' s' a',Rel C (NT.of fn.ntmps) g.fr0 w g' w' f' s' a'→resK (stdAlg C.pure G) C N fn s'=R→∃v,(results fn a'.tmps).run C.P w' = .ok v w'∧R' (.returned v) w')→Calls C.P f vals.toArray w R':=by
  intro g w as vals h R R' hR hr hh hv hwf hgl hfin
  have hrel:=init_rel (C:=C) (n:=fn.ntmps) (b:=false) hh hv hwf hgl
  unfold semMr at hr
  dsimp only at hr
  split at hr
  case h_2=>exact absurd hr.symm hR
  rename_i rv rh hr'
  subst hr
  have hnp:∀v h,Res.ret rv rh ≠ .pan v h:=fun v h e=>by cases e
  have fin:∀g' w' f' s' a',Rel C (NT.of fn.ntmps) g.fr0 w g' w' f' s' a'→resK (stdAlg C.pure G) C N fn s' = .ret rv rh→bodyPost C.P fn R' .ret a' w':=by
   intro g' w' f' s' a' r hk
   obtain ⟨v,h1,h2⟩:=hfin g' w' f' s' a' r hk
   exact ⟨r.dfr,v,h1,h2⟩
  refine callsIn_wide.1 ((?_:CallsIn (FR none) 0 C.P f vals.toArray w R'))
  refine callsIn_of_wp (F:=FR none) (n:=0) hf hb trivial ?_
  refine aSeq_sound (n:=fn.ntmps) hC hR hnp hG ?_ fin pre hpre g w _ _ _ hrel hr'
  intro g1 w1 f1 s1 a1 r1 h1
  refine wpIn_seq (mapK_sound hC hR hnp hG hm ?_ g1 w1 f1 s1 a1 r1 h1)
  intro g2 w2 f2 s2 a2 r2 h2
  show post.wpIn (FR none) 0 C.P _ a2 w2
  obtain ⟨g3,r3⟩:=r2.nrm (N:=N) (headId post)
  exact code_sound post none hC hR hG hpost (.inl rfl) (.inl rfl) fin (fun id g w f s a _ h=>absurd h.symm hR) fin (fun a _ v h' u g' w' e=>absurd e (hnp v h')) g3 w2 f2 _ a2 r3 h2
 unfold Sound
 split
 ·rename_i hp
  refine ⟨?_,fun e he=>by rw [hceat] at he;cases he⟩
  intro g w as vals R hr hR hnp hn0 hv hwf hgl how
  have hh:HeapR g w []:=⟨by rw [hn0];rfl,fun id hid=>by omega,fun id cs hc=>by simp at hc,fun id es hc=>by simp at hc,fun id t n xs hc=>by simp at hc⟩
  refine ⟨hcall,key g w as vals [] R _ hR hr hh hv hwf hgl ?_⟩
  have chgF:∀{g':Gh} {w':World},Chg (fun b=>g.ow b≠none) g w g' w'→Chg (fun _=>False) g w g' w':=fun h=>h.mono fun b _ hB=>hB (how b)
  intro g' w' f' s' a' r h
  obtain ⟨v,u,g2,k1,k2,k3,k4,k5,k6⟩:=end_plain hR hNf hlen r h
  rw [hfresh]
  exact ⟨u,k1,v,_,g2,k6,chgF (fr0_chg k2),k5,k4⟩
 ·rename_i hp
  intro g w as vals h R hr hR hh hv hwf hgl how
  refine ⟨hcall,key g w as vals h R _ hR hr hh hv hwf hgl ?_⟩
  intro g' w' f' s' a' r hk
  obtain ⟨v,u,g2,k1,k2,k3,k4,k5,k6⟩:=end_plain hR hNf hlen r hk
  have:N.drop=false:=by rw [hdrop];simpa using hp
  rw [this] at k6
  exact ⟨u,k1,v,_,g2,k6,fr0_chg k2,k3,k4,k5⟩
end
end Go.Vm
namespace Go.Vm
open Go
section ops
set_option linter.unusedVariables false in
def qMove {R:Type} (A:Alg R) (C:Cx) (N:Ann) (_z0:Operand) (o:Oper) (ins:List EV) (los:List LOv) (own:LOv) (h:List HO) (hv:Nat→Nat) (K:Upd→R):R:=
 let P:=C.P
 let val (e:EV):R:=K { dst:=some e }
 let x:=ins.getD 0 (.v .U);let lx:=los.getD 0 ⟨0, .no⟩
 let y:=ins.getD 1 (.v .U);let ly:=los.getD 1 ⟨0, .no⟩
 let site:=o.dst.getD 0
 val x
set_option linter.unusedVariables false in
def qAssign {R:Type} (A:Alg R) (C:Cx) (N:Ann) (_z0:Operand) (o:Oper) (ins:List EV) (los:List LOv) (own:LOv) (h:List HO) (hv:Nat→Nat) (K:Upd→R):R:=
 let P:=C.P
 let val (e:EV):R:=K { dst:=some e }
 let x:=ins.getD 0 (.v .U);let lx:=los.getD 0 ⟨0, .no⟩
 let y:=ins.getD 1 (.v .U);let ly:=los.getD 1 ⟨0, .no⟩
 let site:=o.dst.getD 0
 match x with
  | .nil=>if isSlice P o.type then K { dst:=some (.ls site (own.ver+1)),locs:=[(site,⟨own.ver+1, .arr (emptyOf P o.type) true⟩)] } else A.stuck
  | _=>val x
set_option linter.unusedVariables false in
def qPick {R:Type} (A:Alg R) (C:Cx) (N:Ann) (_z0:Operand) (_z1:Operand) (_z2:Operand) (o:Oper) (ins:List EV) (los:List LOv) (own:LOv) (h:List HO) (hv:Nat→Nat) (K:Upd→R):R:=
 let P:=C.P
 let val (e:EV):R:=K { dst:=some e }
 let x:=ins.getD 0 (.v .U);let lx:=los.getD 0 ⟨0, .no⟩
 let y:=ins.getD 1 (.v .U);let ly:=los.getD 1 ⟨0, .no⟩
 let site:=o.dst.getD 0
 match x,(ins.getD 1 (.v .U)).pl,(ins.getD 2 (.v .U)).pl with
  | .v c, .v a, .v b=>A.mB c fun t=>A.ite t (val (.v a)) (val (.v b))
  | _,_,_=>A.stuck
set_option linter.unusedVariables false in
def qAlloc {R:Type} (A:Alg R) (C:Cx) (N:Ann) (t:TypeId) (o:Oper) (ins:List EV) (los:List LOv) (own:LOv) (h:List HO) (hv:Nat→Nat) (K:Upd→R):R:=
 let P:=C.P
 let val (e:EV):R:=K { dst:=some e }
 let x:=ins.getD 0 (.v .U);let lx:=los.getD 0 ⟨0, .no⟩
 let y:=ins.getD 1 (.v .U);let ly:=los.getD 1 ⟨0, .no⟩
 let site:=o.dst.getD 0
 if zeroOK P t then
   (
    if N.heapSite site then K { dst:=some (.v (.P h.length 0)),heap:=some (h++[.cells (tagZ t (zHV P 20 t))]) }
    else K { dst:=some (.lp site (own.ver+1) 0),locs:=[(site,⟨own.ver+1, .box 0 (zHV P 20 t)⟩)] })
  else A.stuck
set_option linter.unusedVariables false in
def qBox {R:Type} (A:Alg R) (C:Cx) (N:Ann) (t:TypeId) (_z1:Operand) (o:Oper) (ins:List EV) (los:List LOv) (own:LOv) (h:List HO) (hv:Nat→Nat) (K:Upd→R):R:=
 let P:=C.P
 let val (e:EV):R:=K { dst:=some e }
 let x:=ins.getD 0 (.v .U);let lx:=los.getD 0 ⟨0, .no⟩
 let y:=ins.getD 1 (.v .U);let ly:=los.getD 1 ⟨0, .no⟩
 let site:=o.dst.getD 0
 let go (cs:List HV) (u:List (Nat×LOv)):R:=
    if N.heapSite site then K { dst:=some (.v (.P h.length 0)),locs:=u,heap:=some (h++[.cells (tagZ t cs)]) }
    else K { dst:=some (.lp site (own.ver+1) 0),locs:=(site,⟨own.ver+1, .box 0 cs⟩)::u }
   match x with
   | .ag cs=>if aggT P t=true∧cs.length=szT P t then go cs [] else A.stuck
   | _=>use A C t x lx fun a u=>if aggT P t then A.mA (szT P t) a fun l=>go ((exp (szT P t) l).map .a) u else A.m1 a (go [.a a] u)
set_option linter.unusedVariables false in
def qBuild {R:Type} (A:Alg R) (C:Cx) (N:Ann) (t:TypeId) (parts:Array (Nat×Operand)) (o:Oper) (ins:List EV) (los:List LOv) (own:LOv) (h:List HO) (hv:Nat→Nat) (K:Upd→R):R:=
 let P:=C.P
 let val (e:EV):R:=K { dst:=some e }
 let x:=ins.getD 0 (.v .U);let lx:=los.getD 0 ⟨0, .no⟩
 let y:=ins.getD 1 (.v .U);let ly:=los.getD 1 ⟨0, .no⟩
 let site:=o.dst.getD 0
 if zeroOK P t then
   (
    let ids:=parts.toList.map (·.1)
    match und P t with
    | .struct fs=>if (fs.toList.all fun f=>okT P f.type)=false then A.stuck else
     buildK A C (fieldOf P t) ids ins los (zHV P 20 t) [] fun cs u=>K { dst:=some (.ag cs),locs:=u }
    | .array n e=>if okT P e=false then A.stuck else
     buildK A C (fun i=>if i<n then some (i*szT P e,e) else none) ids ins los (zHV P 20 t) [] fun cs u=>K { dst:=some (.ag cs),locs:=u }
    | _=>A.stuck)
   else A.stuck
set_option linter.unusedVariables false in
def qBuildSlice {R:Type} (A:Alg R) (C:Cx) (N:Ann) (t:TypeId) (len:Nat) (parts:Array (Nat×Operand)) (o:Oper) (ins:List EV) (los:List LOv) (own:LOv) (h:List HO) (hv:Nat→Nat) (K:Upd→R):R:=
 let P:=C.P
 let val (e:EV):R:=K { dst:=some e }
 let x:=ins.getD 0 (.v .U);let lx:=los.getD 0 ⟨0, .no⟩
 let y:=ins.getD 1 (.v .U);let ly:=los.getD 1 ⟨0, .no⟩
 let site:=o.dst.getD 0
 match und P t with
  | .slice e=>if zeroOK P e=true∧szT P e≠0∧len*szT P e≤16777216 then
    (
     let ids:=parts.toList.map (·.1)
     useAll A C (ids.map fun _=>e) ins los fun as u=>
     if byteT P e then bytesK A ids as (List.replicate len 0) fun s=>K { dst:=some (.ls site (own.ver+1)),locs:=(site,⟨own.ver+1, .arr (.y e s) true⟩)::u }
     else elemsK A C e ids as (List.replicate len (zAV P e)) fun xs=>K { dst:=some (.ls site (own.ver+1)),locs:=(site,⟨own.ver+1, .arr (.e e (szT P e) xs) true⟩)::u })
    else A.stuck
  | _=>A.stuck
set_option linter.unusedVariables false in
def qLoad {R:Type} (A:Alg R) (C:Cx) (N:Ann) (t:TypeId) (_z1:Operand) (o:Oper) (ins:List EV) (los:List LOv) (own:LOv) (h:List HO) (hv:Nat→Nat) (K:Upd→R):R:=
 let P:=C.P
 let val (e:EV):R:=K { dst:=some e }
 let x:=ins.getD 0 (.v .U);let lx:=los.getD 0 ⟨0, .no⟩
 let y:=ins.getD 1 (.v .U);let ly:=los.getD 1 ⟨0, .no⟩
 let site:=o.dst.getD 0
 if N.win site then loadK A C t x lx h hv fun e=>(match e with
   | .v av=>A.mW av (fun id=>match arrAt h id with
    | some (t',n',xs)=>K { dst:=some (.ls site (own.ver+1)),locs:=[(site,⟨own.ver+1, .arr (.e t' n' xs) true⟩)],dl:=[(id, .no)] }
    | none=>A.stuck) A.stuck
   | _=>A.stuck) else loadK A C t x lx h hv val
set_option linter.unusedVariables false in
def qStore {R:Type} (A:Alg R) (C:Cx) (N:Ann) (t:TypeId) (ax:Operand) (_z2:Operand) (o:Oper) (ins:List EV) (los:List LOv) (own:LOv) (h:List HO) (hv:Nat→Nat) (K:Upd→R):R:=
 let P:=C.P
 let val (e:EV):R:=K { dst:=some e }
 let x:=ins.getD 0 (.v .U);let lx:=los.getD 0 ⟨0, .no⟩
 let y:=ins.getD 1 (.v .U);let ly:=los.getD 1 ⟨0, .no⟩
 let site:=o.dst.getD 0
 if mutO N ax then (match y,ly with
  | .ls k ver,⟨ver', .arr (.e t' n (x0::xs)) true⟩=>if ver=ver'∧x.site≠some k then
    storeK A C t x (.v (.W h.length)) lx ⟨0, .no⟩ (h++[.arr t' n (x0::xs)]) fun u=>(match u.heap,u.push with
     | none,[]=>K { dst:=u.dst,locs:=u.locs++[(k,⟨ver+1, .no⟩)],dl:=u.dl,push:=[.arr t' n (x0::xs)] }
     | _,_=>A.stuck)
    else A.stuck
  | _,_=>storeK A C t x y lx ly h K)
  else storeK A C t x y lx ly h K
set_option linter.unusedVariables false in
def qNilCheck {R:Type} (A:Alg R) (C:Cx) (N:Ann) (_z0:Operand) (o:Oper) (ins:List EV) (los:List LOv) (own:LOv) (h:List HO) (hv:Nat→Nat) (K:Upd→R):R:=
 let P:=C.P
 let val (e:EV):R:=K { dst:=some e }
 let x:=ins.getD 0 (.v .U);let lx:=los.getD 0 ⟨0, .no⟩
 let y:=ins.getD 1 (.v .U);let ly:=los.getD 1 ⟨0, .no⟩
 let site:=o.dst.getD 0
 match x with
  | .v a=>A.mP a fun id off=>val (.v (.P id off))
  | _=>if cur x lx then val x else A.stuck
set_option linter.unusedVariables false in
def qBinOp {R:Type} (A:Alg R) (C:Cx) (N:Ann) (op:BinOp) (t:TypeId) (_z2:Operand) (yo:Operand) (_z4:TypeId) (o:Oper) (ins:List EV) (los:List LOv) (own:LOv) (h:List HO) (hv:Nat→Nat) (K:Upd→R):R:=
 let P:=C.P
 let val (e:EV):R:=K { dst:=some e }
 let x:=ins.getD 0 (.v .U);let lx:=los.getD 0 ⟨0, .no⟩
 let y:=ins.getD 1 (.v .U);let ly:=los.getD 1 ⟨0, .no⟩
 let site:=o.dst.getD 0
 match x.pl,y.pl with
  | .v a, .nil=>match und P t with
   | .slice _=>A.mLen a fun n=>A.ite (Nat.beq n 0) (A.chk (eqOp op) (val .ub)) (cmpNil A op false fun c=>val (.v c))
   | _=>A.stuck
  | .v a, .v b=>match und P t with
   | .pointer _=>match b with
    | .N=>A.isN a fun r=>cmpNil A op r fun c=>val (.v c)
    | _=>A.stuck
   | .func _ _ _=>match b with
    | .F0=>A.isF a fun r=>cmpNil A op r fun c=>val (.v c)
    | _=>A.stuck
   | .interface _=>match b,yo with
    | .X0, .const _=>A.isX a fun r=>cmpNil A op r fun c=>val (.v c)
    | _,_=>A.stuck
   | .map _ _=>match b with
    | .M0=>A.isM a fun r=>cmpNil A op r fun c=>val (.v c)
    | _=>A.stuck
   | _=>bin A C op t a b fun c=>val (.v c)
  | _,_=>A.stuck
set_option linter.unusedVariables false in
def qUnOp {R:Type} (A:Alg R) (C:Cx) (N:Ann) (op:UnOp) (t:TypeId) (_z2:Operand) (o:Oper) (ins:List EV) (los:List LOv) (own:LOv) (h:List HO) (hv:Nat→Nat) (K:Upd→R):R:=
 let P:=C.P
 let val (e:EV):R:=K { dst:=some e }
 let x:=ins.getD 0 (.v .U);let lx:=los.getD 0 ⟨0, .no⟩
 let y:=ins.getD 1 (.v .U);let ly:=los.getD 1 ⟨0, .no⟩
 let site:=o.dst.getD 0
 match x with
  | .v a=>match op,und P t with
   | .not,_=>A.mB a fun b=>val (.v (.B (!b)))
   | .neg, .int k=>A.mI k a fun n=>val (.v (.I k (k.wrap (0-n))))
   | .xor, .int k=>A.mI k a fun n=>binI A .xor k (if k.signed then -1 else k.max) n fun c=>val (.v c)
   | _,_=>A.stuck
  | _=>A.stuck
set_option linter.unusedVariables false in
def qConvert {R:Type} (A:Alg R) (C:Cx) (N:Ann) (src:TypeId) (dst:TypeId) (_z2:Operand) (o:Oper) (ins:List EV) (los:List LOv) (own:LOv) (h:List HO) (hv:Nat→Nat) (K:Upd→R):R:=
 let P:=C.P
 let val (e:EV):R:=K { dst:=some e }
 let x:=ins.getD 0 (.v .U);let lx:=los.getD 0 ⟨0, .no⟩
 let y:=ins.getD 1 (.v .U);let ly:=los.getD 1 ⟨0, .no⟩
 let site:=o.dst.getD 0
 match und P src,und P dst with
  | .int _, .int k=>num A x fun n=>val (.v (.I k (k.wrap n)))
  | .int _, .string=>num A x fun n=>A.chk (decide (0≤n∧n<128)) (val (.v (.S [UInt8.ofNat n.toNat])))
  | .string, .string=>(match x with
    | .v a=>A.mS a fun s=>val (.v (.S s))
    | _=>A.stuck)
  | .slice e, .string=>if byteT P e then
    (
     let fin (a:AV):R:=A.mY a fun s=>A.chk (decide (s.length≤C.bound)) (val (.v (.S s)))
     match x,lx with
    | .ls _ ver,⟨ver', .arr c _⟩=>if ver=ver' then fin c.toAV else A.stuck
    | .nil,_=>val (.v (.S []))
    | .v a,_=>fin a
    | .hb _ _ _ _ z,_=>fin z.toAV
    | .hh _ _ _ z,_=>fin z.toAV
    | _,_=>A.stuck) else A.stuck
  | .string, .slice e=>if byteT P e then (match x with
    | .v a=>A.mS a fun s=>val (.v (.Y s))
    | _=>A.stuck) else A.stuck
  | _,_=>A.stuck
set_option linter.unusedVariables false in
def qMakeInterface {R:Type} (A:Alg R) (C:Cx) (N:Ann) (t:TypeId) (_z1:Operand) (o:Oper) (ins:List EV) (los:List LOv) (own:LOv) (h:List HO) (hv:Nat→Nat) (K:Upd→R):R:=
 let P:=C.P
 let val (e:EV):R:=K { dst:=some e }
 let x:=ins.getD 0 (.v .U);let lx:=los.getD 0 ⟨0, .no⟩
 let y:=ins.getD 1 (.v .U);let ly:=los.getD 1 ⟨0, .no⟩
 let site:=o.dst.getD 0
 match und P t with
  | .interface _ | .invalid=>A.stuck
  | _=>use A C t x lx fun a u=>K { dst:=some (.v (.X t a)),locs:=u }
set_option linter.unusedVariables false in
def qMakeFunc {R:Type} (A:Alg R) (C:Cx) (N:Ann) (fn:Fn) (fs:Array Operand) (cs:Array Operand) (o:Oper) (ins:List EV) (los:List LOv) (own:LOv) (h:List HO) (hv:Nat→Nat) (K:Upd→R):R:=
 let P:=C.P
 let val (e:EV):R:=K { dst:=some e }
 let x:=ins.getD 0 (.v .U);let lx:=los.getD 0 ⟨0, .no⟩
 let y:=ins.getD 1 (.v .U);let ly:=los.getD 1 ⟨0, .no⟩
 let site:=o.dst.getD 0
 if N.frz site then captAll A ins los fun as u=>
   (if fs.size=0 then K { dst:=some (.v (.F fn [] as)),locs:=u } else A.stuck)
  else useAll A C [] ins los fun as u=>
   K { dst:=some (.v (.F fn (as.take fs.size) (as.drop fs.size |>.take cs.size))),locs:=u }
set_option linter.unusedVariables false in
def qMakeSlice {R:Type} (A:Alg R) (C:Cx) (N:Ann) (t:TypeId) (_z1:Operand) (_z2:Operand) (o:Oper) (ins:List EV) (los:List LOv) (own:LOv) (h:List HO) (hv:Nat→Nat) (K:Upd→R):R:=
 let P:=C.P
 let val (e:EV):R:=K { dst:=some e }
 let x:=ins.getD 0 (.v .U);let lx:=los.getD 0 ⟨0, .no⟩
 let y:=ins.getD 1 (.v .U);let ly:=los.getD 1 ⟨0, .no⟩
 let site:=o.dst.getD 0
 match und P t with
  | .slice e=>num A x fun l=>num A y fun c=>
    A.chk (decide (0≤l∧l≤c∧c.toNat≤C.bound∧c.toNat*byT P e≤C.bound)) (if zeroOK P e=true∧szT P e≠0 then
     K { dst:=some (.ls site (own.ver+1)),locs:=[(site,⟨own.ver+1, .arr (if byteT P e then .y e (List.replicate l.toNat 0) else .e e (szT P e) (List.replicate l.toNat (zAV P e))) true⟩)] }
     else A.stuck)
  | _=>A.stuck
set_option linter.unusedVariables false in
def qSlice {R:Type} (A:Alg R) (C:Cx) (N:Ann) (t:TypeId) (_z1:Operand) (lo:Option Operand) (hi:Option Operand) (mx:Option Operand) (o:Oper) (ins:List EV) (los:List LOv) (own:LOv) (h:List HO) (hv:Nat→Nat) (K:Upd→R):R:=
 let P:=C.P
 let val (e:EV):R:=K { dst:=some e }
 let x:=ins.getD 0 (.v .U);let lx:=los.getD 0 ⟨0, .no⟩
 let y:=ins.getD 1 (.v .U);let ly:=los.getD 1 ⟨0, .no⟩
 let site:=o.dst.getD 0
 match mx with
  | some _=>match hi with
   | none=>A.stuck
   | some _=>
    let loE:=if lo.isSome then some y else none
    let hE:=ins.getD (if lo.isSome then 2 else 1) (.v .U)
    let mE:=ins.getD (if lo.isSome then 3 else 2) (.v .U)
    match und P t with
    | .slice e=>if okT P e=false then A.stuck else use A C t x lx fun a u=>
      if byteT P e then A.mY a fun s=>bounds3 A loE hE mE s.length fun l r=>K { dst:=some (.v (.Y ((s.take r).drop l))),locs:=u }
      else A.mL (szT P e) a fun xs=>bounds3 A loE hE mE xs.length fun l r=>K { dst:=some (.v (.L (szT P e) ((xs.take r).drop l))),locs:=u }
    | _=>A.stuck
  | none=>if N.win site then (match und P t,x,lx,lo,hi with
   | .slice e, .ls k ver,⟨ver', .arr c _⟩,some _,none=>if ver=ver'∧c.width=szT P e∧okT P e=true∧byteT P e=c.isY then num A y fun n=>A.chk (decide (0≤n∧n≤(c.len:Int))) (val (.lw k ver n.toNat)) else A.stuck
   | .slice e, .v av,_,none,some _=>if okT P e=true then A.mW av (fun id=>match arrAt h id with
    | some (t',n',xs)=>num A y fun n=>A.chk (decide (0≤n∧n≤(xs.length:Int))) (K { dst:=some (.ls site (own.ver+1)),locs:=[(site,⟨own.ver+1, .arr (.e t' n' (xs.take n.toNat)) true⟩)],dl:=[(id, .no)] })
    | none=>A.stuck) A.stuck else A.stuck
   | _,_,_,_,_=>A.stuck) else
   let loE:=if lo.isSome then some y else none
   let hiE:=if hi.isSome then some (ins.getD (if lo.isSome then 2 else 1) (.v .U)) else none
   match und P t with
   | .string=>match x with
    | .v a=>A.mS a fun s=>boundsK A loE hiE s.length fun l r=>val (.v (.S ((s.take r).drop l)))
    | _=>A.stuck
   | .slice e=>if okT P e=false then A.stuck else use A C t x lx fun a u=>
     if byteT P e then A.mY a fun s=>boundsK A loE hiE s.length fun l r=>K { dst:=some (.v (.Y ((s.take r).drop l))),locs:=u }
     else A.mL (szT P e) a fun xs=>boundsK A loE hiE xs.length fun l r=>K { dst:=some (.v (.L (szT P e) ((xs.take r).drop l))),locs:=u }
   | _=>A.stuck
set_option linter.unusedVariables false in
def qFieldAddr {R:Type} (A:Alg R) (C:Cx) (N:Ann) (t:TypeId) (_z1:Operand) (f:Nat) (o:Oper) (ins:List EV) (los:List LOv) (own:LOv) (h:List HO) (hv:Nat→Nat) (K:Upd→R):R:=
 let P:=C.P
 let val (e:EV):R:=K { dst:=some e }
 let x:=ins.getD 0 (.v .U);let lx:=los.getD 0 ⟨0, .no⟩
 let y:=ins.getD 1 (.v .U);let ly:=los.getD 1 ⟨0, .no⟩
 let site:=o.dst.getD 0
 match fieldOf P t f with
  | some (off',ft)=>if szT P ft=0 then A.stuck else match x with
   | .v a=>A.mP a fun id off=>val (.v (.P id (off+off')))
   | _=>if cur x lx then val (shift off' x) else A.stuck
  | none=>A.stuck
set_option linter.unusedVariables false in
def qField {R:Type} (A:Alg R) (C:Cx) (N:Ann) (t:TypeId) (_z1:Operand) (f:Nat) (o:Oper) (ins:List EV) (los:List LOv) (own:LOv) (h:List HO) (hv:Nat→Nat) (K:Upd→R):R:=
 let P:=C.P
 let val (e:EV):R:=K { dst:=some e }
 let x:=ins.getD 0 (.v .U);let lx:=los.getD 0 ⟨0, .no⟩
 let y:=ins.getD 1 (.v .U);let ly:=los.getD 1 ⟨0, .no⟩
 let site:=o.dst.getD 0
 match fieldOf P t f with
  | some (off,ft)=>match x.pl with
   | .v a=>A.mA (szT P t) a fun cs=>if okT P ft=true∧off+szT P ft≤szT P t then
     (if aggT P ft then val (.v (.A (cut cs (szT P t) off (szT P ft)))) else if off<szT P t then val (.v (cs.getD off .U)) else A.stuck) else A.stuck
   | _=>A.stuck
  | none=>A.stuck
set_option linter.unusedVariables false in
def qIndexAddr {R:Type} (A:Alg R) (C:Cx) (N:Ann) (t:TypeId) (_z1:Operand) (_z2:Operand) (o:Oper) (ins:List EV) (los:List LOv) (own:LOv) (h:List HO) (hv:Nat→Nat) (K:Upd→R):R:=
 let P:=C.P
 let val (e:EV):R:=K { dst:=some e }
 let x:=ins.getD 0 (.v .U);let lx:=los.getD 0 ⟨0, .no⟩
 let y:=ins.getD 1 (.v .U);let ly:=los.getD 1 ⟨0, .no⟩
 let site:=o.dst.getD 0
 idxK A C t x y lx h val
set_option linter.unusedVariables false in
def qIndex {R:Type} (A:Alg R) (C:Cx) (N:Ann) (t:TypeId) (_z1:Operand) (_z2:Operand) (o:Oper) (ins:List EV) (los:List LOv) (own:LOv) (h:List HO) (hv:Nat→Nat) (K:Upd→R):R:=
 let P:=C.P
 let val (e:EV):R:=K { dst:=some e }
 let x:=ins.getD 0 (.v .U);let lx:=los.getD 0 ⟨0, .no⟩
 let y:=ins.getD 1 (.v .U);let ly:=los.getD 1 ⟨0, .no⟩
 let site:=o.dst.getD 0
 match x.pl with
  | .v a=>num A y fun n=>match und P t with
   | .string=>A.mS a fun s=>A.ix n s.length fun j=>val (.v (byteAt s j))
   | .array len e=>if okT P e=false∨szT P e=0 then A.stuck else A.mA (len*szT P e) a fun cs=>A.ix n len fun j=>
     if aggT P e then val (.v (.A ((cs.drop (j*szT P e)).take (szT P e)))) else val (.v (cs.getD (j*szT P e) .U))
   | _=>A.stuck
  | _=>A.stuck
set_option linter.unusedVariables false in
def qExtract {R:Type} (A:Alg R) (C:Cx) (N:Ann) (_z0:Operand) (i:Nat) (o:Oper) (ins:List EV) (los:List LOv) (own:LOv) (h:List HO) (hv:Nat→Nat) (K:Upd→R):R:=
 let P:=C.P
 let val (e:EV):R:=K { dst:=some e }
 let x:=ins.getD 0 (.v .U);let lx:=los.getD 0 ⟨0, .no⟩
 let y:=ins.getD 1 (.v .U);let ly:=los.getD 1 ⟨0, .no⟩
 let site:=o.dst.getD 0
 match x with
  | .v a=>A.mT (i+1) a fun l=>val (.v (l.getD i .U))
  | _=>A.stuck
set_option linter.unusedVariables false in
def qCall {R:Type} (A:Alg R) (C:Cx) (N:Ann) (c:Call) (o:Oper) (ins:List EV) (los:List LOv) (own:LOv) (h:List HO) (hv:Nat→Nat) (K:Upd→R):R:=
 let P:=C.P
 let val (e:EV):R:=K { dst:=some e }
 let x:=ins.getD 0 (.v .U);let lx:=los.getD 0 ⟨0, .no⟩
 let y:=ins.getD 1 (.v .U);let ly:=los.getD 1 ⟨0, .no⟩
 let site:=o.dst.getD 0
 match c.callee with
  | .builtin b=>match b with
   | .len=>match c.argTypes[0]? with
    | none=>A.stuck
    | some t=>match und P t with
     | .string=>(match x with
      | .v a=>A.mS a fun s=>val (.v (.I .i64 s.length))
      | _=>A.stuck)
     | .map _ _=>(match x with
      | .v a=>A.mMl a h fun es=>A.chk (decide (es.length≤C.bound)) (val (.v (.I .i64 es.length)))
      | _=>A.stuck)
     | .slice _=>(match x,lx with
      | .ls _ ver,⟨ver', .arr c _⟩=>if ver=ver' then val (.v (.I .i64 c.len)) else A.stuck
      | .hb _ _ _ _ z,_=>A.mLen z.toAV fun n=>val (.v (.I .i64 n))
      | .hh _ _ _ z,_=>A.mLen z.toAV fun n=>val (.v (.I .i64 n))
      | .v a,_=>A.mW a (fun id=>match arrAt h id with
       | some (_,_,xs)=>val (.v (.I .i64 xs.length))
       | none=>A.stuck) (A.mLen a fun n=>val (.v (.I .i64 n)))
      | _,_=>A.stuck)
     | _=>A.stuck
   | .append=>match c.args.toList,c.argTypes.toList with
    | [_,_],[t,tx]=>(match und P tx with
     | .string=>appendK A C site own t true (N.mutA site) x y lx ly h hv K
     | .slice _=>appendK A C site own t false (N.mutA site) x y lx ly h hv K
     | _=>A.stuck)
    | _,_=>A.stuck
   | .copy=>match c.args.toList,c.argTypes.toList with
    | [_,_],[t,tx]=>(match und P t,und P tx with
     | .slice e, .slice _=>copyK A C e x y lx ly K
     | _,_=>A.stuck)
    | _,_=>A.stuck
   | .max=>match ins with
    | [.v a, .v b]=>match und P o.type with
     | .int k=>A.mI k a fun m=>A.mI k b fun n=>val (.v (.I k (if n>m then n else m)))
     | _=>A.stuck
    | _=>A.stuck
   | .delete=>match c.argTypes[0]? with
    | none=>A.stuck
    | some t=>match und P t,x,y with
     | .map kt _, .v m, .v i=>(match und P kt with
      | .int k=>A.mI k i fun n=>A.mMd m h fun id _ es=>A.fnd k n es fun _=>K { dst:=some (.v (.T [])),dl:=[(id, .map (marked true (delM n es)))] }
      | _=>A.stuck)
     | _,_,_=>A.stuck
   | .min=>match ins with
    | [.v a, .v b]=>match und P o.type with
     | .int k=>A.mI k a fun m=>A.mI k b fun n=>val (.v (.I k (if n<m then n else m)))
     | _=>A.stuck
    | _=>A.stuck
   | _=>A.stuck
  | .invoke _ m=>match x with
   | .v a=>useAll A C [] (ins.drop 1) (los.drop 1) fun as u=>A.mX a fun t r=>match methodFid P t m with
    | some f=>callK A C o.dst own o.type f (r::as) u (if N.narrow site then some (visD h (ptsIns ins los)) else none) h K
    | none=>A.stuck
   | _=>A.stuck
  | .value (.func f)=>(match C.eats f with
   | some e=>(match paramTys P f with
    | _::ts=>useAll A C ts (ins.drop 2) (los.drop 2) fun as u=>eatK A C o.dst own f e y ly as u K
    | []=>A.stuck)
   | none=>useAll A C (paramTys P f) (ins.drop 1) (los.drop 1) fun as u=>callK A C o.dst own o.type f as u (if N.narrow site then some (visD h (ptsIns ins los)) else none) h K)
  | .value _=>match x with
   | .v a=>useAll A C c.argTypes.toList (ins.drop 1) (los.drop 1) fun as u=>A.mF a fun fn fs cs=>
    if N.dynPure then A.dynP fn (fs++as++cs) h fun v=>K { dst:=some (.v v),locs:=u }
    else A.dynH fn (fs++as++cs) h fun v h'=>K { dst:=some (.v v),locs:=u,heap:=some h' }
   | _=>A.stuck
set_option linter.unusedVariables false in
def qPanic {R:Type} (A:Alg R) (C:Cx) (N:Ann) (_z0:Operand) (o:Oper) (ins:List EV) (los:List LOv) (own:LOv) (h:List HO) (hv:Nat→Nat) (K:Upd→R):R:=
 let P:=C.P
 let val (e:EV):R:=K { dst:=some e }
 let x:=ins.getD 0 (.v .U);let lx:=los.getD 0 ⟨0, .no⟩
 let y:=ins.getD 1 (.v .U);let ly:=los.getD 1 ⟨0, .no⟩
 let site:=o.dst.getD 0
 match x with
  | .v a=>A.mX a fun t v=>A.pan (.X t v) h
  | _=>A.stuck
set_option linter.unusedVariables false in
def qMakeMap {R:Type} (A:Alg R) (C:Cx) (N:Ann) (t:TypeId) (r:Option Operand) (o:Oper) (ins:List EV) (los:List LOv) (own:LOv) (h:List HO) (hv:Nat→Nat) (K:Upd→R):R:=
 let P:=C.P
 let val (e:EV):R:=K { dst:=some e }
 let x:=ins.getD 0 (.v .U);let lx:=los.getD 0 ⟨0, .no⟩
 let y:=ins.getD 1 (.v .U);let ly:=los.getD 1 ⟨0, .no⟩
 let site:=o.dst.getD 0
 match und P t,r with
  | .map _ _,none=>K { dst:=some (.v (.M h.length)),heap:=some (h++[.map []]) }
  | _,_=>A.stuck
set_option linter.unusedVariables false in
def qLookup {R:Type} (A:Alg R) (C:Cx) (N:Ann) (t:TypeId) (_z1:Operand) (_z2:Operand) (ok:Bool) (o:Oper) (ins:List EV) (los:List LOv) (own:LOv) (h:List HO) (hv:Nat→Nat) (K:Upd→R):R:=
 let P:=C.P
 let val (e:EV):R:=K { dst:=some e }
 let x:=ins.getD 0 (.v .U);let lx:=los.getD 0 ⟨0, .no⟩
 let y:=ins.getD 1 (.v .U);let ly:=los.getD 1 ⟨0, .no⟩
 let site:=o.dst.getD 0
 match und P t,x,y.pl with
  | .map kt et, .v m, .v i=>(match und P kt with
   | .struct _=>(match simpleK P kt,flatK P 20 kt with
    | true,some ks=>A.mA (szT P kt) i fun cs=>A.mMl m h fun es=>A.fndS ks cs es fun r=>match r with
     | some v=>val (.v (if ok then .T [v, .B true] else v))
     | none=>zeroK A C et fun v=>val (.v (if ok then .T [v, .B false] else v))
    | _,_=>A.stuck)
   | .int k=>A.mI k i fun n=>A.mMl m h fun es=>A.fnd k n es fun r=>match r with
    | some v=>val (.v (if ok then .T [v, .B true] else v))
    | none=>zeroK A C et fun v=>val (.v (if ok then .T [v, .B false] else v))
   | _=>A.stuck)
  | _,_,_=>A.stuck
set_option linter.unusedVariables false in
def qMapEntry {R:Type} (A:Alg R) (C:Cx) (N:Ann) (t:TypeId) (_z1:Operand) (_z2:Operand) (o:Oper) (ins:List EV) (los:List LOv) (own:LOv) (h:List HO) (hv:Nat→Nat) (K:Upd→R):R:=
 let P:=C.P
 let val (e:EV):R:=K { dst:=some e }
 let x:=ins.getD 0 (.v .U);let lx:=los.getD 0 ⟨0, .no⟩
 let y:=ins.getD 1 (.v .U);let ly:=los.getD 1 ⟨0, .no⟩
 let site:=o.dst.getD 0
 match und P t,x,y.pl with
  | .map kt et, .v m, .v i=>(match simpleK P kt,flatK P 20 kt with
   | true,some ks=>A.mA (szT P kt) i fun cs=>A.mM m h fun id es=>A.chk (decide (es.length≤C.bound∧eqCells ks cs cs=some true)) (A.fndS ks cs es fun r=>match r with
    | some v=>K { dst:=some (.v (.T [v, .I .i64 (idxS ks cs es)])),dl:=[(id, .map (putS ks cs v es))] }
    | none=>zeroK A C et fun v=>K { dst:=some (.v (.T [v, .I .i64 (idxS ks cs es)])),dl:=[(id, .map (putS ks cs v es))] })
   | _,_=>A.stuck)
  | _,_,_=>A.stuck
set_option linter.unusedVariables false in
def qEntryStore {R:Type} (A:Alg R) (C:Cx) (N:Ann) (t:TypeId) (_z1:Operand) (_z2:Operand) (_z3:Operand) (o:Oper) (ins:List EV) (los:List LOv) (own:LOv) (h:List HO) (hv:Nat→Nat) (K:Upd→R):R:=
 let P:=C.P
 let val (e:EV):R:=K { dst:=some e }
 let x:=ins.getD 0 (.v .U);let lx:=los.getD 0 ⟨0, .no⟩
 let y:=ins.getD 1 (.v .U);let ly:=los.getD 1 ⟨0, .no⟩
 let site:=o.dst.getD 0
 match und P t,x,y with
  | .map _ et, .v m, .v i=>A.mI .i64 i fun n=>use A C et (ins.getD 2 (.v .U)) (los.getD 2 ⟨0, .no⟩) fun v u=>A.mM m h fun id es=>A.ix n es.length fun j=>
    K { dst:=none,locs:=u,dl:=[(id, .map (es.modify j fun p=>(p.1,v)))] }
  | _,_,_=>A.stuck
set_option linter.unusedVariables false in
def qMapUpdate {R:Type} (A:Alg R) (C:Cx) (N:Ann) (t:TypeId) (_z1:Operand) (_z2:Operand) (_z3:Operand) (o:Oper) (ins:List EV) (los:List LOv) (own:LOv) (h:List HO) (hv:Nat→Nat) (K:Upd→R):R:=
 let P:=C.P
 let val (e:EV):R:=K { dst:=some e }
 let x:=ins.getD 0 (.v .U);let lx:=los.getD 0 ⟨0, .no⟩
 let y:=ins.getD 1 (.v .U);let ly:=los.getD 1 ⟨0, .no⟩
 let site:=o.dst.getD 0
 match und P t,x,y.pl with
  | .map kt et, .v m, .v i=>(match und P kt with
   | .struct _=>(match simpleK P kt,flatK P 20 kt with
    | true,some ks=>A.mA (szT P kt) i fun cs=>use A C et (ins.getD 2 (.v .U)) (los.getD 2 ⟨0, .no⟩) fun v u=>A.mM m h fun id es=>A.fndS ks cs es fun _=>
      K { dst:=none,locs:=u,dl:=[(id, .map (putS ks cs v es))] }
    | _,_=>A.stuck)
   | .int k=>A.mI k i fun n=>use A C et (ins.getD 2 (.v .U)) (los.getD 2 ⟨0, .no⟩) fun v u=>A.mMd m h fun id d es=>A.fnd k n es fun _=>
     K { dst:=none,locs:=u,dl:=[(id, .map (marked d (putM k n v es)))] }
   | _=>A.stuck)
  | _,_,_=>A.stuck
def opQ {R:Type} (A:Alg R) (C:Cx) (N:Ann) (o:Oper) (ins:List EV) (los:List LOv) (own:LOv) (h:List HO) (hv:Nat→Nat) (K:Upd→R):R:=match o.op with
 | .move z0=>qMove A C N z0 o ins los own h hv K
 | .assign z0=>qAssign A C N z0 o ins los own h hv K
 | .pick z0 z1 z2=>qPick A C N z0 z1 z2 o ins los own h hv K
 | .alloc t=>qAlloc A C N t o ins los own h hv K
 | .box t z1=>qBox A C N t z1 o ins los own h hv K
 | .build t parts=>qBuild A C N t parts o ins los own h hv K
 | .buildSlice t len parts=>qBuildSlice A C N t len parts o ins los own h hv K
 | .load t z1=>qLoad A C N t z1 o ins los own h hv K
 | .store t ax z2=>qStore A C N t ax z2 o ins los own h hv K
 | .nilCheck z0=>qNilCheck A C N z0 o ins los own h hv K
 | .binOp op t z2 yo z4=>qBinOp A C N op t z2 yo z4 o ins los own h hv K
 | .unOp op t z2=>qUnOp A C N op t z2 o ins los own h hv K
 | .convert src dst z2=>qConvert A C N src dst z2 o ins los own h hv K
 | .makeInterface t z1=>qMakeInterface A C N t z1 o ins los own h hv K
 | .makeFunc fn fs cs=>qMakeFunc A C N fn fs cs o ins los own h hv K
 | .makeSlice t z1 z2=>qMakeSlice A C N t z1 z2 o ins los own h hv K
 | .slice t z1 lo hi mx=>qSlice A C N t z1 lo hi mx o ins los own h hv K
 | .fieldAddr t z1 f=>qFieldAddr A C N t z1 f o ins los own h hv K
 | .field t z1 f=>qField A C N t z1 f o ins los own h hv K
 | .indexAddr t z1 z2=>qIndexAddr A C N t z1 z2 o ins los own h hv K
 | .index t z1 z2=>qIndex A C N t z1 z2 o ins los own h hv K
 | .extract z0 i=>qExtract A C N z0 i o ins los own h hv K
 | .call c=>qCall A C N c o ins los own h hv K
 | .panic z0=>qPanic A C N z0 o ins los own h hv K
 | .makeMap t r=>qMakeMap A C N t r o ins los own h hv K
 | .lookup t z1 z2 ok=>qLookup A C N t z1 z2 ok o ins los own h hv K
 | .mapEntry t z1 z2=>qMapEntry A C N t z1 z2 o ins los own h hv K
 | .entryStore t z1 z2 z3=>qEntryStore A C N t z1 z2 z3 o ins los own h hv K
 | .mapUpdate t z1 z2 z3=>qMapUpdate A C N t z1 z2 z3 o ins los own h hv K
 | _=>A.stuck
theorem opQ_eq {R:Type} (A:Alg R) (C:Cx) (N:Ann) (o:Oper) (ins:List EV) (los:List LOv) (own:LOv) (h:List HO) (hv:Nat→Nat) (K:Upd→R):opQ A C N o ins los own h hv K=opF A C N o ins los own h hv K:=by
 unfold opQ opF
 cases o.op<;>rfl
end ops
end Go.Vm
namespace Go.Vm
open Go
structure OpB where
 run:St→(St→Res)→Res
inductive OpX where
 | val (run:St→(EV→Res)→Res)
 | upd (run:St→(Upd→Res)→Res)
def OpX.on (d:Option Nat) (s:St) (K:St→Res):OpX→Res
 | .val r=>r s fun e=>K (s.put d e)
 | .upd r=>r s fun u=>K (u.on d s)
def OpX.up (s:St) (K:Upd→Res):OpX→Res
 | .val r=>r s fun e=>K { dst:=some e }
 | .upd r=>r s K
structure EvB where
 get:St→EV
structure StB where
 run:St→(St→Res)→Res
structure CdB where
 run:(St→Res)→(Nat→St→Res)→(St→Res)→St→Res
def ikN:IntKind→Nat
 | .i8=>0 | .i16=>1 | .i32=>2 | .i64=>3 | .u8=>4 | .u16=>5 | .u32=>6 | .u64=>7
theorem ikN_inj {a b:IntKind} (h:Nat.beq (ikN a) (ikN b)=true):a=b:=by
 cases a<;>cases b<;>first | rfl | (simp [ikN] at h)
theorem ik_ite {α:Type} (a b:IntKind) (x y:α):(bif Nat.beq (ikN a) (ikN b) then x else y)=if a=b then x else y:=by
 cases h:Nat.beq (ikN a) (ikN b) with
 | true=>rw [if_pos (ikN_inj h)];rfl
 | false=>
  rw [if_neg]
  ·rfl
  ·intro e;subst e;simp at h
theorem on_dst (e:EV) (d:Option Nat) (s:St):Upd.on { dst:=some e } d s=s.put d e:=by cases d<;>rfl
def frcN (n:Nat) (K:Nat→Res):Res:=Nat.rec (motive:=fun _=>Res) (K 0) (fun p _=>K (Nat.succ p)) n
def frcI (n:Int) (K:Int→Res):Res:=match n with
 | .ofNat a=>frcN a fun a=>K (.ofNat a)
 | .negSucc a=>frcN a fun a=>K (.negSucc a)
def frcV (a:AV) (K:AV→Res):Res:=match a with
 | .I k n=>frcI n fun n=>K (.I k n)
 | .B b=>match b with
  | true=>K (.B true)
  | false=>K (.B false)
 | a=>K a
def frcE (e:EV) (K:EV→Res):Res:=match e with
 | .v a=>frcV a fun a=>K (.v a)
 | e=>K e
theorem frcN_eq (n:Nat) (K:Nat→Res):frcN n K=K n:=by cases n<;>rfl
theorem frcI_eq (n:Int) (K:Int→Res):frcI n K=K n:=by
 cases n with
 | ofNat a=>exact frcN_eq a fun a=>K (.ofNat a)
 | negSucc a=>exact frcN_eq a fun a=>K (.negSucc a)
theorem frcV_eq (a:AV) (K:AV→Res):frcV a K=K a:=by
 cases a with
 | I k n=>exact frcI_eq n fun n=>K (.I k n)
 | B b=>cases b<;>rfl
 | _=>rfl
theorem frcE_eq (e:EV) (K:EV→Res):frcE e K=K e:=by
 cases e with
 | v a=>exact frcV_eq a fun a=>K (.v a)
 | _=>rfl
section
variable (C:Cx) (N:Ann) (G:FuncId→FF)
def evB:Operand→EvB
 | .tmp t=>⟨fun s=>s.env t⟩
 | .const v=>⟨fun _=>cv v⟩
 | x=>⟨fun s=>evO C s x⟩
theorem evB_eq (x:Operand) (s:St):(evB C x).get s=evO C s x:=by cases x<;>rfl
def cSlow (o:Oper):OpX := .upd fun s K=>
 let ins:=o.op.operands.toList.map (evO C s)
 opQ (stdAlg C.pure G) C N o ins (ins.map (loO s)) (s.loc (o.dst.getD 0)) s.h s.hv K
def opU (o:Oper) (s:St) (K:Upd→Res):Res:=
 let ins:=o.op.operands.toList.map (evO C s)
 opF (stdAlg C.pure G) C N o ins (ins.map (loO s)) (s.loc (o.dst.getD 0)) s.h s.hv K
theorem cSlow_eq (o:Oper) (s:St) (K:Upd→Res):(cSlow C N G o).up s K=opU C N G o s K:=opQ_eq _ _ _ _ _ _ _ _ _ _
def cMove (x:EvB):OpX := .val fun s K=>frcE (x.get s) K
def cAssign (o:Oper) (t:Nat):OpX := .upd fun s K=>match s.env t with
 | .nil=>(cSlow C N G o).up s K
 | e=>frcE e fun e=>K { dst:=some e }
def cField (x:EvB) (off':Nat):OpX := .val fun s K=>match x.get s with
 | .v a=>mP a fun id off=>K (.v (.P id (off+off')))
 | e=>bif cur e (loO s e) then K (shift off' e) else .stuck
def cNil (x:EvB):OpX := .val fun s K=>match x.get s with
 | .v a=>mP a fun id off=>K (.v (.P id off))
 | e=>bif cur e (loO s e) then K e else .stuck
def cLoadA (t m:Nat) (x:EvB):OpX := .val fun s K=>match x.get s with
 | .lp k ver off=>(match s.loc k with
  | ⟨ver', .box _ cs⟩=>bif Nat.beq ver ver' then chk (Nat.ble (off+m) cs.length) (K (.v (.A (((cs.drop off).take m).map HV.toAV)))) else .stuck
  | _ => .stuck)
 | e=>loadK (stdAlg C.pure G) C t e (loO s e) s.h s.hv K
def cLoad1 (t:Nat) (x:EvB):OpX := .val fun s K=>match x.get s with
 | .lp k ver off=>(match s.loc k with
  | ⟨ver', .box _ cs⟩=>bif Nat.beq ver ver' then chk (Nat.blt off cs.length) (frcV (cs.getD off (.a .U)).toAV fun a=>K (.v a)) else .stuck
  | _ => .stuck)
 | e=>loadK (stdAlg C.pure G) C t e (loO s e) s.h s.hv K
def cLoad (t:Nat) (x:EvB):OpX := .val fun s K=>let e:=x.get s;loadK (stdAlg C.pure G) C t e (loO s e) s.h s.hv K
def cStore (t:Nat) (x y:EvB):OpX := .upd fun s K=>let e:=x.get s;let e':=y.get s;storeK (stdAlg C.pure G) C t e e' (loO s e) (loO s e') s.h K
def cInt (k:IntKind) (x y:EvB) (F:Int→Int→(AV→Res)→Res):OpX := .val fun s K=>match x.get s with
 | .v (.I k1 m)=>(match y.get s with
  | .v (.I k2 n)=>bif Nat.beq (ikN k1) (ikN k) then (bif Nat.beq (ikN k2) (ikN k) then F m n fun c=>K (.v c) else .stuck) else .stuck
  | _ => .stuck)
 | _ => .stuck
def cNot (x:EvB):OpX := .val fun s K=>match x.get s with
 | .v (.B true)=>K (.v (.B false))
 | .v (.B false)=>K (.v (.B true))
 | _ => .stuck
def cConv (k:IntKind) (x:EvB):OpX := .val fun s K=>match x.get s with
 | .v (.I _ n)=>frcI (k.wrap n) fun n=>K (.v (.I k n))
 | _ => .stuck
def cExtr (i:Nat) (x:EvB):OpX := .val fun s K=>match x.get s with
 | .v (.T l)=>bif Nat.ble (i+1) l.length then frcV (l.getD i .U) fun a=>K (.v a) else .stuck
 | _ => .stuck
def cCall (o:Oper) (f:FuncId) (tys:List TypeId) (ops:List Operand):OpX := .upd fun s K=>
 let ins:=ops.map (evO C s);let los:=ins.map (loO s)
 useAll (stdAlg C.pure G) C tys (ins.drop 1) (los.drop 1) fun as u=>callK (stdAlg C.pure G) C o.dst (s.loc (o.dst.getD 0)) o.type f as u (if N.narrow (o.dst.getD 0) then some (visD s.h (ptsIns ins los)) else none) s.h K
def cOp (o:Oper):OpX:=match o.op with
 | .move x=>cMove (evB C x)
 | .assign (.tmp t)=>cAssign C N G o t
 | .fieldAddr t x f=>(match fieldOf C.P t f with
  | some (off',ft)=>(match szT C.P ft with
   | 0=>cSlow C N G o
   | _+1=>cField (evB C x) off')
  | none=>cSlow C N G o)
 | .nilCheck x=>cNil (evB C x)
 | .load t x=>(match N.win (o.dst.getD 0) with
  | true=>cSlow C N G o
  | false=>(match okT C.P t,aggT C.P t,isSlice C.P t with
   | true,true,_=>cLoadA C G t (szT C.P t) (evB C x)
   | true,false,false=>cLoad1 C G t (evB C x)
   | _,_,_=>cLoad C G t (evB C x)))
 | .store t x y=>(match mutO N x with
  | true=>cSlow C N G o
  | false=>cStore C G t (evB C x) (evB C y))
 | .binOp op t x y _=>(match und C.P t with
  | .int k=>(match op with
   | .add=>cInt k (evB C x) (evB C y) fun m n K=>frcI (k.wrap (m+n)) fun r=>K (.I k r)
   | .sub=>cInt k (evB C x) (evB C y) fun m n K=>frcI (k.wrap (m-n)) fun r=>K (.I k r)
   | .lss=>cInt k (evB C x) (evB C y) fun m n K=>frcV (.B (decide (m<n))) K
   | .leq=>cInt k (evB C x) (evB C y) fun m n K=>frcV (.B (decide (m≤n))) K
   | .gtr=>cInt k (evB C x) (evB C y) fun m n K=>frcV (.B (decide (m>n))) K
   | .geq=>cInt k (evB C x) (evB C y) fun m n K=>frcV (.B (decide (m≥n))) K
   | .eql=>cInt k (evB C x) (evB C y) fun m n K=>frcV (.B (m == n)) K
   | .neq=>cInt k (evB C x) (evB C y) fun m n K=>frcV (.B (!(m == n))) K
   | .and=>cInt k (evB C x) (evB C y) fun m n K=>binI (stdAlg C.pure G) .and k m n fun a=>frcV a K
   | .or=>cInt k (evB C x) (evB C y) fun m n K=>binI (stdAlg C.pure G) .or k m n fun a=>frcV a K
   | .xor=>cInt k (evB C x) (evB C y) fun m n K=>binI (stdAlg C.pure G) .xor k m n fun a=>frcV a K
   | .mul=>cInt k (evB C x) (evB C y) fun m n K=>binI (stdAlg C.pure G) .mul k m n fun a=>frcV a K
   | .quo=>cInt k (evB C x) (evB C y) fun m n K=>binI (stdAlg C.pure G) .quo k m n fun a=>frcV a K
   | .rem=>cInt k (evB C x) (evB C y) fun m n K=>binI (stdAlg C.pure G) .rem k m n fun a=>frcV a K
   | _=>cSlow C N G o)
  | _=>cSlow C N G o)
 | .unOp .not _ x=>cNot (evB C x)
 | .convert src dst x=>(match und C.P src,und C.P dst with
  | .int _, .int k=>cConv k (evB C x)
  | _,_=>cSlow C N G o)
 | .extract x i=>cExtr i (evB C x)
 | .call c=>(match c.callee with
  | .value (.func f)=>(match C.eats f with
   | none=>cCall C N G o f (paramTys C.P f) o.op.operands.toList
   | some _=>cSlow C N G o)
  | _=>cSlow C N G o)
 | _=>cSlow C N G o
end
section
variable {C:Cx} {N:Ann} {G:FuncId→FF}
theorem blt_decide (a b:Nat):Nat.blt a b=decide (a<b):=by
 rw [Bool.eq_iff_iff,decide_eq_true_iff,Nat.blt_eq]
theorem ble_decide (a b:Nat):Nat.ble a b=decide (a≤b):=by
 rw [Bool.eq_iff_iff,decide_eq_true_iff,Nat.ble_eq]
theorem beq_ite {α:Type} (a b:Nat) (x y:α):(bif Nat.beq a b then x else y)=if a=b then x else y:=by
 cases h:Nat.beq a b with
 | true=>rw [if_pos (Nat.eq_of_beq_eq_true h)];rfl
 | false=>rw [if_neg (fun e=>by subst e;simp at h)];rfl
theorem bif_ite {α:Type} (b:Bool) (x y:α):(bif b then x else y)=if b=true then x else y:=by cases b<;>rfl
theorem cMove_eq {o:Oper} {x:Operand} (ho:o.op = .move x) (s:St) (K:Upd→Res):(cMove (evB C x)).up s K=opU C N G o s K:=by
 simp only [opU,opF,ho,Op.operands,cMove,OpX.up,frcE_eq,evB_eq,List.map_cons,List.map_nil,List.getD_cons_zero]
theorem cAssign_eq {o:Oper} {t:Nat} (ho:o.op = .assign (.tmp t)) (s:St) (K:Upd→Res):(cAssign C N G o t).up s K=opU C N G o s K:=by
 unfold cAssign
 simp only [OpX.up]
 cases he:s.env t with
 | nil=>exact cSlow_eq ..
 | _=>simp only [opU,opF,ho,Op.operands,frcE_eq,List.map_cons,List.map_nil,List.getD_cons_zero,evO,he]
theorem cField_eq {o:Oper} {t:TypeId} {x:Operand} {f off':Nat} {ft:TypeId} (ho:o.op = .fieldAddr t x f) (hf:fieldOf C.P t f=some (off',ft)) (hz:szT C.P ft≠0) (s:St) (K:Upd→Res):(cField (evB C x) off').up s K=opU C N G o s K:=by
 simp only [opU,opF,ho,Op.operands,cField,OpX.up,evB_eq,List.map_cons,List.map_nil,List.getD_cons_zero,hf,if_neg hz]
 generalize evO C s x=e
 cases e<;>(simp only [bif_ite]<;>rfl)
theorem cNil_eq {o:Oper} {x:Operand} (ho:o.op = .nilCheck x) (s:St) (K:Upd→Res):(cNil (evB C x)).up s K=opU C N G o s K:=by
 simp only [opU,opF,ho,Op.operands,cNil,OpX.up,evB_eq,List.map_cons,List.map_nil,List.getD_cons_zero]
 generalize evO C s x=e
 cases e<;>(simp only [bif_ite]<;>rfl)
theorem cLoad_eq {o:Oper} {t:TypeId} {x:Operand} (ho:o.op = .load t x) (hw:N.win (o.dst.getD 0)=false) (s:St) (K:Upd→Res):(cLoad C G t (evB C x)).up s K=opU C N G o s K:=by
 simp only [opU,opF,ho,hw,Bool.false_eq_true,if_false,Op.operands,cLoad,OpX.up,evB_eq,List.map_cons,List.map_nil,List.getD_cons_zero]
theorem cLoadA_eq {o:Oper} {t:TypeId} {x:Operand} (ho:o.op = .load t x) (hw:N.win (o.dst.getD 0)=false) (hk:okT C.P t=true) (ha:aggT C.P t=true) (s:St) (K:Upd→Res):(cLoadA C G t (szT C.P t) (evB C x)).up s K=opU C N G o s K:=by
 rw [←cLoad_eq (N:=N) (G:=G) ho hw]
 unfold cLoadA cLoad
 simp only [OpX.up]
 split
 ·rename_i k ver off he
  rw [he]
  simp only [loadK,loO,EV.site,hk,ha,if_true,Bool.true_eq_false,if_false]
  generalize s.loc k=l
  obtain ⟨ver',lo⟩:=l
  cases lo<;>first | rfl | (simp only [beq_ite,ble_decide];rfl)
 ·rfl
theorem cLoad1_eq {o:Oper} {t:TypeId} {x:Operand} (ho:o.op = .load t x) (hw:N.win (o.dst.getD 0)=false) (hk:okT C.P t=true) (ha:aggT C.P t=false) (hs:isSlice C.P t=false) (s:St) (K:Upd→Res):(cLoad1 C G t (evB C x)).up s K=opU C N G o s K:=by
 rw [←cLoad_eq (N:=N) (G:=G) ho hw]
 unfold cLoad1 cLoad
 simp only [OpX.up]
 split
 ·rename_i k ver off he
  rw [he]
  simp only [loadK,loO,EV.site,hk,ha,hs,if_true,Bool.true_eq_false,Bool.false_eq_true,if_false,frcV_eq]
  generalize s.loc k=l
  obtain ⟨ver',lo⟩:=l
  cases lo<;>first | rfl | (simp only [beq_ite,blt_decide];rfl)
 ·rfl
theorem cStore_eq {o:Oper} {t:TypeId} {x y:Operand} (ho:o.op = .store t x y) (hm:mutO N x=false) (s:St) (K:Upd→Res):(cStore C G t (evB C x) (evB C y)).up s K=opU C N G o s K:=by
 simp only [opU,opF,ho,Op.operands,cStore,OpX.up,evB_eq,List.map_cons,List.map_nil,List.getD_cons_zero,List.getD_cons_succ,hm,Bool.false_eq_true,if_false]
theorem cNot_eq {o:Oper} {t:TypeId} {x:Operand} (ho:o.op = .unOp .not t x) (s:St) (K:Upd→Res):(cNot (evB C x)).up s K=opU C N G o s K:=by
 simp only [cNot,OpX.up,evB_eq,opU,opF,ho,Op.operands,List.map_cons,List.map_nil,List.getD_cons_zero]
 generalize evO C s x=e
 cases e with
 | v a=>cases a with
  | B b=>cases b<;>rfl
  | _=>rfl
 | _=>rfl
theorem cConv_eq {o:Oper} {src dst:TypeId} {x:Operand} {k k':IntKind} (ho:o.op = .convert src dst x) (h1:und C.P src = .int k') (h2:und C.P dst = .int k) (s:St) (K:Upd→Res):(cConv k (evB C x)).up s K=opU C N G o s K:=by
 simp only [cConv,OpX.up,evB_eq,frcI_eq,opU,opF,ho,Op.operands,List.map_cons,List.map_nil,List.getD_cons_zero,h1,h2]
 generalize evO C s x=e
 cases e with
 | v a=>cases a<;>rfl
 | _=>rfl
theorem cExtr_eq {o:Oper} {x:Operand} {i:Nat} (ho:o.op = .extract x i) (s:St) (K:Upd→Res):(cExtr i (evB C x)).up s K=opU C N G o s K:=by
 simp only [cExtr,OpX.up,evB_eq,frcV_eq,opU,opF,ho,Op.operands,List.map_cons,List.map_nil,List.getD_cons_zero]
 generalize evO C s x=e
 cases e with
 | v a=>cases a with
  | T l=>simp only [stdAlg,mT,bif_ite,Nat.ble_eq]
  | _=>rfl
 | _=>rfl
theorem cInt_eq {o:Oper} {op:BinOp} {t tt:TypeId} {x y:Operand} {k:IntKind} {F:Int→Int→(AV→Res)→Res} (ho:o.op = .binOp op t x y tt) (hu:und C.P t = .int k) (h1:op ≠ .shl) (h2:op ≠ .shr) (hF:∀m n K,F m n K=binI (stdAlg C.pure G) op k m n K) (s:St) (K:Upd→Res) :
  (cInt k (evB C x) (evB C y) F).up s K=opU C N G o s K:=by
 simp only [cInt,OpX.up,evB_eq,ik_ite,hF,opU,opF,ho,Op.operands,List.map_cons,List.map_nil,List.getD_cons_zero,List.getD_cons_succ]
 generalize evO C s x=e
 generalize evO C s y=e'
 have hb:∀a b (K:AV→Res),bin (stdAlg C.pure G) C op t a b K=mI k a fun m=>mI k b fun n=>binI (stdAlg C.pure G) op k m n K:=by
  intro a b K
  cases op<;>first | exact absurd rfl h1 | exact absurd rfl h2 | (simp only [bin,hu];rfl)
 cases e with
 | v a=>
  cases e' with
  | v b=>
   simp only [EV.pl,hu,hb]
   cases a<;>first | rfl | (cases b<;>first | rfl | (simp only [mI];split<;>rfl))
  | nil=>simp only [EV.pl,hu];cases a<;>rfl
  | ag cs=>simp only [EV.pl,hu,hb];cases a<;>first | rfl | (simp only [mI];split<;>rfl)
  | un=>simp only [EV.pl,hu,hb];cases a<;>first | rfl | (simp only [mI];split<;>rfl)
  | ub=>simp only [EV.pl,hu,hb];cases a<;>first | rfl | (simp only [mI];split<;>rfl)
  | _=>cases a<;>rfl
 | ag cs=>cases e'<;>first | rfl | (simp only [EV.pl,hu,hb];rfl) | (simp only [EV.pl,hu])
 | un=>cases e'<;>first | rfl | (simp only [EV.pl,hu,hb];rfl) | (simp only [EV.pl,hu])
 | ub=>cases e'<;>first | rfl | (simp only [EV.pl,hu,hb];rfl) | (simp only [EV.pl,hu])
 | _=>cases e'<;>rfl
theorem cCall_eq {o:Oper} {c:Call} {f:FuncId} (ho:o.op = .call c) (hc:c.callee = .value (.func f)) (he:C.eats f=none) (s:St) (K:Upd→Res):(cCall C N G o f (paramTys C.P f) o.op.operands.toList).up s K=opU C N G o s K:=by
 simp only [cCall,OpX.up,opU,opF]
 rw [ho]
 simp only [hc,he]
theorem cOp_eq (o:Oper) (s:St) (K:Upd→Res):(cOp C N G o).up s K=opU C N G o s K:=by
 unfold cOp
 split
 ·rename_i x ho;exact cMove_eq ho s K
 ·rename_i t ho;exact cAssign_eq ho s K
 ·rename_i t x f ho
  split
  ·rename_i off' ft hf
   split
   ·exact cSlow_eq ..
   ·rename_i q hz
    exact cField_eq ho hf (by rw [hz];omega) s K
  ·exact cSlow_eq ..
 ·rename_i x ho;exact cNil_eq ho s K
 ·rename_i t x ho
  split
  ·exact cSlow_eq ..
  ·rename_i hw
   split
   ·rename_i h1 h2;exact cLoadA_eq ho hw h1 h2 s K
   ·rename_i h1 h2 h3;exact cLoad1_eq ho hw h1 h2 h3 s K
   ·exact cLoad_eq ho hw s K
 ·rename_i t x y ho
  split
  ·exact cSlow_eq ..
  ·rename_i hm;exact cStore_eq ho hm s K
 ·rename_i op t x y tt ho
  split
  ·rename_i k hu
   split
   ·exact cInt_eq ho hu (by simp) (by simp) (fun m n K=>by rw [frcI_eq];rfl) s K
   ·exact cInt_eq ho hu (by simp) (by simp) (fun m n K=>by rw [frcI_eq];rfl) s K
   ·exact cInt_eq ho hu (by simp) (by simp) (fun m n K=>by rw [frcV_eq];rfl) s K
   ·exact cInt_eq ho hu (by simp) (by simp) (fun m n K=>by rw [frcV_eq];rfl) s K
   ·exact cInt_eq ho hu (by simp) (by simp) (fun m n K=>by rw [frcV_eq];rfl) s K
   ·exact cInt_eq ho hu (by simp) (by simp) (fun m n K=>by rw [frcV_eq];rfl) s K
   ·exact cInt_eq ho hu (by simp) (by simp) (fun m n K=>by rw [frcV_eq];rfl) s K
   ·exact cInt_eq ho hu (by simp) (by simp) (fun m n K=>by rw [frcV_eq];rfl) s K
   ·exact cInt_eq ho hu (by simp) (by simp) (fun m n K=>by simp only [frcV_eq]) s K
   ·exact cInt_eq ho hu (by simp) (by simp) (fun m n K=>by simp only [frcV_eq]) s K
   ·exact cInt_eq ho hu (by simp) (by simp) (fun m n K=>by simp only [frcV_eq]) s K
   ·exact cInt_eq ho hu (by simp) (by simp) (fun m n K=>by simp only [frcV_eq]) s K
   ·exact cInt_eq ho hu (by simp) (by simp) (fun m n K=>by simp only [frcV_eq]) s K
   ·exact cInt_eq ho hu (by simp) (by simp) (fun m n K=>by simp only [frcV_eq]) s K
   ·exact cSlow_eq ..
  ·exact cSlow_eq ..
 ·rename_i t x ho;exact cNot_eq ho s K
 ·rename_i src dst x ho
  split
  ·rename_i k' k h1 h2;exact cConv_eq ho h1 h2 s K
  ·exact cSlow_eq ..
 ·rename_i x i ho;exact cExtr_eq ho s K
 ·rename_i c ho
  split
  ·rename_i f hc
   split
   ·rename_i he;exact cCall_eq ho hc he s K
   ·exact cSlow_eq ..
  ·exact cSlow_eq ..
 ·exact cSlow_eq ..
theorem cOp_on (o:Oper) (s:St) (K:St→Res):(cOp C N G o).on o.dst s K=op1 (stdAlg C.pure G) C N o s K:=by
 have h:=cOp_eq (C:=C) (N:=N) (G:=G) o s fun u=>K (u.on o.dst s)
 rw [show op1 (stdAlg C.pure G) C N o s K=opU C N G o s fun u=>K (u.on o.dst s) from rfl,←h]
 cases cOp C N G o with
 | val r=>simp only [OpX.on,OpX.up,on_dst]
 | upd r=>rfl
end
end Go.Vm
namespace Go.Vm
open Go
section
variable (C:Cx) (N:Ann) (G:FuncId→FF)
def cOps (all:Array Oper):List Oper→OpB
 | []=>⟨fun s K=>K s⟩
 | o::rest=>match o.guard with
  | none=>⟨fun s K=>(cOp C N G o).on o.dst s fun s'=>(cOps all rest).run s' K⟩
  | some (j,want)=>match (all[j]?).bind (·.dst) with
   | none=>⟨fun _ _ => .stuck⟩
   | some g=>⟨fun s K=>match s.env g with
    | .v (.B b)=>bif b == want then (cOp C N G o).on o.dst s fun s'=>(cOps all rest).run s' K else (cOps all rest).run (s.put o.dst .un) K
    | .un=>(cOps all rest).run (s.put o.dst .un) K
    | _ => .stuck⟩
theorem cOps_eq (all:Array Oper):∀(l:List Oper) (s:St) (K:St→Res),(cOps C N G all l).run s K=aOps (stdAlg C.pure G) C N all l s K
 | [],s,K=>rfl
 | o::rest,s,K=>by
  have ih:=cOps_eq all rest
  unfold cOps aOps
  cases hg:o.guard with
  | none=>simp only [cOp_on,ih]
  | some jw=>
   obtain ⟨j,want⟩:=jw
   simp only
   cases hj:(all[j]?).bind (·.dst) with
   | none=>rfl
   | some g=>
    simp only
    cases he:s.env g with
    | un=>simp only [ih]
    | v a=>
     cases a with
     | B b=>
      have hps:s.put (some g) (.v (.B b))=s:=by
       have:(fun t=>bif Nat.beq t g then EV.v (.B b) else s.env t)=s.env:=by
        funext t
        by_cases ht:t=g
        ·subst ht;simp [he]
        ·have:Nat.beq t g=false:=by
          rw [Bool.eq_false_iff]
          exact fun e'=>ht (Nat.eq_of_beq_eq_true e')
         simp [this]
       simp only [St.put,this]
      simp only [stdAlg,mB]
      cases b with
      | true=>
       simp only [bIte,hps,ih]
       cases want
       ·rfl
       ·simp only [beq_self_eq_true,cond_true,if_true]
        exact cOp_on o s _
      | false=>
       simp only [bIte,hps,ih]
       cases want
       ·simp only [beq_self_eq_true,cond_true,if_true]
        exact cOp_on o s _
       ·rfl
     | _=>rfl
    | _=>rfl
def unord (bef i:Nat):List Nat:=(List.range i).filter fun j => !bef.testBit j
def hasN (i:Nat):List Nat→Bool
 | []=>false
 | j::r=>bif Nat.beq j i then true else hasN i r
theorem hasN_iff (i:Nat):∀l:List Nat,hasN i l=true↔i∈l
 | []=>by simp [hasN]
 | j::r=>by
  simp only [hasN,List.mem_cons]
  cases h:Nat.beq j i with
  | true=>simp [Nat.eq_of_beq_eq_true h]
  | false=>
   have:i≠j:=fun e=>by subst e;simp at h
   simp [this,hasN_iff i r]
def apartQ (all:Array Oper) (un:List Nat) (o:Oper) (ft:Foot) (done:List (Nat×Foot)):Bool:=match un with
 | []=>true
 | _=>done.all fun p=>bif hasN p.1 un then (match all[p.1]? with
  | some x=>x.apart all o&&(p.2.off ft||lkMe x o||ldOK p.2 ft||ldOK ft p.2)
  | none=>false) else true
theorem apartQ_eq (all:Array Oper) (bef i:Nat) (o:Oper) (ft:Foot) (done:List (Nat×Foot)) (hd:∀p∈done,p.1<i):apartQ all (unord bef i) o ft done=apartAll all bef o ft done:=by
 have key:∀l:List (Nat×Foot),(∀p∈l,p.1<i)→(l.all fun p=>bif hasN p.1 (unord bef i) then (match all[p.1]? with
  | some x=>x.apart all o&&(p.2.off ft||lkMe x o||ldOK p.2 ft||ldOK ft p.2)
  | none=>false) else true)=apartAll all bef o ft l:=by
  intro l
  induction l with
  | nil=>intro _;rfl
  | cons p l ih=>
   intro h
   have ih:=ih fun q hq=>h q (List.mem_cons_of_mem _ hq)
   unfold apartAll at ih ⊢
   rw [List.all_cons,List.all_cons,ih]
   congr 1
   have hp:p.1<i:=h p List.mem_cons_self
   cases hb:bef.testBit p.1 with
   | true=>
    have:hasN p.1 (unord bef i)=false:=by
     rw [Bool.eq_false_iff]
     intro hm
     have:=(hasN_iff _ _).1 hm
     simp [unord,hb] at this
    rw [this]
    simp
   | false=>
    have:hasN p.1 (unord bef i)=true:=by
     rw [hasN_iff]
     simp [unord,hb,hp]
    rw [this,cond_true,Bool.false_or]
    rfl
 unfold apartQ
 split
 ·rename_i he
  rw [←key done hd,he]
  simp [hasN]
 ·exact key done hd
def isPan:Op→Bool
 | .panic _=>true
 | _=>false
structure Seen where
 lk:Nat
 ds:Nat
 prev:List (Nat×Nat)
def Seen.add (all:Array Oper) (sn:Seen) (i:Nat) (o:Oper):Seen:=
 ⟨(
  o.looksAt all).foldl (fun m t=>m ||| (1 <<< t)) sn.lk,(match o.dst with
  | some d=>sn.ds ||| (1 <<< d)
  | none=>sn.ds),match o.dst with
  | some d=>(d,i)::sn.prev
  | none=>sn.prev⟩
def statOK (all:Array Oper) (sn:Seen) (bef:Nat) (o:Oper):Bool:=
 (match o.dst with
 | some d => !sn.lk.testBit d && !sn.ds.testBit d
 | none=>true)&&(o.looksAt all).all fun t=>sn.prev.all fun p=>bif Nat.beq p.1 t then bef.testBit p.2 else true
def quietU (u:Upd):Bool:=match u.locs,u.heap,u.dl,u.push with
 | [],none,[],[]=>true
 | _,_,_,_=>false
structure DrB where
 run:List (Nat×Foot)→List (Nat×Foot)→St→(St→Res)→Res
def stepD (all:Array Oper) (sn:Seen) (i bef:Nat) (o:Oper) (next:DrB):DrB:=⟨fun done noisy s K=>bif isPan o.op then .stuck else (cOp C N G o).up s fun u=>match quietU u with
 | true=>chk (match statOK all sn bef o with
   | true=>apartQ all (unord bef i) o (footOf C N o (o.op.operands.toList.map (evO C s)) ((o.op.operands.toList.map (evO C s)).map (loO s)) s.h u) noisy
   | false=>apartQ all (unord bef i) o (footOf C N o (o.op.operands.toList.map (evO C s)) ((o.op.operands.toList.map (evO C s)).map (loO s)) s.h u) done)
   (next.run ((i,footOf C N o (o.op.operands.toList.map (evO C s)) ((o.op.operands.toList.map (evO C s)).map (loO s)) s.h u)::done) noisy (u.on o.dst s) K)
 | false=>chk (apartQ all (unord bef i) o (footOf C N o (o.op.operands.toList.map (evO C s)) ((o.op.operands.toList.map (evO C s)).map (loO s)) s.h u) done)
   (next.run ((i,footOf C N o (o.op.operands.toList.map (evO C s)) ((o.op.operands.toList.map (evO C s)).map (loO s)) s.h u)::done) ((i,footOf C N o (o.op.operands.toList.map (evO C s)) ((o.op.operands.toList.map (evO C s)).map (loO s)) s.h u)::noisy) (u.on o.dst s) K)⟩
def skipD (all:Array Oper) (sn:Seen) (i bef:Nat) (o:Oper) (next:DrB):DrB:=⟨fun done noisy s K=>chk (match statOK all sn bef o with
 | true=>apartQ all (unord bef i) o noFoot noisy
 | false=>apartQ all (unord bef i) o noFoot done) (next.run ((i,noFoot)::done) noisy (s.put o.dst .un) K)⟩
def cOpsD (all:Array Oper) (befs:List Nat):Seen→Nat→List Oper→DrB
 | _,_,[]=>⟨fun _ _ s K=>K s⟩
 | sn,i,o::rest=>match edgesOK i o with
  | true=>(match o.guard with
   | none=>stepD C N G all sn i (befs.getD i 0) o (cOpsD all befs (sn.add all i o) (i+1) rest)
   | some (j,want)=>match (all[j]?).bind (·.dst) with
    | none=>⟨fun _ _ _ _ => .stuck⟩
    | some g=>⟨fun done noisy s K=>match s.env g with
     | .v (.B b)=>bif b == want then (stepD C N G all sn i (befs.getD i 0) o (cOpsD all befs (sn.add all i o) (i+1) rest)).run done noisy s K else (skipD all sn i (befs.getD i 0) o (cOpsD all befs (sn.add all i o) (i+1) rest)).run done noisy s K
     | .un=>(skipD all sn i (befs.getD i 0) o (cOpsD all befs (sn.add all i o) (i+1) rest)).run done noisy s K
     | _ => .stuck⟩)
  | false=>⟨fun _ _ _ _ => .stuck⟩
theorem chk_ite (b:Bool) (r:Res):chk b r=if b=true then r else Res.stuck:=by cases b<;>rfl
theorem put_sameB {s:St} {g:Nat} {b:Bool} (he:s.env g = .v (.B b)):s.put (some g) (.v (.B b))=s:=by
 have:(fun t=>bif Nat.beq t g then EV.v (.B b) else s.env t)=s.env:=by
  funext t
  by_cases ht:t=g
  ·subst ht;simp [he]
  ·have:Nat.beq t g=false:=by
    rw [Bool.eq_false_iff]
    exact fun e'=>ht (Nat.eq_of_beq_eq_true e')
   simp [this]
 simp only [St.put,this]
def SeenOK (all:Array Oper) (sn:Seen) (i:Nat):Prop:=∀j x,j<i→all[j]? = some x→(∀t∈x.looksAt all,sn.lk.testBit t=true)∧∀d,x.dst=some d→sn.ds.testBit d=true∧(d,j)∈sn.prev
theorem fold_lk:∀(l:List Nat) (m t:Nat),(l.foldl (fun m t=>m ||| (1 <<< t)) m).testBit t=true↔m.testBit t=true∨t∈l
 | [],m,t=>by simp
 | x::l,m,t=>by
  rw [List.foldl_cons,fold_lk l]
  have:(m ||| 1 <<< x).testBit t=true↔m.testBit t=true∨x=t:=by
   rw [Nat.testBit_or,Nat.one_shiftLeft,Nat.testBit_two_pow,Bool.or_eq_true,decide_eq_true_iff]
  rw [this,List.mem_cons]
  constructor
  ·rintro ((h | h) | h)
   ·exact .inl h
   ·exact .inr (.inl h.symm)
   ·exact .inr (.inr h)
  ·rintro (h | h | h)
   ·exact .inl (.inl h)
   ·exact .inl (.inr h.symm)
   ·exact .inr h
theorem SeenOK.add {all:Array Oper} {sn:Seen} {i:Nat} (h:SeenOK all sn i) {o:Oper} (ho:all[i]? = some o):SeenOK all (sn.add all i o) (i+1):=by
 intro j x hj hx
 rcases Nat.lt_or_ge j i with hlt | hge
 ·obtain ⟨h1,h2⟩:=h j x hlt hx
  refine ⟨fun t ht=>(fold_lk _ _ _).2 (.inl (h1 t ht)),fun d hd => ?_⟩
  obtain ⟨h3,h4⟩:=h2 d hd
  unfold Seen.add
  cases o.dst with
  | none=>exact ⟨h3,h4⟩
  | some d'=>exact ⟨by simp [Nat.testBit_or,h3],List.mem_cons_of_mem _ h4⟩
 ·have:j=i:=by omega
  subst this
  rw [ho] at hx
  cases hx
  refine ⟨fun t ht=>(fold_lk _ _ _).2 (.inr ht),fun d hd => ?_⟩
  unfold Seen.add
  simp only [hd]
  exact ⟨by rw [Nat.testBit_or,Nat.one_shiftLeft,Nat.testBit_two_pow];simp,List.mem_cons_self⟩
theorem statOK_spec {all:Array Oper} {sn:Seen} {i bef:Nat} {o:Oper} (hs:SeenOK all sn i) (h:statOK all sn bef o=true) {j:Nat} (hj:j<i) (hb:bef.testBit j=false) {x:Oper} (hx:all[j]? = some x):x.apart all o=true:=by
 obtain ⟨h1,h2⟩:=hs j x hj hx
 unfold statOK at h
 rw [Bool.and_eq_true,List.all_eq_true] at h
 obtain ⟨ha,hl⟩:=h
 have hno:∀d,x.dst=some d→d ∉ o.looksAt all:=by
  intro d hd hm
  have h3:=List.all_eq_true.1 (hl d hm) _ (h2 d hd).2
  simp only [Nat.beq_refl,cond_true] at h3
  rw [hb] at h3
  cases h3
 unfold Oper.apart
 cases hxd:x.dst with
 | none=>
  cases hod:o.dst with
  | none=>simp
  | some d=>
   rw [hod] at ha
   simp only [Bool.and_eq_true,Bool.not_eq_true'] at ha
   have:d ∉ x.looksAt all:=fun hm=>by rw [h1 d hm] at ha;cases ha.1
   simp [this]
 | some e=>
  have h5:=hno e hxd
  cases hod:o.dst with
  | none=>simp [h5]
  | some d=>
   rw [hod] at ha
   simp only [Bool.and_eq_true,Bool.not_eq_true'] at ha
   have h6:d ∉ x.looksAt all:=fun hm=>by rw [h1 d hm] at ha;cases ha.1
   have h7:e≠d:=fun e2=>by
    subst e2
    rw [(h2 e hxd).1] at ha
    cases ha.2
   have h8:d≠e:=fun e2=>h7 e2.symm
   simp [h5,h6,h7,h8]
def quietF (ft:Foot):Prop:=ft.wr=[]∧ft.hw = .no
theorem quiet_off {x y:Foot} (hx:quietF x) (hy:quietF y):x.off y=true:=by
 unfold Foot.off
 rw [hx.1,hx.2,hy.1,hy.2]
 rfl
theorem quietU_foot {u:Upd} (h:quietU u=true) {o:Oper} {ins:List EV} {los:List LOv} {hp:List HO} : quietF (footOf C N o ins los hp u):=by
 unfold quietU at h
 split at h
 ·rename_i h1 h2 h3 h4
  refine ⟨by unfold footOf;simp [h1],?_⟩
  show u.hs = .no
  unfold Upd.hs
  rw [h2,h3,h4]
 ·cases h
inductive Sub:List (Nat×Foot)→List (Nat×Foot)→Prop
 | nil:Sub [] []
 | both (p:Nat×Foot) {a b:List (Nat×Foot)} : Sub a b→Sub (p::a) (p::b)
 | less (p:Nat×Foot) {a b:List (Nat×Foot)} : quietF p.2→Sub a b→Sub a (p::b)
theorem Sub.mem {a b:List (Nat×Foot)} (h:Sub a b):∀p∈a,p∈b:=by
 induction h with
 | nil=>intro p hp;cases hp
 | both q _ ih=>
  intro p hp
  rcases List.mem_cons.1 hp with rfl | hp
  ·exact List.mem_cons_self
  ·exact List.mem_cons_of_mem _ (ih p hp)
 | less q _ _ ih=>intro p hp;exact List.mem_cons_of_mem _ (ih p hp)
theorem apart_noisy {all:Array Oper} {sn:Seen} {i bef:Nat} {o:Oper} (hs:SeenOK all sn i) (hst:statOK all sn bef o=true) {ft:Foot} (hq:quietF ft) {noisy done:List (Nat×Foot)} (hsub:Sub noisy done) (hd:∀p∈done,p.1<i) (hall:∀j,j<i→∃x,all[j]? = some x) :
  apartAll all bef o ft noisy=apartAll all bef o ft done:=by
 induction hsub with
 | nil=>rfl
 | both p _ ih=>
  have ih:=ih fun q hq=>hd q (List.mem_cons_of_mem _ hq)
  unfold apartAll at ih ⊢
  rw [List.all_cons,List.all_cons,ih]
 | less p hp _ ih=>
  have ih:=ih fun q hq=>hd q (List.mem_cons_of_mem _ hq)
  unfold apartAll at ih ⊢
  rw [List.all_cons,ih]
  have hpi:=hd p List.mem_cons_self
  obtain ⟨x,hx⟩:=hall p.1 hpi
  cases hb:bef.testBit p.1 with
  | true=>simp
  | false=>
   have:=statOK_spec hs hst hpi hb hx
   simp [hx,this,quiet_off hp hq]
theorem cOpsD_eq (all:Array Oper) (befs:List Nat):∀(l:List Oper) (sn:Seen) (i:Nat) (done noisy:List (Nat×Foot)) (s:St) (K:St→Res),all.toList.drop i=l→SeenOK all sn i→Sub noisy done→(∀p∈done,p.1<i)→(cOpsD C N G all befs sn i l).run done noisy s K=aOpsD (stdAlg C.pure G) C N all befs i l done s K
 | [],sn,i,done,noisy,s,K,_,_,_,_=>rfl
 | o::rest,sn,i,done,noisy,s,K,hl,hs,hsub,hd=>by
  have hi:i<all.size:=by
   rw [←Array.length_toList]
   rcases Nat.lt_or_ge i all.toList.length with h | h
   ·exact h
   ·rw [List.drop_eq_nil_iff.2 h] at hl;cases hl
  have ho:all[i]? = some o:=by
   rw [List.drop_eq_getElem_cons (by simpa using hi)] at hl
   simp only [List.cons.injEq] at hl
   rw [Array.getElem?_eq_getElem hi]
   simpa using hl.1
  have hl':all.toList.drop (i+1)=rest:=by
   rw [List.drop_eq_getElem_cons (by simpa using hi)] at hl
   simp only [List.cons.injEq] at hl
   exact hl.2
  have hs':=hs.add ho
  have hall:∀j,j<i→∃x,all[j]? = some x:=fun j hj=>⟨_,Array.getElem?_eq_getElem (by omega)⟩
  have hdn:∀p∈noisy,p.1<i:=fun p hp=>hd p (hsub.mem p hp)
  have ih:∀(ft:Foot) (noisy':List (Nat×Foot)) (s:St),Sub noisy' ((i,ft)::done)→(cOpsD C N G all befs (sn.add all i o) (i+1) rest).run ((i,ft)::done) noisy' s K=aOpsD (stdAlg C.pure G) C N all befs (i+1) rest ((i,ft)::done) s K:=fun ft noisy' s hsb=>
   cOpsD_eq all befs rest _ (i+1) _ _ s K hl' hs' hsb fun p hp=>by
    rcases List.mem_cons.1 hp with rfl | hp
    ·exact Nat.lt_succ_self _
    ·exact Nat.lt_succ_of_lt (hd p hp)
  have hap:∀ft,apartQ all (unord (befs.getD i 0) i) o ft done=apartAll all (befs.getD i 0) o ft done:=fun ft=>apartQ_eq all _ i o ft done hd
  have hapn:∀ft,quietF ft→(match statOK all sn (befs.getD i 0) o with
    | true=>apartQ all (unord (befs.getD i 0) i) o ft noisy
    | false=>apartQ all (unord (befs.getD i 0) i) o ft done)=apartAll all (befs.getD i 0) o ft done:=by
   intro ft hq
   cases hst:statOK all sn (befs.getD i 0) o with
   | true=>
    simp only
    rw [apartQ_eq all _ i o ft noisy hdn]
    exact apart_noisy hs hst hq hsub hd hall
   | false=>exact hap ft
  have hq0:quietF noFoot:=⟨rfl,rfl⟩
  have skip:∀s:St,(skipD all sn i (befs.getD i 0) o (cOpsD C N G all befs (sn.add all i o) (i+1) rest)).run done noisy s K=if apartAll all (befs.getD i 0) o noFoot done then aOpsD (stdAlg C.pure G) C N all befs (i+1) rest ((i,noFoot)::done) (s.put o.dst .un) K else Res.stuck:=by
   intro s
   unfold skipD
   simp only
   rw [chk_ite,hapn _ hq0,ih noFoot noisy (s.put o.dst .un) (.less (i,noFoot) hq0 hsub)]
  have run:∀s:St,(stepD C N G all sn i (befs.getD i 0) o (cOpsD C N G all befs (sn.add all i o) (i+1) rest)).run done noisy s K =
    (match o.op with
    | .panic _=>Res.stuck
    | _=>opF (stdAlg C.pure G) C N o (o.op.operands.toList.map (evO C s)) ((o.op.operands.toList.map (evO C s)).map (loO s)) (s.loc (o.dst.getD 0)) s.h s.hv fun u=>
     if apartAll all (befs.getD i 0) o (footOf C N o (o.op.operands.toList.map (evO C s)) ((o.op.operands.toList.map (evO C s)).map (loO s)) s.h u) done then aOpsD (stdAlg C.pure G) C N all befs (i+1) rest ((i,footOf C N o (o.op.operands.toList.map (evO C s)) ((o.op.operands.toList.map (evO C s)).map (loO s)) s.h u)::done) (u.on o.dst s) K else Res.stuck):=by
   intro s
   have hm:∀X:Res,(bif isPan o.op then Res.stuck else X)=(match o.op with
    | .panic _=>Res.stuck
    | _=>X):=by
    intro X
    cases o.op<;>rfl
   rw [←hm]
   unfold stepD
   simp only
   rw [cOp_eq]
   congr 1
   unfold opU
   simp only
   congr 1
   funext u
   cases hqu:quietU u with
   | true=>
    have hq:=quietU_foot (C:=C) (N:=N) hqu (o:=o) (ins:=o.op.operands.toList.map (evO C s)) (los:=(o.op.operands.toList.map (evO C s)).map (loO s)) (hp:=s.h)
    simp only
    rw [chk_ite,hapn _ hq,ih (footOf C N o (o.op.operands.toList.map (evO C s)) ((o.op.operands.toList.map (evO C s)).map (loO s)) s.h u) noisy _ (.less (i,_) hq hsub)]
   | false=>
    simp only
    rw [chk_ite,hap,ih _ _ _ (.both _ hsub)]
  unfold cOpsD aOpsD
  cases hE:edgesOK i o with
  | false=>simp only [Bool.false_eq_true,if_false];rfl
  | true=>
   simp only [if_true]
   cases hg:o.guard with
   | none=>exact run s
   | some jw=>
    obtain ⟨j,want⟩:=jw
    simp only
    cases hj:(all[j]?).bind (·.dst) with
    | none=>rfl
    | some g=>
     simp only
     cases he:s.env g with
     | un=>exact skip s
     | v a=>
      cases a with
      | B b=>
       simp only [stdAlg,mB]
       cases b<;>cases want<;>simp only [bIte,put_sameB he,if_true,if_false,Bool.false_eq_true,Bool.true_eq_false,beq_self_eq_true,cond_true]<;>first | exact run s | exact skip s
      | _=>rfl
     | _=>rfl
end
end Go.Vm
namespace Go.Vm
open Go
section
variable {C:Cx}
theorem Sound.by {f:FuncId} {S:FF} (he:C.eats f=none) (h:∀as hp,S as hp ≠ .stuck→∃S',Sound C f S'∧S as hp=S' as hp):Sound C f S:=by
 unfold Sound
 split
 ·rename_i hp
  refine ⟨fun g w as vals R hr hR => ?_,fun e h=>by rw [he] at h;cases h⟩
  obtain ⟨S',hs,heq⟩:=h as [] (by rw [hr];exact hR)
  unfold Sound at hs
  rw [if_pos hp] at hs
  exact hs.1 g w as vals R (heq.symm.trans hr) hR
 ·rename_i hp
  intro g w as vals hh R hr hR
  obtain ⟨S',hs,heq⟩:=h as hh (by rw [hr];exact hR)
  unfold Sound at hs
  rw [if_neg hp] at hs
  exact hs g w as vals hh R (heq.symm.trans hr) hR
def orE (a b:FF):FF:=fun as h=>match a as h with
 | .stuck=>b as h
 | r=>r
theorem sound_orE {f:FuncId} {a b:FF} (he:C.eats f=none) (ha:Sound C f a) (hb:Sound C f b):Sound C f (orE a b):=by
 refine Sound.by he fun as hp _ => ?_
 unfold orE
 cases e:a as hp with
 | stuck=>exact ⟨b,hb,rfl⟩
 | _=>exact ⟨a,ha,e.symm⟩
theorem sound_memos {f:FuncId} (he:C.eats f=none):∀(l:List (List AV×List HO×Res)),(∀p∈l,∃S,Sound C f S∧S p.1 p.2.1=p.2.2)→Sound C f (memo l)
 | [],_=>(sound_stuck f).less fun _ _ => .inl rfl
 | (a,h,r)::l,hl=>by
  refine Sound.by he fun as hp hn => ?_
  simp only [memo] at hn ⊢
  cases e:eqVs as a&&eqHOs hp h with
  | true=>
   rw [Bool.and_eq_true] at e
   obtain ⟨S,hs,heq⟩:=hl (a,h,r) List.mem_cons_self
   refine ⟨S,hs,?_⟩
   rw [eqVs_eq _ _ e.1,eqHOs_eq _ _ e.2]
   exact heq.symm
  | false=>exact ⟨memo l,sound_memos he l fun p hp=>hl p (List.mem_cons_of_mem _ hp),rfl⟩
abbrev ML:=List (Nat×List AV×List HO×Res)
def memK (k:Nat):ML→FF
 | [],_,_ => .stuck
 | (i,a,h,r)::l,as,hp=>bif Nat.beq i k&&(eqHOs hp h&&eqVs as a) then r else memK k l as hp
theorem sound_memK {k:FuncId} (he:C.eats k=none):∀(l:ML),(∀p∈l,p.1=k→∃S,Sound C k S∧S p.2.1 p.2.2.1=p.2.2.2)→Sound C k (memK k l)
 | [],_=>(sound_stuck k).less fun _ _ => .inl rfl
 | (i,a,h,r)::l,hl=>by
  refine Sound.by he fun as hp hn => ?_
  simp only [memK] at hn ⊢
  cases e:Nat.beq i k&&(eqHOs hp h&&eqVs as a) with
  | true=>
   rw [Bool.and_eq_true,Bool.and_eq_true] at e
   obtain ⟨S,hs,heq⟩:=hl (i,a,h,r) List.mem_cons_self (Nat.eq_of_beq_eq_true e.1)
   refine ⟨S,hs,?_⟩
   rw [eqVs_eq _ _ e.2.2,eqHOs_eq _ _ e.2.1]
   exact heq.symm
  | false=>exact ⟨memK k l,sound_memK he l fun p hp=>hl p (List.mem_cons_of_mem _ hp),rfl⟩
def memOff (eats:FuncId→Option TypeId) (l:ML):Bool:=l.all fun p=>(eats p.1).isNone
def hasK (k:Nat) (l:ML):Bool:=l.any fun p=>Nat.beq p.1 k
noncomputable def GGm (tab:List (Nat×((FuncId→FF)→FF))) (l:ML):Nat→FuncId→FF
 | 0,_=>fun _ _ => .stuck
 | n+1,k=>bif hasK k l then orE (memK k l) (lkF k tab (GGm tab l n)) else lkF k tab (GGm tab l n)
theorem GGm_sound {tab:List (Nat×((FuncId→FF)→FF))} (htab:∀{G:FuncId→FF},(∀j,Sound C j (G j))→∀k,Sound C k (lkF k tab G)) {l:ML} (hoff:memOff C.eats l=true) (hl:∀p∈l,∃S,Sound C p.1 S∧S p.2.1 p.2.2.1=p.2.2.2) :
  ∀n k,Sound C k (GGm tab l n k)
 | 0,k=>sound_stuck k
 | n+1,k=>by
  have ih:=GGm_sound htab hoff hl n
  unfold GGm
  cases hk:hasK k l with
  | false=>exact htab ih k
  | true=>
   have he:C.eats k=none:=by
    unfold hasK at hk
    obtain ⟨p,hp,hpk⟩:=List.any_eq_true.1 hk
    have:=List.all_eq_true.1 hoff p hp
    rw [Nat.eq_of_beq_eq_true hpk] at this
    simpa using this
   exact sound_orE he (sound_memK he l fun p hp e=>by
    obtain ⟨S,h1,h2⟩:=hl p hp
    rw [e] at h1
    exact ⟨S,h1,h2⟩) (htab ih k)
end
end Go.Vm
namespace Go.Vm
open Go
section
variable {C:Cx} {N:Ann} {G:FuncId→List AV→List HO→Res}
def semDc (C:Cx) (N:Ann) (fn:Func) (A D:Code) (om:Oper) (idr td:Nat) (fd:FuncId) (ops:Array Oper) (S:FF) (G:FuncId→FF):FF:=fun as h=>
 let Rk:=resK (stdAlg C.pure G) C N fn
 aC C N (stdAlg C.pure (noPan G)) (stdAlg C.pure G) A
  (fun s=>aOps (stdAlg C.pure G) C N ops [om]
   (nrm N (some idr) s) (fun s=>match s.env td with
    | .v (.F (.func f) [] caps)=>(match Nat.beq f fd with
     | true=>(match aC C N (stdAlg C.pure (noPan G)) (stdAlg C.pure G) D Rk (fun _ _ => .stuck) Rk (nrm N (headId D) s) with
      | .ret v h'=>(match S caps h' with
       | .ret _ h'' => .ret v h''
       | _ => .stuck)
      | _ => .stuck)
     | false => .stuck)
    | _ => .stuck))
  (fun _ _ => .stuck) (fun _ => .stuck) (initSt as h)
def SoundD (C:Cx) (f:FuncId) (S:FF):Prop:=∀(g:Gh) (w:World) (as:List AV) (vals:List Value) (h:List HO) (v:AV) (h2:List HO),S as h = .ret v h2→HeapR g w h→VT g w as vals→Wf g w→GlobR C g w→(∀b o,g.ow b=some o→o.heap) →
 Callable C.P f∧∀u:FrameMode,CallsD C.P f vals.toArray u w fun e u' w'=>u'=u∧Post g w (.ret v h2) e w'
theorem soundD_fn (hC:OkC C) (hG:∀j,Sound C j (G j)) {f:FuncId} {fn:Func} {c:Code} (hf:C.P.funcs[f]? = some fn) (hb:fn.body=some c) (hname:fn.name ≠ "runtime.NumGoroutine") (hok:codeOK (NT.of fn.ntmps) c=true)
  (hlen:fn.results.size=fn.resultTypes.size) (hdrop:N.drop=false) (heat:N.eat=none) (hfresh:N.fresh=none):SoundD C f (semF C N fn G):=by
 have hcall:Callable C.P f:=⟨fn,hf,by rw [hb];rfl,hname⟩
 intro g w as vals h v0 h2 hr hh hv hwf hgl how
 have hR:Res.ret v0 h2 ≠ .stuck:=by simp
 refine ⟨hcall,fun u=>callsD_of_wp (R:=Post g w (.ret v0 h2)) hf hb ?_⟩
 have hrel:=init_rel (C:=C) (n:=fn.ntmps) (b:=false) hh hv hwf hgl
 have body:aC C N (stdAlg C.pure (noPan G)) (stdAlg C.pure G) c (resK (stdAlg C.pure G) C N fn) (fun _ _=>Res.stuck) (resK (stdAlg C.pure G) C N fn) (initSt as h) = .ret v0 h2:=by
  unfold semF aF at hr
  rw [hb,heat] at hr
  exact hr
 have fin:∀g' w' f' s' a',Rel C (NT.of fn.ntmps) g.fr0 w g' w' f' s' a'→resK (stdAlg C.pure G) C N fn s' = .ret v0 h2→a'.defers=[]∧∃v,(results fn a'.tmps).run C.P w' = .ok v w'∧Post g w (.ret v0 h2) (.returned v) w':=by
  intro g' w' f' s' a' r h
  refine ⟨r.dfr,?_⟩
  obtain ⟨v,u,g2,k1,k2,k3,k4,k5,k6⟩:=end_plain hR hfresh hlen r h
  rw [hdrop] at k6
  exact ⟨u,k1,v,_,g2,k6,fr0_chg k2,k3,k4,k5⟩
 refine aC_sound hC hR hG c hok (.inl rfl) (fun g' w' f' s' a' r h=>fin g' w' f' s' a' r h) (fun id g' w' f' s' a' r h=>by cases h) (fun g' w' f' s' a' r h=>fin g' w' f' s' a' r h) ?_ g w _ _ _ hrel body
 intro a ha v h' u g' w' hRv hch hhe hvv hwf'
 cases hRv
theorem mask_heapR {g:Gh} {w:World} {h:List HO} (hh:HeapR g w h):HeapR g.mask w h:=hh.reown rfl rfl rfl fun b ow how hb=>mask_heap.2 ⟨hb,how⟩
theorem sound_deferC (hC:OkC C) (hG:∀j,Sound C j (G j)) {f fd:FuncId} {fn:Func} {A D:Code} {idr td:Nat} {om od:Oper} {cd:Call} {S:FF} (hD:SoundD C fd S) (hf:C.P.funcs[f]? = some fn) (hb:fn.body=some (.seq A (.seq (.region idr #[om,od] false) D))) (hname:fn.name ≠ "runtime.NumGoroutine")
  (hokA:codeOK (NT.of fn.ntmps) A=true) (hokR:dstOK (NT.of fn.ntmps) #[om,od]=true) (hokD:codeOK (NT.of fn.ntmps) D=true) (hlen:fn.results.size=fn.resultTypes.size) (hdrop:N.drop=false) (hfresh:N.fresh=none) (hp:C.pure f=false)
  (hod:od.op = .defer cd) (hcd:cd.callee = .value (.tmp td)) (hca:cd.args = #[]) (hgd:od.guard=none) (hdst:od.dst=none) (hres:fn.results = #[]):Sound C f (semDc C N fn A D om idr td fd #[om,od] S G):=by
 have hcall:Callable C.P f:=⟨fn,hf,by rw [hb];rfl,hname⟩
 unfold Sound
 rw [if_neg (by simp [hp])]
 intro g w as vals h R hr hR hh hv hwf hgl how
 refine ⟨hcall,calls_of_wp_defers hf hb ?_⟩
 have hrel:=init_rel (C:=C) (n:=fn.ntmps) (b:=false) hh hv hwf hgl
 unfold semDc at hr
 dsimp only at hr
 have key:∀s:St,(match s.env td with
    | .v (.F (.func f) [] caps)=>(match Nat.beq f fd with
     | true=>(match aC C N (stdAlg C.pure (noPan G)) (stdAlg C.pure G) D (resK (stdAlg C.pure G) C N fn) (fun _ _ => .stuck) (resK (stdAlg C.pure G) C N fn) (nrm N (headId D) s) with
      | .ret v h'=>(match S caps h' with
       | .ret _ h'' => .ret v h''
       | _ => .stuck)
      | _ => .stuck)
     | false => .stuck)
    | _=>Res.stuck)=R→∃caps v h' v2 h'',s.env td = .v (.F (.func fd) [] caps)∧aC C N (stdAlg C.pure (noPan G)) (stdAlg C.pure G) D (resK (stdAlg C.pure G) C N fn) (fun _ _ => .stuck) (resK (stdAlg C.pure G) C N fn) (nrm N (headId D) s) = .ret v h'∧S caps h' = .ret v2 h''∧R = .ret v h'':=by
  intro s hk
  split at hk
  case h_2=>exact absurd hk.symm hR
  rename_i f' caps he
  split at hk
  case h_2=>exact absurd hk.symm hR
  rename_i hfe
  split at hk
  case h_2=>exact absurd hk.symm hR
  rename_i v h' hb1
  split at hk
  case h_2=>exact absurd hk.symm hR
  rename_i v2 h'' hg2
  rw [Nat.eq_of_beq_eq_true hfe] at he
  exact ⟨caps,v,h',v2,h'',he,hb1,hg2,hk.symm⟩
 have panAll:∀(g0:Gh),(∀v h,R ≠ .pan v h)→PanAll (NT.of fn.ntmps) g0 w (bodyPostD C.P fn (Post g w R)) R:=by
  intro g0 hnp a ha v h' u g' w' hRv
  exact absurd hRv (hnp v h')
 have pan1:PanAll (NT.of fn.ntmps) g.fr0 w (bodyPostD C.P fn (Post g w R)) R:=by
  intro a ha v h' u g' w' hRv hch hhe hvv hwf'
  have ha':a.defers=[]:=ha
  show Leaves C.P fn a.tmps (Post g w R) a.defers _ w'
  rw [ha']
  exact ⟨v,h',u,g',hRv,rfl,fr0_chg hch,hhe,hvv,hwf'⟩
 refine wp_seq (aC_sound (g0:=g.fr0) (w0:=w) hC hR hG A hokA (.inl rfl) (Q:=Exit.then ((Code.seq (Code.region idr #[om,od] false) D).wp C.P (bodyPostD C.P fn (Post g w R))) (bodyPostD C.P fn (Post g w R))) ?_ (fun id g' w' f' s' a' r h=>absurd h.symm hR) (fun g' w' f' s' a' r h=>absurd h.symm hR) pan1.then g w _ _ _ hrel hr)
 intro g1 w1 f1 s1 a1 r1 h1
 obtain ⟨g1',r1'⟩:=r1.nrm (some idr)
 refine wp_seq (wpIn_wide.1 ((wpIn_region ?_:Code.wpIn (FR none) 0 C.P (.region idr #[om,od] false) _ a1 w1)))
 refine aOps_pre (ro:=none) (n:=0) (g0:=g.fr0) (w0:=w) (all := #[om,od]) hC hR hG hokR pan1.then [od] [om] 0 rfl (fun g2 w2 f2 s2 a2 r2 h2 => ?_) g1' w1 f1 _ a1 r1' h1
 obtain ⟨caps,v,h',v2,h'',he,hbD,hgd2,rfl⟩:=key s2 h2
 show wpOpsIn (FR none) 0 C.P #[om,od] _ [1] a2 w2
 have hve:=r2.env td
 rw [he] at hve
 have hve:V g2 w2 (.F (.func fd) [] caps) (a2.tmps.getD td undef):=hve
 obtain ⟨vf,vc,hg,hvf,hvc⟩:=V_F' hve
 simp only [VT] at hvf
 subst hvf
 have hev:a2.eval (.tmp td) = .func (.func fd) #[] vc.toArray:=by
  rw [show a2.eval (.tmp td)=a2.tmps.getD td undef by simp [Act.eval,Array.getD_eq_getD_getElem?]]
  exact hg
 have hx:(execOp a2.eval od).run C.P w2 = .ok (.defer { target := .fn (.func fd) vc.toArray,args := #[] }) w2:=by
  simp [execOp,hod,resolve,hcd,hca,hev,Deferred.ofValue]
 have r3:Rel C (NT.of fn.ntmps) { g with df:=[{ target := .fn (.func fd) vc.toArray,args := #[] }] } w g2 w2 f2 s2 { a2 with defers := { target := .fn (.func fd) vc.toArray,args := #[] } :: a2.defers } := by
  have e:=r2.ext
  refine ⟨⟨⟨e.later.n,e.later.ix,e.later.st,e.later.cell,e.later.nf⟩,e.size,e.blk,e.ow,e.st,e.os,e.tape,e.out⟩,r2.core,r2.env,r2.glob,?_,r2.sz,r2.fixed⟩
  show _::a2.defers=_
  rw [show a2.defers=[] from r2.dfr]
 obtain ⟨g3,r3b⟩:=(r3.base rfl).nrm (N:=N) (headId D)
 have hvc3:VT g3 w2 caps vc:=VT.later r3b.since.later _ _ hvc
 have r3':=Rel.unbase r3.ext rfl r3b
 have rb:=r3'.base rfl
 have fin1:∀g' w' f' s' a',Rel C (NT.of fn.ntmps) { g3 with df:=[{ target := .fn (.func fd) vc.toArray,args := #[] }] } w2 g' w' f' s' a'→resK (stdAlg C.pure G) C N fn s' = .ret v h'→Leaves C.P fn a'.tmps (Post g w (.ret v h'')) a'.defers .returning w':=by
  intro g' w' f' s' a' r h
  have hdf:a'.defers=[{ target := .fn (.func fd) vc.toArray,args := #[] }]:=r.dfr
  rw [hdf]
  obtain ⟨v',u,g4,k1,k2,k3,k4,k5,k6⟩:=end_plain (by simp) hfresh hlen r h
  rw [hdrop] at k6
  simp only [if_false,Bool.false_eq_true,Res.ret.injEq] at k6
  obtain ⟨rfl,rfl⟩:=k6
  have k2':Chg (fun b=>g3.ow b≠none) g3 w2 g4 w':=⟨⟨k2.later.n,k2.later.ix,k2.later.st,k2.later.cell,k2.later.nf⟩,k2.size,k2.blk,k2.ow,k2.st,k2.os,k2.tape,k2.out⟩
  have e3:=r3'.ext
  have e3':Chg (fun b=>g.ow b≠none) g w g3 w2:=⟨⟨e3.later.n,e3.later.ix,e3.later.st,e3.later.cell,e3.later.nf⟩,e3.size,e3.blk,e3.ow,e3.st,e3.os,e3.tape,e3.out⟩
  have hch4:Chg (fun b=>g.ow b≠none) g w g4 w':=e3'.trans k2' fun b hb hB hn=>hB ((e3'.ow b hb (fun x=>x hn)).trans hn)
  have hmn:∀b,g4.ow b=none→g4.mask.ow b=none:=fun b hb=>by simp [Gh.mask,hb]
  have hch4m:Chg (fun b=>g.ow b≠none) g w g4.mask w':=⟨⟨hch4.later.n,hch4.later.ix,hch4.later.st,hch4.later.cell,hch4.later.nf⟩,hch4.size,hch4.blk,fun b hb hn=>by
   have h0:g.ow b=none:=Classical.not_not.1 hn
   have:=hch4.ow b hb hn
   rw [h0] at this ⊢
   exact hmn b this,hch4.st,hch4.os,hch4.tape,hch4.out⟩
  have hlm:Later g4 w' g4.mask w':=Later.sameV w' rfl rfl rfl
  have hvc4:VT g4.mask w' caps vc:=VT.later hlm _ _ (VT.later k2'.later _ _ hvc3)
  have hgl4:GlobR C g4.mask w':=fun gi cs hg=>GV.later hch4m.later gi cs (hgl gi cs hg)
  obtain ⟨hcd2,hcD⟩:=hD g4.mask w' caps vc _ _ _ hgd2 (mask_heapR k3) hvc4 k5 hgl4 (fun b ow hb=>(mask_heap.1 hb).2)
  have hinv:(invoke (.fn (.func fd) vc.toArray) #[]).run C.P w' = .ok (.enter fd vc.toArray) w':=by
   have:=hcd2.run vc.toArray w'
   simpa [invoke] using this
  refine leaves_cons (f:=fd) (args:=vc.toArray) (by simp) hinv ((hcD .returning).mono fun e u' w4 hq => ?_)
  obtain ⟨rfl,hpost⟩:=hq
  cases e with
  | outgrown=>exact hpost.elim
  | panicked chain=>obtain ⟨_,_,_,_,e1,_⟩:=hpost;cases e1
  | returned u2=>
   obtain ⟨v3,h3,g5,e1,hch5,hheap5,_,hwf5⟩:=hpost
   cases e1
   have hu:u = .tuple #[]:=by
    have:=k1
    rw [results_eq,hres] at this
    simp at this
    exact this.symm
   have hl5:Later g4 w' g5 w4:=⟨hch5.later.n,hch5.later.ix,hch5.later.st,hch5.later.cell,hch5.later.nf⟩
   refine ⟨u,?_,v,_,g5,rfl,hch4m.trans hch5 fun b hb hB hn=>hB ?_,hheap5,V.later hl5 _ _ k4,hwf5⟩
   ·rw [hu,results_eq,hres]
    simp
   ·have h0:g.ow b=none:=hn
    exact hmn b ((hch4.ow b hb (fun x=>x h0)).trans h0)
 have hDw:D.wp C.P (bodyPostD C.P fn (Post g w (.ret v h''))) { a2 with defers := { target := .fn (.func fd) vc.toArray,args := #[] } :: a2.defers } w2:=
  aC_sound (w0:=w2) hC (by simp) hG D hokD (.inl rfl) (Q:=bodyPostD C.P fn (Post g w (.ret v h''))) (fun g' w' f' s' a' r h=>fin1 _ _ _ _ _ r h) (fun id g' w' f' s' a' r h=>by cases h) (fun g' w' f' s' a' r h=>fin1 _ _ _ _ _ r h) (fun a ha v h' u g' w' hRv=>by cases hRv) g3 w2 _ _ _ rb hbD
 simp only [wpOpsIn,List.getElem?_toArray,List.getElem?_cons_succ,List.getElem?_cons_zero]
 rw [if_pos (by simp [Region.wanted,hgd])]
 refine ⟨fun _ _=>trivial,?_⟩
 show od.uponIn (FR none) 0 C.P a2 _ _ ((od.semAt none a2.eval).run C.P w2)
 rw [Oper.semAt_none,hx,Oper.uponIn_defer,hdst]
 exact hDw
end
end Go.Vm
namespace Go.Vm
open Go
section
variable (C:Cx) (N:Ann)
def frcL (sites:List Nat) (s:St):List Nat→(List (Nat×EV)→Res)→Res
 | [],K=>K []
 | t::ts,K=>frcE (match N.asV t||offS sites (s.env t) with
  | true=>fixEV s sites (toV N s (s.env t))
  | false=>fixEV s sites (s.env t)) fun e=>frcL sites s ts fun l=>K ((t,e)::l)
theorem frcL_eq (sites:List Nat) (s:St):∀(l:List Nat) (K:List (Nat×EV)→Res),frcL N sites s l K=K (l.map fun t=>(t,if (N.asV t||offS sites (s.env t))=true then fixEV s sites (toV N s (s.env t)) else fixEV s sites (s.env t)))
 | [],K=>rfl
 | t::ts,K=>by
  simp only [frcL,frcE_eq,frcL_eq sites s ts,List.map_cons]
  cases N.asV t||offS sites (s.env t)<;>rfl
def frcLO (l:LOv) (K:LOv→Res):Res:=match l with
 | ⟨v, .no⟩=>frcN v fun v=>K ⟨v, .no⟩
 | ⟨v, .box m cs⟩=>frcN v fun v=>frcN m fun m=>K ⟨v, .box m cs⟩
 | ⟨v, .arr (.e t n xs) ex⟩=>frcN v fun v=>K ⟨v, .arr (.e t n xs) ex⟩
 | ⟨v, .arr (.y t xs) ex⟩=>frcN v fun v=>K ⟨v, .arr (.y t xs) ex⟩
theorem frcLO_eq (l:LOv) (K:LOv→Res):frcLO l K=K l:=by
 obtain ⟨v,lo⟩:=l
 cases lo with
 | no=>exact frcN_eq v fun v=>K ⟨v, .no⟩
 | box m cs=>simp only [frcLO,frcN_eq]
 | arr c ex=>cases c<;>simp only [frcLO,frcN_eq]
def frcS (s:St):List Nat→(List (Nat×LOv)→Res)→Res
 | [],K=>K []
 | k::ks,K=>frcLO (fixLO N k (s.loc k)) fun e=>frcS s ks fun l=>K ((k,e)::l)
theorem frcS_eq (s:St):∀(l:List Nat) (K:List (Nat×LOv)→Res),frcS N s l K=K (l.map fun k=>(k,fixLO N k (s.loc k)))
 | [],K=>rfl
 | k::ks,K=>by simp only [frcS,frcLO_eq,frcS_eq s ks,List.map_cons]
structure NrB where
 run:St→(St→Res)→Res
def cNrm (r:Option Nat):NrB:=match r.bind N.live with
 | some (live,sites)=>⟨fun s K=>frcL N sites s live fun l=>frcS N s sites fun ls=>K (mkSt l ls s.h)⟩
 | none=>⟨fun s K=>K s⟩
theorem cNrm_eq (r:Option Nat) (s:St) (K:St→Res):(cNrm N r).run s K=K (nrm N r s):=by
 unfold cNrm nrm
 cases r.bind N.live with
 | none=>rfl
 | some p=>
  obtain ⟨live,sites⟩:=p
  simp only [frcL_eq,frcS_eq]
def cC (Gn:FuncId→FF):(FuncId→FF)→Code→CdB
 | _, .skip=>⟨fun kn _ _ s=>kn s⟩
 | G, .region _ ops dr=>(match dr with
  | true=>⟨fun kn _ _ s=>(cOpsD C N Gn ops (befores ops.toList []) ⟨0,0,[]⟩ 0 ops.toList).run [] [] s kn⟩
  | false=>⟨fun kn _ _ s=>(cOps C N G ops ops.toList).run s kn⟩)
 | G, .seq a b=>⟨fun kn kx kr s=>(cC Gn G a).run (fun s'=>(cNrm N (headId b)).run s' fun s'=>(cC Gn G b).run kn kx kr s') kx kr s⟩
 | G, .cond c x y=>⟨fun kn kx kr s=>condK (stdAlg C.pure G) c s fun b s'=>match b with
  | true=>(cNrm N (headId x)).run s' fun s'=>(cC Gn G x).run kn kx kr s'
  | false=>(cNrm N (headId y)).run s' fun s'=>(cC Gn G y).run kn kx kr s'⟩
 | G, .block id b=>⟨fun kn kx kr s=>(cC Gn G b).run kn (fun i s'=>if i=id then kn s' else kx i s') kr s⟩
 | G, .loop b=>⟨fun _ kx kr s=>(cNrm N (headId b)).run s fun s=>loopR (stdAlg C.pure G) (fun ih s=>(cC Gn G b).run (fun s'=>(cNrm N (headId b)).run s' fun s'=>ih s') kx kr s) N.fuel s⟩
 | _, .exit id=>⟨fun _ kx _ s=>kx id s⟩
 | _, .ret=>⟨fun _ _ kr s=>kr s⟩
 | G, .scope b=>⟨fun kn kx kr s=>(cC Gn G b).run kn kx kr s⟩
 | _, .label _=>⟨fun kn _ _ s=>kn s⟩
 | G, .rangeFunc g ps asg bod=>⟨fun kn kx kr s=>match evO C s g with
  | .v v=>mF v fun fn fs cs=>match fn,fs with
   | .func f,[]=>match C.iter f cs with
    | some xs=>
     let fixl:=N.rfix ((headId asg).getD 0)
     if rfOK fixl ps asg bod then
      roundsR (stdAlg C.pure G) N fixl ps.toList (fun kn kx kr s=>(cC Gn Gn asg).run kn kx kr s) (fun kn kx kr s=>(cC Gn Gn bod).run kn kx kr s) (headId asg) (headId bod) kn kx kr xs (s.keep fixl)
     else .stuck
    | none => .stuck
   | _,_ => .stuck
  | _ => .stuck⟩
 | _,_=>⟨fun _ _ _ _ => .stuck⟩
theorem cC_eq (Gn:FuncId→FF):∀(c:Code) (G:FuncId→FF) (kn:St→Res) (kx:Nat→St→Res) (kr:St→Res) (s:St),(cC C N Gn G c).run kn kx kr s=aC C N (stdAlg C.pure Gn) (stdAlg C.pure G) c kn kx kr s:=by
 intro c
 induction c with
 | skip=>intro G kn kx kr s;rfl
 | region id ops dr=>
  intro G kn kx kr s
  cases dr with
  | true=>exact cOpsD_eq C N Gn ops _ ops.toList _ 0 [] [] s kn rfl (fun j x hj=>by omega) .nil (fun p hp=>by cases hp)
  | false=>exact cOps_eq C N G ops ops.toList s kn
 | seq a b iha ihb=>
  intro G kn kx kr s
  simp only [cC,aC,iha,ihb,cNrm_eq]
 | cond c x y ihx ihy=>
  intro G kn kx kr s
  simp only [cC,aC,ihx,ihy,cNrm_eq]
  congr 1
  funext b s'
  cases b<;>rfl
 | block id b ih=>
  intro G kn kx kr s
  simp only [cC,aC,ih]
 | loop b ih=>
  intro G kn kx kr s
  simp only [cC,aC,ih,cNrm_eq]
 | exit id=>intro G kn kx kr s;rfl
 | ret=>intro G kn kx kr s;rfl
 | scope b ih=>
  intro G kn kx kr s
  simp only [cC,aC,ih]
 | label l=>intro G kn kx kr s;rfl
 | rangeFunc g ps asg bod iha ihb=>
  intro G kn kx kr s
  simp only [cC,aC,iha,ihb]
  rfl
 | _=>intro G kn kx kr s;rfl
def fastF (fn:Func) (G:FuncId→FF):FF:=fun args h=>match fn.body with
 | some c=>
  (match N.eat with
  | none=>(cC C N (noPan G) G c).run (resK (stdAlg C.pure G) C N fn) (fun _ _ => .stuck) (resK (stdAlg C.pure G) C N fn) (initSt args h)
  | some (k,e)=>match args,h with
   | a::as,[.no]=>
    if byteT C.P e then mY a fun s=>(cC C N (noPan G) G c).run (resK (stdAlg C.pure G) C N fn) (fun _ _ => .stuck) (resK (stdAlg C.pure G) C N fn) (eatSt k (.y e s) as [])
    else mL (szT C.P e) a fun xs=>(cC C N (noPan G) G c).run (resK (stdAlg C.pure G) C N fn) (fun _ _ => .stuck) (resK (stdAlg C.pure G) C N fn) (eatSt k (.e e (szT C.P e) xs) as [])
   | _,_ => .stuck)
 | none => .stuck
theorem fastF_eq (fn:Func) (G:FuncId→FF):fastF C N fn G=semF C N fn G:=by
 funext args h
 unfold fastF semF aF
 cases fn.body with
 | none=>rfl
 | some c=>
  simp only [cC_eq]
  cases N.eat with
  | none=>rfl
  | some p=>
   obtain ⟨k,e⟩:=p
   simp only
   cases args with
   | nil=>rfl
   | cons a as=>
    match h with
    | [.no]=>rfl
    | []=>rfl
    | [.cells _]=>rfl
    | [.arr _ _ _]=>rfl
    | [.map _]=>rfl
    | .no::_::_=>rfl
    | .cells _::_::_=>rfl
    | .arr _ _ _::_::_=>rfl
    | .map _::_::_=>rfl
end
section
variable {C:Cx} {N:Ann} {G:FuncId→FF}
theorem sound_fnQ (hC:OkC C) (hG:∀j,Sound C j (G j)) {f:FuncId} {fn:Func} {c:Code} (hf:C.P.funcs[f]? = some fn) (hb:fn.body=some c) (hname:fn.name ≠ "runtime.NumGoroutine") (hok:codeOK (NT.of fn.ntmps) c=true)
  (hlen:fn.results.size=fn.resultTypes.size) (hdrop:N.drop=C.pure f) (heat:N.eat=none) (hceat:C.eats f=none) (hfresh:N.fresh=C.fresh f) (hfp:C.fresh f=none∨(C.pure f=true∧fn.results.size=1)):Sound C f (fastF C N fn G):=by
 rw [fastF_eq]
 exact sound_fn hC hG hf hb hname hok hlen hdrop heat hceat hfresh hfp
theorem sound_rfQ (hC:OkC C) (hG:∀j,Sound C j (G j)) {f:FuncId} {fn:Func} {c:Code} (hf:C.P.funcs[f]? = some fn) (hb:fn.body=some c) (hname:fn.name ≠ "runtime.NumGoroutine") (hok:codeOK (NT.ofm fn.ntmps true) c=true)
  (hlen:fn.results.size=fn.resultTypes.size) (hdrop:N.drop=C.pure f) (heat:N.eat=none) (hceat:C.eats f=none) (hfresh:N.fresh=C.fresh f) (hfp:C.fresh f=none∨(C.pure f=true∧fn.results.size=1)):Sound C f (noPan1 (fastF C N fn G)):=by
 rw [fastF_eq]
 exact sound_rf hC hG hf hb hname hok hlen hdrop heat hceat hfresh hfp
theorem sound_eatQ (hC:OkC C) (hG:∀j,Sound C j (G j)) {f:FuncId} {fn:Func} {c:Code} {e:TypeId} {k:Nat} (hf:C.P.funcs[f]? = some fn) (hb:fn.body=some c) (hname:fn.name ≠ "runtime.NumGoroutine") (hok:codeOK (NT.of fn.ntmps) c=true)
  (hlen:fn.results.size=fn.resultTypes.size) (hp:C.pure f=true) (heat:N.eat=some (k,e)) (hceat:C.eats f=some e) (hfresh:N.fresh=some e) (h1:fn.results.size=1):Sound C f (fastF C N fn G):=by
 rw [fastF_eq]
 exact sound_eat hC hG hf hb hname hok hlen hp heat hceat hfresh h1
theorem soundD_fnQ (hC:OkC C) (hG:∀j,Sound C j (G j)) {f:FuncId} {fn:Func} {c:Code} (hf:C.P.funcs[f]? = some fn) (hb:fn.body=some c) (hname:fn.name ≠ "runtime.NumGoroutine") (hok:codeOK (NT.of fn.ntmps) c=true)
  (hlen:fn.results.size=fn.resultTypes.size) (hdrop:N.drop=false) (heat:N.eat=none) (hfresh:N.fresh=none):SoundD C f (fastF C N fn G):=by
 rw [fastF_eq]
 exact soundD_fn hC hG hf hb hname hok hlen hdrop heat hfresh
def fastDc (C:Cx) (N:Ann) (fn:Func) (A D:Code) (om:Oper) (idr td:Nat) (fd:FuncId) (ops:Array Oper) (S:FF) (G:FuncId→FF):FF:=fun as h=>
 let Rk:=resK (stdAlg C.pure G) C N fn
 (cC C N (noPan G) G A).run
  (fun s=>(cNrm N (some idr)).run s fun s=>(cOps C N G ops [om]).run s fun s=>match s.env td with
    | .v (.F (.func f) [] caps)=>(match Nat.beq f fd with
     | true=>(match ((cNrm N (headId D)).run s fun s=>(cC C N (noPan G) G D).run Rk (fun _ _ => .stuck) Rk s) with
      | .ret v h'=>(match S caps h' with
       | .ret _ h'' => .ret v h''
       | _ => .stuck)
      | _ => .stuck)
     | false => .stuck)
    | _ => .stuck)
  (fun _ _ => .stuck) (fun _ => .stuck) (initSt as h)
theorem fastDc_eq (fn:Func) (A D:Code) (om:Oper) (idr td:Nat) (fd:FuncId) (ops:Array Oper) (S:FF):fastDc C N fn A D om idr td fd ops S G=semDc C N fn A D om idr td fd ops S G:=by
 funext as h
 unfold fastDc semDc
 simp only [cC_eq,cNrm_eq,cOps_eq]<;>rfl
structure FB where
 run:FF
def lkB (k:Nat):List (Nat×((FuncId→FF)→FF))→(FuncId→FF)→FB
 | [],_=>⟨fun _ _ => .stuck⟩
 | (i,f)::r,G=>bif Nat.beq i k then ⟨f G⟩ else lkB k r G
theorem lkB_eq (k:Nat) (G:FuncId→FF):∀l,(lkB k l G).run=lkF k l G
 | []=>rfl
 | (i,f)::r=>by
  simp only [lkB,lkF]
  cases Nat.beq i k with
  | true=>rfl
  | false=>exact lkB_eq k G r
noncomputable def GGb (tab:List (Nat×((FuncId→FF)→FF))) (l:ML) (k:FuncId) (G:FuncId→FF):FB:=match hasK k l with
 | true=>⟨orE (memK k l) (lkF k tab G)⟩
 | false=>lkB k tab G
noncomputable def GGq (tab:List (Nat×((FuncId→FF)→FF))) (l:ML):Nat→FuncId→FF
 | 0,_=>fun _ _ => .stuck
 | n+1,k=>fun as h=>(GGb tab l k (GGq tab l n)).run as h
theorem GGq_eq (tab:List (Nat×((FuncId→FF)→FF))) (l:ML):∀n k,GGq tab l n k=GGm tab l n k
 | 0,k=>rfl
 | n+1,k=>by
  have ih:GGq tab l n=GGm tab l n:=funext fun k=>GGq_eq tab l n k
  show (fun as h=>(GGb tab l k (GGq tab l n)).run as h)=_
  unfold GGb GGm
  rw [ih]
  cases hasK k l with
  | true=>rfl
  | false=>exact lkB_eq k _ tab
theorem GGq_sound {tab:List (Nat×((FuncId→FF)→FF))} (htab:∀{G:FuncId→FF},(∀j,Sound C j (G j))→∀k,Sound C k (lkF k tab G)) {l:ML} (hoff:memOff C.eats l=true) (hl:∀p∈l,∃S,Sound C p.1 S∧S p.2.1 p.2.2.1=p.2.2.2) (n k:Nat):Sound C k (GGq tab l n k):=by
 rw [GGq_eq]
 exact GGm_sound htab hoff hl n k
end
end Go.Vm
namespace Go.Vm
open Go
def pktOK:List AV→Bool
 | [.I .i64 _, .I .i64 _, .Y s]=>decide (s.length≤140737488355328)
 | _=>false
def netL (xs:List (List AV)):List (List AV):=(List.range xs.length).map fun (j:Nat)=>[AV.I .i64 (j:Int),AV.A (xs.getD j [])]
def CopyC (P:Program) (f:FuncId):Prop:=∀(x:List AV),pktOK x=true→∀(g:Gh) (w:World) (v:Value),g.n=0→(∀b,g.ow b=none)→Wf g w→V g w (.A x) v →
 Callable P f∧Calls P f #[v] w (PostP none g w (.ret (.A x) []))
section
variable {P:Program} {o:Oper} {a:Act} {w:World}
theorem ops_vw {M:Nat} {w':World} {ro:Option Nat} {n:Nat} {ops:Array Oper} {Q:Exit→Act→World→Prop} {i:Nat} {rest:List Nat} (v:Value) {op:Op} {d:Nat} (hs:M≤a.tmps.size) (hi:ops[i]? = some o) (ho:IsO o op d) (hd:d<M) (hnd:∀c,op ≠ .defer c)
  (hx:(execOp a.eval o).run P w = .ok (.value v) w') (h:∀a':Act,M≤a'.tmps.size→a'.defers=a.defers→(∀t,a'.eval (.tmp t)=if t=d then v else a.eval (.tmp t))→wpOpsIn (FR ro) n P ops Q rest a' w'):wpOpsIn (FR ro) n P ops Q (i::rest) a w:=by
 simp only [wpOpsIn,hi]
 rw [if_pos (by simp [Region.wanted,ho.2.2])]
 refine ⟨fun _ _=>trivial,?_⟩
 rw [Oper.semAt_eq _ _ _ (by rw [ho.1];exact hnd),hx]
 simp only [Oper.uponIn,ho.2.1]
 exact h _ (by rw [sz_put];exact hs) rfl fun t=>ev_put (by omega)
theorem ops_sk {w':World} {ro:Option Nat} {n:Nat} {ops:Array Oper} {Q:Exit→Act→World→Prop} {i:Nat} {rest:List Nat} {op:Op} (hi:ops[i]? = some o) (ho:o.op=op∧o.dst=none∧o.guard=none) (hnd:∀c,op ≠ .defer c)
  (hx:(execOp a.eval o).run P w = .ok .skip w') (h:wpOpsIn (FR ro) n P ops Q rest a w'):wpOpsIn (FR ro) n P ops Q (i::rest) a w:=by
 simp only [wpOpsIn,hi]
 rw [if_pos (by simp [Region.wanted,ho.2.2])]
 refine ⟨fun _ _=>trivial,?_⟩
 rw [Oper.semAt_eq _ _ _ (by rw [ho.1];exact hnd),hx]
 simp only [Oper.uponIn,ho.2.1]
 exact h
theorem ops_call {M:Nat} {ops:Array Oper} {Q:Exit→Act→World→Prop} {i:Nat} {rest:List Nat} {op:Op} {d:Nat} {f:FuncId} {args:Array Value} {R':Ending→World→Prop} (hs:M≤a.tmps.size) (hi:ops[i]? = some o) (ho:IsO o op d) (hd:d<M) (hnd:∀c,op ≠ .defer c)
  (hx:(execOp a.eval o).run P w = .ok (.enter f args) w) (hc:Calls P f args w R') (h:∀e W,R' e W→∃v,e = .returned v∧∀a':Act,M≤a'.tmps.size→a'.defers=a.defers→(∀t,a'.eval (.tmp t)=if t=d then v else a.eval (.tmp t))→wpOpsIn (FR none) 0 P ops Q rest a' W):wpOpsIn (FR none) 0 P ops Q (i::rest) a w:=by
 simp only [wpOpsIn,hi]
 rw [if_pos (by simp [Region.wanted,ho.2.2])]
 refine ⟨fun _ _=>trivial,?_⟩
 rw [Oper.semAt_eq _ _ _ (by rw [ho.1];exact hnd),hx]
 refine ⟨fun h=>by simp [FR,Fence.wide] at h,callsIn_wide.2 (hc.mono ?_)⟩
 intro e W hR
 obtain ⟨v,rfl,h2⟩:=h e W hR
 simp only [ho.2.1]
 exact h2 _ (by rw [sz_put];exact hs) rfl fun t=>ev_put (by omega)
end
section
variable {P:Program} {f fc:FuncId} {fn:Func} {ti ts te:TypeId}
structure NetCode (P:Program) (fn:Func) (fc:FuncId) (ti ts te:TypeId):Prop where
 hts:okT P ts=true
 ats:aggT P ts=false
 uts:P.underlying ts=some (.slice te)
 hte:okT P te=true
 ate:aggT P te=true
 zte:szT P te=3
 zero:zeroOK P te=true
 nt:19≤fn.ntmps
 res:fn.results = #[]
 np:fn.name ≠ "runtime.NumGoroutine"
 body:∃(r0 r1 r2 r3 r4 b0 b1:Nat) (o0 o1 o2 p0 q0 q1 q2 q3 q4 q5 u0 u1 u2 u3 u4 u5 s0 s1:Oper) (t1 t2 t3:TypeId) (c1 c2 c3:Call),
  fn.body=some (.seq (.region r0 #[o0,o1,o2] false) (.block b0 (.loop (.seq (.region r1 #[p0] false) (.seq (.cond (.tmp 8) .skip (.exit b0))
   (.seq (.block b1 (.seq (.region r2 #[q0,q1,q2,q3,q4,q5] false) (.seq (.region r3 #[u0,u1,u2,u3,u4,u5] false) (.cond (.tmp 17) .ret .skip)))) (.region r4 #[s0,s1] false))))))) ∧
  IsO o0 (.load ts (.tmp 1)) 5∧IsO o1 (.call c1) 6∧IsO o2 (.move (.const (.int .i64 0))) 7 ∧
  (c1.callee = .builtin .len∧c1.args = #[.tmp 5]∧c1.argTypes = #[ts]) ∧
  IsO p0 (.binOp .lss ti (.tmp 7) (.tmp 6) t1) 8 ∧
  IsO q0 (.move (.tmp 7)) 9∧IsO q1 (.indexAddr ts (.tmp 5) (.tmp 7)) 10∧IsO q2 (.load te (.tmp 10)) 11∧IsO q3 (.alloc te) 4∧IsO q4 (.assign (.tmp 9)) 3∧(∃ty,q5.op = .store te (.tmp 4) (.tmp 11)∧q5.dst=none∧q5.guard=none∧ty=te) ∧
  IsO u0 (.move (.tmp 0)) 12∧IsO u1 (.move (.tmp 3)) 13∧IsO u2 (.load te (.tmp 4)) 14∧IsO u3 (.call c2) 15∧IsO u4 (.call c3) 16∧IsO u5 (.unOp .not t2 (.tmp 16)) 17 ∧
  (c2.callee = .value (.func fc)∧c2.args = #[.tmp 14])∧(c3.callee = .value (.tmp 12)∧c3.args = #[.tmp 13, .tmp 15]) ∧
  IsO s0 (.binOp .add ti (.tmp 7) (.const (.int .i64 1)) t3) 18∧IsO s1 (.move (.tmp 18)) 7
theorem netL_length (xs:List (List AV)):(netL xs).length=xs.length:=by simp [netL]
theorem netL_get {xs:List (List AV)} {j:Nat} (h:j<xs.length):(netL xs)[j]? = some [AV.I .i64 (j:Int),AV.A (xs.getD j [])]:=by
 rw [netL,List.getElem?_map,List.getElem?_range h]
 rfl
theorem net_iter (hf:P.funcs[f]? = some fn) (hc:NetCode P fn fc ti ts te) (hcp:CopyC P fc) {xs:List (List AV)} (hpk:∀x∈xs,pktOK x=true):IterC P f [.Q [.L 3 xs]] (netL xs):=by
 intro g w vals hv l J Jx hlat hy gj0 hJ0
 simp only [VT] at hv
 obtain ⟨v2,vs2,rfl,hv2,rfl⟩:=hv
 simp only [V,VC] at hv2
 obtain ⟨b2,o2',rfl,⟨hst2,⟨u2',hcell2,⟨ad,len,cap,rfl,rfl,⟨hlc,hl63⟩,hrows⟩,_⟩,_⟩,_⟩:=hv2
 obtain ⟨r0,r1,r2,r3,r4,k0,k1,o0,o1,o2,p0,q0,q1,q2,q3,q4,q5,u0,u1,u2,u3,u4,u5,s0,s1,t1,t2,t3,c1,c2,c3,hb,io0,io1,io2,hc1,ip0,iq0,iq1,iq2,iq3,iq4,⟨_,iq5,iq5',iq5'',_⟩,iu0,iu1,iu2,iu3,iu4,iu5,hc2,hc3,is0,is1⟩:=hc.body
 have hz0:szT P te≠0:=by rw [hc.zte];omega
 refine callsIn_wide.1 ((?_:CallsIn (FR none) 0 P f _ w _))
 refine callsIn_of_wp (F:=FR none) (n:=0) hf hb trivial ?_
 let At:=fun (a:Act)=>19≤a.tmps.size∧a.defers=[]∧a.eval (.tmp 0) = .func (.yield l) #[] #[]∧a.eval (.tmp 5) = .slice ad xs.length cap∧a.eval (.tmp 6) = .int .i64 xs.length
 obtain ⟨a0,ha0⟩:∃a0:Act,a0 = { tmps := #[Value.func (.yield l) #[] #[]]++[Value.pointer (some ⟨b2,o2',none⟩)].toArray++Array.replicate (fn.ntmps-(#[Value.func (.yield l) #[] #[]]++[Value.pointer (some ⟨b2,o2',none⟩)].toArray).size) undef,defers:=[] } := ⟨_,rfl⟩
 have hA0:19≤a0.tmps.size∧a0.defers=[]∧a0.eval (.tmp 0) = .func (.yield l) #[] #[]∧a0.eval (.tmp 1) = .pointer (some ⟨b2,o2',none⟩):=by
  have hn:=hc.nt
  subst ha0
  refine ⟨by simp;omega,rfl,?_,?_⟩<;>(simp only [Act.eval,Array.getD_eq_getD_getElem?];rw [Array.getElem?_append_left (by simp)];rfl)
 rw [←ha0]
 clear ha0
 have done:∀a W,a.defers=[]→((∃g2,J (netL xs).length g2 W)∨Jx W)→bodyPost P fn (fun e W'=>(∃v,e = .returned v)∧((∃g2,J (netL xs).length g2 W')∨Jx W')) .ret a W:=by
  intro a W hd h
  refine ⟨hd, .tuple #[],?_,⟨_,rfl⟩,h⟩
  rw [results_eq,hc.res]
  simp
 obtain ⟨h01,h02,h03,h05⟩:=hA0
 refine wpIn_seq (wpIn_region ?_)
 show wpOpsIn (FR none) 0 P _ _ [0,1,2] a0 w
 refine ops_vw (o:=o0) (.slice ad xs.length cap) h01 rfl io0 (by omega) (by simp) (run_ld io0.1 h05 (run_loadVar_one hc.hts hc.ats hcell2)) fun a1 z1 f1 e1 => ?_
 refine ops_vw (o:=o1) (.int .i64 xs.length) z1 rfl io1 (by omega) (by simp) (run_lenS (ad:=ad) (len:=xs.length) (cap:=cap) io1.1 hc1.1 hc1.2.1 hc1.2.2 hc.uts (by simp [e1])) fun a2 z2 f2 e2 => ?_
 refine ops_vw (o:=o2) (.int .i64 0) z2 rfl io2 (by omega) (by simp) (run_mv (.inl io2.1) rfl) fun aL z4 f4 e4 => ?_
 have hAL:At aL∧aL.eval (.tmp 7) = .int .i64 ((0:Nat):Int):=by
  refine ⟨⟨z4,by rw [f4,f2,f1,h02],?_,?_,?_⟩,?_⟩<;>simp [e1,e2,e4,h03]
 clear e1 e2 e4 f1 f2 f4 z1 z2 z4
 refine wpIn_block (wpIn_loop_rounds (xs.length+1) ?_)
 have round:∀(j:Nat) (a:Act) (gj:Gh) (W:World) (K:Act→World→Prop),j≤(netL xs).length→At a→a.eval (.tmp 7) = .int .i64 (j:Int)→J j gj W →
   (j<xs.length→∀a gj W,At a→a.eval (.tmp 7) = .int .i64 ((j+1:Nat):Int)→J (j+1) gj W→K a W) →
   (Code.seq (.region r1 #[p0] false) (.seq (.cond (.tmp 8) .skip (.exit k0))
    (.seq (.block k1 (.seq (.region r2 #[q0,q1,q2,q3,q4,q5] false) (.seq (.region r3 #[u0,u1,u2,u3,u4,u5] false) (.cond (.tmp 17) .ret .skip)))) (.region r4 #[s0,s1] false)))).wpIn (FR none) 0 P
    (Exit.then K (Exit.inBlock k0 (bodyPost P fn (fun e W'=>(∃v,e = .returned v)∧((∃g2,J (netL xs).length g2 W')∨Jx W'))))) a W:=by
  intro j a gj W K hj ⟨a1,a2,a3,a4,a5⟩ a6 hJ hnext
  refine wpIn_seq (wpIn_region ?_)
  show wpOpsIn (FR none) 0 P _ _ [0] a W
  refine ops_vw (o:=p0) (.bool (decide ((j:Int)<(xs.length:Int)))) a1 rfl ip0 (by omega) (by simp) (run_int2 (m:=(j:Int)) (n:=(xs.length:Int)) ip0.1 (.inr (.inr rfl)) a6 a5) fun aB z4 f4 e4 => ?_
  have hAB:At aB∧aB.eval (.tmp 7) = .int .i64 (j:Int)∧aB.eval (.tmp 8) = .bool (decide ((j:Int)<(xs.length:Int))):=by
   refine ⟨⟨z4,by rw [f4,a2],?_,?_,?_⟩,?_,?_⟩<;>simp [e4,a3,a4,a5,a6]
  clear e4 f4 z4
  obtain ⟨⟨b1',b2',b3,b4,b5⟩,b6,b7⟩:=hAB
  by_cases hlt:j<xs.length
  ·refine wpIn_seq (wpIn_cond_true (by rw [b7];simp;omega) (wpIn_skip ?_))
   have hrow:=hrows
   rcases hrow with rfl | ⟨bb,oo,rfl,hrow⟩
   ·simp at hlt
   have hrw:=VR_get j xs oo (by rw [←hc.zte] at hrow;exact hrow) hlt
   obtain ⟨cv,hcv1,hcv2,hcv3⟩:=VC_vals _ _ hrw.1
   have hxm:xs.getD j []∈xs:=by
    rw [List.getD_eq_getElem?_getD,List.getElem?_eq_getElem hlt]
    exact List.getElem_mem hlt
   have hxok:=hpk _ hxm
   obtain ⟨hlW,hwfW,hgrow⟩:=hlat j gj W hJ
   have hcvW:∀i v,cv[i]? = some v→W.cell? ⟨bb,oo+j*szT P te+i,none⟩=some v:=by
    intro i v hi
    have hst':g.st bb (oo+j*szT P te+i):=by
     have hil:i<(xs.getD j []).length:=by rw [←hcv1];exact (List.getElem?_eq_some_iff.1 hi).1
     exact VC_st _ _ hrw.1 i hil
    exact (hlW.cell _ _ hst').trans (hcv2 i v hi)
   have hcl:cv.length=szT P te:=hcv1.trans hrw.2
   have h1c:∀u∈cv,u.oneCell'=true:=VS_one _ _ hcv3
   obtain ⟨ti',z,hi,hz',hzl,hzl2,_⟩:=zeroOK_inv (g:=gj) (w:=W) hc.zero
   have hzsz:z.cells.size=szT P te:=by
    rw [hzl,hzl2]
    simp [szT,hi]
   refine wpIn_seq (wpIn_block (wpIn_seq (wpIn_region ?_)))
   show wpOpsIn (FR none) 0 P _ _ [0,1,2,3,4,5] aB W
   refine ops_vw (o:=q0) (.int .i64 (j:Int)) b1' rfl iq0 (by omega) (by simp) (run_mv (.inl iq0.1) b6) fun x1 z1 f1 e1 => ?_
   refine ops_vw (o:=q1) (.pointer (some ⟨bb,oo+j*szT P te,none⟩)) z1 rfl iq1 (by omega) (by simp) (run_idx (b:=bb) (o':=oo) (len:=xs.length) (cap:=cap) (n:=j) iq1.1 hc.uts hz0 (by simp [e1,b4]) (by simp [e1,b6]) hlt) fun x2 z2 f2 e2 => ?_
   refine ops_vw (o:=q2) (.agg cv.toArray) z2 rfl iq2 (by omega) (by simp) (run_ld (b:=bb) (off:=oo+j*szT P te) iq2.1 (by simp [e2]) (run_loadVar_agg hc.hte hc.ate hcl hcvW)) fun x3 z3 f3 e3 => ?_
   refine ops_vw (o:=q3) (.pointer (some ⟨W.heap.size,0,none⟩)) z3 rfl iq3 (by omega) (by simp) (w':=World.push' W (.cells z.cells te (0,0))) (by simp [execOp,iq3.1,Instr.alloc,run_zero hi hz',newVar,run_newRow]) fun x4 z4 f4 e4 => ?_
   refine ops_vw (o:=q4) (.int .i64 (j:Int)) z4 rfl iq4 (by omega) (by simp) (run_mv (.inr iq4.1) (by simp [e4,e3,e2,e1])) fun x5 z5 f5 e5 => ?_
   obtain ⟨W2,hW2⟩:∃W2,W2=(World.push' W (.cells z.cells te (0,0))).setRow W.heap.size (setV z.cells.toList 0 cv).toArray:=⟨_,rfl⟩
   have hnew:=push_new W (.cells z.cells te (0,0))
   have hst5:(execOp x5.eval q5).run P (World.push' W (.cells z.cells te (0,0))) = .ok .skip W2:=by
    have:=run_storeVar (C := { P:=P,glob:=fun _=>none,pure:=fun _=>false,fresh:=fun _=>none,eats:=fun _=>none,bound:=0,iter:=fun _ _=>none }) (t:=te) (b:=W.heap.size) (off:=0) (v := .agg cv.toArray) (us:=cv) hc.hte hnew rfl hcl (by omega) h1c
    have e14:x5.eval (.tmp 4) = .pointer (some ⟨W.heap.size,0,none⟩):=by simp [e5,e4]
    have e111:x5.eval (.tmp 11) = .agg cv.toArray:=by simp [e5,e4,e3]
    rw [hW2]
    simp [execOp,iq5,Instr.storeAt,Instr.sureAddr,e14,e111,this]
   refine ops_sk (o:=q5) rfl ⟨iq5,iq5',iq5''⟩ (by simp) hst5 ?_
   have hrow2:W2.heap[W.heap.size]? = some (.cells cv.toArray te (0,0)):=by
    rw [hW2,setRow_heap _ _ _ _ _ _ hnew]
    have:(setV z.cells.toList 0 cv)=cv:=by
     apply List.ext_getElem?
     intro i
     rw [setV_get _ _ _ _ (by simp;omega)]
     by_cases hi:i<cv.length
     ·rw [if_pos (by omega)];simp
     ·rw [if_neg (by omega),List.getElem?_eq_none (by simp;omega),List.getElem?_eq_none (by omega)]
    rw [this]
   have hold2:∀b,b<W.heap.size→W2.heap[b]? = W.heap[b]? := by
    intro b hb
    rw [hW2,setRow_other _ _ _ _ (by omega)]
    exact push_get W _ b hb
   have hsz2:W.heap.size+1=W2.heap.size:=by
    rw [hW2];simp [World.push',World.setRow]
   have hch2:Chg (fun _=>False) gj W (gj.only W.heap.size) W2:=grown_chg hwfW (by omega) hold2 (by rw [hW2];rfl) (by rw [hW2];rfl) (by rw [hW2];rfl)
   have hwf2:∀b i,(gj.only W.heap.size).st b i→b<W2.heap.size:=fun b i h=>by have:=hwfW b i h;omega
   have hJ2:=hgrow _ _ hch2 rfl hwf2
   have hAX:At x5∧x5.eval (.tmp 7) = .int .i64 (j:Int)∧x5.eval (.tmp 3) = .int .i64 (j:Int)∧x5.eval (.tmp 4) = .pointer (some ⟨W.heap.size,0,none⟩):=by
    refine ⟨⟨z5,by rw [f5,f4,f3,f2,f1,b2'],?_,?_,?_⟩,?_,?_,?_⟩<;>simp [e1,e2,e3,e4,e5,b3,b4,b5,b6]
   clear e1 e2 e3 e4 e5 f1 f2 f3 f4 f5 z1 z2 z3 z4 z5
   obtain ⟨⟨m1,m2,m3,m4,m5⟩,m6,m7,m8⟩:=hAX
   refine wpIn_seq (wpIn_region ?_)
   show wpOpsIn (FR none) 0 P _ _ [0,1,2,3,4,5] x5 W2
   refine ops_vw (o:=u0) (.func (.yield l) #[] #[]) m1 rfl iu0 (by omega) (by simp) (run_mv (.inl iu0.1) m3) fun y1 z1 f1 e1 => ?_
   refine ops_vw (o:=u1) (.int .i64 (j:Int)) z1 rfl iu1 (by omega) (by simp) (run_mv (.inl iu1.1) (by simp [e1,m7])) fun y2 z2 f2 e2 => ?_
   refine ops_vw (o:=u2) (.agg cv.toArray) z2 rfl iu2 (by omega) (by simp) (run_ld (b:=W.heap.size) (off:=0) iu2.1 (by simp [e2,e1,m8]) (run_loadVar_agg hc.hte hc.ate hcl (fun i v hi=>by
    simp only [World.cell?,hrow2]
    simpa using hi))) fun y3 z3 f3 e3 => ?_
   have hlW2:Later g w (gj.only W.heap.size) W2:=hlW.trans hch2.later
   have hclB:Cells (gj.only W.heap.size) W2 (gj.only W.heap.size).bare W2:=⟨fun _ _ h=>h,fun _ _ _=>rfl,fun _ _ _ _ _ h=>h⟩
   have hpno:noP (.A (xs.getD j []))=true:=by
    revert hxok
    unfold pktOK
    split
    ·rename_i e;rw [e];intro _;rfl
    ·intro h;cases h
   have hvA:V (gj.only W.heap.size) W2 (.A (xs.getD j [])) (.agg cv.toArray):=by
    simp only [V]
    exact ⟨cv,rfl,VS.later hlW2 _ _ hcv3⟩
   obtain ⟨hcb,hcalls⟩:=hcp _ hxok (gj.only W.heap.size).bare W2 (.agg cv.toArray) rfl (fun _=>rfl) hwf2 (V.noP hclB _ _ hpno hvA)
   have hent:(execOp y3.eval u3).run P W2 = .ok (.enter fc #[.agg cv.toArray]) W2:=by
    have:=hcb.run #[.agg cv.toArray] W2
    have e14:y3.eval (.tmp 14) = .agg cv.toArray:=by simp [e3]
    have ef:y3.eval (.func fc) = .func (.func fc) #[] #[]:=rfl
    simpa [execOp,iu3.1,resolve,hc2.1,hc2.2,e14,ef,Deferred.ofValue,invoke] using this
   refine ops_call (o:=u3) z3 rfl iu3 (by omega) (by simp) hent hcalls ?_
   rintro e W3 hpost
   cases e with
   | outgrown=>exact hpost.elim
   | panicked chain=>obtain ⟨_,_,_,_,e1,_⟩:=hpost;cases e1
   | returned uc=>
   obtain ⟨v',h1',g3,er,hch3,hwf3,hval3⟩:=hpost
   cases er
   refine ⟨uc,rfl,fun y4 z4 f4 e4 => ?_⟩
   have hch3':=back_chg (g1:=gj.only W.heap.size) hch3 (fun _=>none)
   have hJ3:=(hlat j _ W2 hJ2).2.2 _ W3 hch3' rfl hwf3
   have hval:V ((gj.only W.heap.size).back g3 W2.heap.size fun _=>none) W3 (.A (xs.getD j [])) uc:=
    have hcl2:Cells g3 W3 ((gj.only W.heap.size).back g3 W2.heap.size fun _=>none) W3:=⟨fun _ _ h=>h,fun _ _ _=>rfl,fun _ _ _ _ _ h=>h⟩
    V.noP hcl2 _ _ hpno hval3
   have hAY:At y4∧y4.eval (.tmp 7) = .int .i64 (j:Int)∧y4.eval (.tmp 12) = .func (.yield l) #[] #[]∧y4.eval (.tmp 13) = .int .i64 (j:Int)∧y4.eval (.tmp 15)=uc:=by
    refine ⟨⟨z4,by rw [f4,f3,f2,f1,m2],?_,?_,?_⟩,?_,?_,?_,?_⟩<;>simp [e1,e2,e3,e4,m3,m4,m5,m6,m7]
   clear e1 e2 e3 e4 f1 f2 f3 f4 z1 z2 z3 z4
   obtain ⟨⟨d1,d2,d3,d4,d5⟩,d6,d7,d8,d9⟩:=hAY
   have hjl:j<(netL xs).length:=by rw [netL_length];exact hlt
   obtain ⟨fn2,tm2,as2,bo2,hyr,hround⟩:=hy j _ [.int .i64 (j:Int),uc] _ W3 (netL_get hlt) hJ3 (by
    simp only [VT]
    refine ⟨_,_,rfl,V_I _ W3 ?_,_,_,rfl,hval,rfl⟩
    have:=i64_range (n:=j) (by omega)
    simpa using this)
   have hrun:(execOp y4.eval u4).run P W3 = .ok (.round l fn2 tm2 as2 bo2) W3:=by
    have e : #[y4.eval (.tmp 13),y4.eval (.tmp 15)]=[.int .i64 (j:Int),uc].toArray:=by rw [d8,d9]
    simp only [execOp,iu4.1,resolve,hc3.1,hc3.2]
    simpa [d7,d8,d9,Deferred.ofValue,invoke] using hyr
   refine ops_round (o:=u4) rfl iu4 (by simp) hrun hround ?_
   rintro e W' (⟨rfl,gj',hJ'⟩ | ⟨rfl,hJx⟩)
   ·refine ⟨_,rfl,?_⟩
    have e1:∀t,(y4.put (some 16) (.bool true)).eval (.tmp t)=if t=16 then .bool true else y4.eval (.tmp t):=fun t=>ev_put (by omega)
    refine ops_vw (o:=u5) (.bool false) (by rw [sz_put];exact d1) rfl iu5 (by omega) (by simp) (run_not (b:=true) iu5.1 (by simp [e1])) fun x2 z2 f2 e2 => ?_
    refine wpIn_cond_false (by simp [e2]) (wpIn_skip ?_)
    show Code.wpIn (FR none) 0 P (.region r4 #[s0,s1] false) _ x2 W'
    refine wpIn_region ?_
    show wpOpsIn (FR none) 0 P _ _ [0,1] x2 W'
    have hw1:IntKind.i64.wrap ((j:Int)+1)=((j+1:Nat):Int):=by rw [IntKind.wrap_i64];omega
    refine ops_vw (o:=s0) (.int .i64 ((j+1:Nat):Int)) z2 rfl is0 (by omega) (by simp) (by rw [←hw1];exact run_int2 (m:=(j:Int)) (n:=1) is0.1 (.inl rfl) (by simp [e2,e1,d6]) rfl) fun x4 z4 f4 e4 => ?_
    refine ops_vw (o:=s1) (.int .i64 ((j+1:Nat):Int)) z4 rfl is1 (by omega) (by simp) (run_mv (.inl is1.1) (by simp [e4])) fun x5 z5 f5 e5 => ?_
    refine hnext hlt x5 gj' W' ⟨z5,?_,?_,?_,?_⟩ ?_ hJ'
    ·rw [f5,f4,f2];exact d2
    ·simp [e5,e4,e2,e1,d3]
    ·simp [e5,e4,e2,e1,d4]
    ·simp [e5,e4,e2,e1,d5]
    ·simp [e5]
   ·refine ⟨_,rfl,?_⟩
    have e1:∀t,(y4.put (some 16) (.bool false)).eval (.tmp t)=if t=16 then .bool false else y4.eval (.tmp t):=fun t=>ev_put (by omega)
    refine ops_vw (o:=u5) (.bool true) (by rw [sz_put];exact d1) rfl iu5 (by omega) (by simp) (run_not (b:=false) iu5.1 (by simp [e1])) fun x2 z2 f2 e2 => ?_
    refine wpIn_cond_true (by simp [e2]) (wpIn_ret ?_)
    exact done x2 W' (by rw [f2];exact d2) (.inr hJx)
  ·refine wpIn_seq (wpIn_cond_false (by rw [b7];simp;omega) (wpIn_exit ?_))
   show Exit.inBlock k0 _ (.exit k0) aB W
   simp only [Exit.inBlock,if_true]
   refine done aB W b2' (.inl ⟨gj,?_⟩)
   have:j=(netL xs).length:=by rw [netL_length] at hj ⊢;omega
   rw [←this]
   exact hJ
 have key:∀(m j:Nat) (a:Act) (gj:Gh) (W:World),xs.length<j+(m+1)→j≤(netL xs).length→At a→a.eval (.tmp 7) = .int .i64 (j:Int)→J j gj W →
   Code.roundsIn (FR none) 0 P (.seq (.region r1 #[p0] false) (.seq (.cond (.tmp 8) .skip (.exit k0))
    (.seq (.block k1 (.seq (.region r2 #[q0,q1,q2,q3,q4,q5] false) (.seq (.region r3 #[u0,u1,u2,u3,u4,u5] false) (.cond (.tmp 17) .ret .skip)))) (.region r4 #[s0,s1] false))))
    (Exit.inBlock k0 (bodyPost P fn (fun e W'=>(∃v,e = .returned v)∧((∃g2,J (netL xs).length g2 W')∨Jx W')))) (m+1) a W:=by
  intro m
  induction m with
  | zero=>
   intro j a gj W hm hj hA h4 hJ
   rw [roundsIn_succ]
   refine round j a gj W _ hj hA h4 hJ fun hlt => ?_
   omega
  | succ m ih=>
   intro j a gj W hm hj hA h4 hJ
   rw [roundsIn_succ]
   refine round j a gj W _ hj hA h4 hJ fun hlt a' gj' W' hA' h4' hJ'=>ih (j+1) a' gj' W' (by omega) ?_ hA' h4' hJ'
   rw [netL_length]
   omega
 exact key xs.length 0 aL gj0 w (by omega) (Nat.zero_le _) hAL.1 hAL.2 hJ0
def netI:List AV→Option (List (List AV))
 | [.Q [.L k xs]]=>if k=3∧xs.all pktOK=true then some (netL xs) else none
 | _=>none
theorem netI_ok (hf:P.funcs[f]? = some fn) (hc:NetCode P fn fc ti ts te) (hcp:CopyC P fc) (cs:List AV) (xs:List (List AV)) (h:netI cs=some xs):Callable P f∧IterC P f cs xs:=by
 refine ⟨⟨fn,hf,?_,hc.np⟩,?_⟩
 ·obtain ⟨r0,r1,r2,r3,r4,k0,k1,o0,o1,o2,p0,q0,q1,q2,q3,q4,q5,u0,u1,u2,u3,u4,u5,s0,s1,t1,t2,t3,c1,c2,c3,hb,_⟩:=hc.body
  rw [hb];rfl
 ·unfold netI at h
  split at h
  ·rename_i k xs'
   split at h
   ·rename_i hk
    obtain ⟨rfl,hn⟩:=hk
    cases h
    exact net_iter hf hc hcp (List.all_eq_true.1 hn)
   ·cases h
  ·cases h
end
end Go.Vm
namespace Go.Vm
open Go
section
variable {P:Program} {f:FuncId} {fn:Func} {ti ts te ta tb:TypeId}
theorem run_fieldA {t:TypeId} {x:Operand} {i b o' off:Nat} {ft:TypeId} {o:Oper} {a:Act} {w:World} (ho:o.op = .fieldAddr t x i) (hf:fieldOf P t i=some (off,ft)) (hz:szT P ft≠0) (hx:a.eval x = .pointer (some ⟨b,o',none⟩)) :
  (execOp a.eval o).run P w = .ok (.value (.pointer (some ⟨b,o'+off,none⟩))) w:=by
 obtain ⟨fs,fd,hu,hfd,rfl,rfl⟩:=fieldOf_inv hf
 simp [execOp,ho,hx,Instr.fieldAt,run_underlying hu,hfd,Instr.sureAddr,fieldPlace,run_sz (P:=P) (.inr hz),hz,Addr.add]
structure LedCode (P:Program) (fn:Func) (ti ts te ta tb:TypeId):Prop where
 hts:okT P ts=true
 ats:aggT P ts=false
 uts:P.underlying ts=some (.slice te)
 hte:okT P te=true
 ate:aggT P te=true
 zte:szT P te=2
 zero:zeroOK P te=true
 fa:fieldOf P te 0=some (0,ta)
 fb:fieldOf P te 1=some (1,tb)
 za:szT P ta≠0
 zb:szT P tb≠0
 oa:okT P ta=true
 ob:okT P tb=true
 ga:aggT P ta=false
 gb:aggT P tb=false
 nt:19≤fn.ntmps
 res:fn.results = #[]
 np:fn.name ≠ "runtime.NumGoroutine"
 body:∃(r0 r1 r2 r3 r4 b0 b1:Nat) (o0 o1 o2 p0 q1 q2 q3 q5 u0 u1 u2 u3 u4 u5 u6 s0 s1:Oper) (t1 t2 t3:TypeId) (c1 c3:Call),
  fn.body=some (.seq (.region r0 #[o0,o1,o2] false) (.block b0 (.loop (.seq (.region r1 #[p0] false) (.seq (.cond (.tmp 8) .skip (.exit b0))
   (.seq (.block b1 (.seq (.region r2 #[q1,q2,q3,q5] false) (.seq (.region r3 #[u0,u1,u2,u3,u4,u5,u6] false) (.cond (.tmp 17) .ret .skip)))) (.region r4 #[s0,s1] false))))))) ∧
  IsO o0 (.load ts (.tmp 1)) 5∧IsO o1 (.call c1) 6∧IsO o2 (.move (.const (.int .i64 0))) 7 ∧
  (c1.callee = .builtin .len∧c1.args = #[.tmp 5]∧c1.argTypes = #[ts]) ∧
  IsO p0 (.binOp .lss ti (.tmp 7) (.tmp 6) t1) 8 ∧
  IsO q1 (.indexAddr ts (.tmp 5) (.tmp 7)) 9∧IsO q2 (.load te (.tmp 9)) 10∧IsO q3 (.alloc te) 4∧(q5.op = .store te (.tmp 4) (.tmp 10)∧q5.dst=none∧q5.guard=none) ∧
  IsO u0 (.move (.tmp 0)) 11∧IsO u1 (.fieldAddr te (.tmp 4) 0) 12∧IsO u2 (.load ta (.tmp 12)) 13∧IsO u3 (.fieldAddr te (.tmp 4) 1) 14∧IsO u4 (.load tb (.tmp 14)) 15∧IsO u5 (.call c3) 16∧IsO u6 (.unOp .not t2 (.tmp 16)) 17 ∧
  (c3.callee = .value (.tmp 11)∧c3.args = #[.tmp 13, .tmp 15]) ∧
  IsO s0 (.binOp .add ti (.tmp 7) (.const (.int .i64 1)) t3) 18∧IsO s1 (.move (.tmp 18)) 7
theorem led_iter (hf:P.funcs[f]? = some fn) (hc:LedCode P fn ti ts te ta tb) {xs:List (List AV)} : IterC P f [.Q [.L 2 xs]] xs:=by
 intro g w vals hv l J Jx hlat hy gj0 hJ0
 simp only [VT] at hv
 obtain ⟨v2,vs2,rfl,hv2,rfl⟩:=hv
 simp only [V,VC] at hv2
 obtain ⟨b2,o2',rfl,⟨hst2,⟨u2',hcell2,⟨ad,len,cap,rfl,rfl,⟨hlc,hl63⟩,hrows⟩,_⟩,_⟩,_⟩:=hv2
 obtain ⟨r0,r1,r2,r3,r4,k0,k1,o0,o1,o2,p0,q1,q2,q3,q5,u0,u1,u2,u3,u4,u5,u6,s0,s1,t1,t2,t3,c1,c3,hb,io0,io1,io2,hc1,ip0,iq1,iq2,iq3,⟨iq5,iq5',iq5''⟩,iu0,iu1,iu2,iu3,iu4,iu5,iu6,hc3,is0,is1⟩:=hc.body
 have hz0:szT P te≠0:=by rw [hc.zte];omega
 refine callsIn_wide.1 ((?_:CallsIn (FR none) 0 P f _ w _))
 refine callsIn_of_wp (F:=FR none) (n:=0) hf hb trivial ?_
 let At:=fun (a:Act)=>19≤a.tmps.size∧a.defers=[]∧a.eval (.tmp 0) = .func (.yield l) #[] #[]∧a.eval (.tmp 5) = .slice ad xs.length cap∧a.eval (.tmp 6) = .int .i64 xs.length
 obtain ⟨a0,ha0⟩:∃a0:Act,a0 = { tmps := #[Value.func (.yield l) #[] #[]]++[Value.pointer (some ⟨b2,o2',none⟩)].toArray++Array.replicate (fn.ntmps-(#[Value.func (.yield l) #[] #[]]++[Value.pointer (some ⟨b2,o2',none⟩)].toArray).size) undef,defers:=[] } := ⟨_,rfl⟩
 have hA0:19≤a0.tmps.size∧a0.defers=[]∧a0.eval (.tmp 0) = .func (.yield l) #[] #[]∧a0.eval (.tmp 1) = .pointer (some ⟨b2,o2',none⟩):=by
  have hn:=hc.nt
  subst ha0
  refine ⟨by simp;omega,rfl,?_,?_⟩<;>(simp only [Act.eval,Array.getD_eq_getD_getElem?];rw [Array.getElem?_append_left (by simp)];rfl)
 rw [←ha0]
 clear ha0
 have done:∀a W,a.defers=[]→((∃g2,J xs.length g2 W)∨Jx W)→bodyPost P fn (fun e W'=>(∃v,e = .returned v)∧((∃g2,J xs.length g2 W')∨Jx W')) .ret a W:=by
  intro a W hd h
  refine ⟨hd, .tuple #[],?_,⟨_,rfl⟩,h⟩
  rw [results_eq,hc.res]
  simp
 obtain ⟨h01,h02,h03,h05⟩:=hA0
 refine wpIn_seq (wpIn_region ?_)
 show wpOpsIn (FR none) 0 P _ _ [0,1,2] a0 w
 refine ops_vw (o:=o0) (.slice ad xs.length cap) h01 rfl io0 (by omega) (by simp) (run_ld io0.1 h05 (run_loadVar_one hc.hts hc.ats hcell2)) fun a1 z1 f1 e1 => ?_
 refine ops_vw (o:=o1) (.int .i64 xs.length) z1 rfl io1 (by omega) (by simp) (run_lenS (ad:=ad) (len:=xs.length) (cap:=cap) io1.1 hc1.1 hc1.2.1 hc1.2.2 hc.uts (by simp [e1])) fun a2 z2 f2 e2 => ?_
 refine ops_vw (o:=o2) (.int .i64 0) z2 rfl io2 (by omega) (by simp) (run_mv (.inl io2.1) rfl) fun aL z4 f4 e4 => ?_
 have hAL:At aL∧aL.eval (.tmp 7) = .int .i64 ((0:Nat):Int):=by
  refine ⟨⟨z4,by rw [f4,f2,f1,h02],?_,?_,?_⟩,?_⟩<;>simp [e1,e2,e4,h03]
 clear e1 e2 e4 f1 f2 f4 z1 z2 z4
 refine wpIn_block (wpIn_loop_rounds (xs.length+1) ?_)
 have round:∀(j:Nat) (a:Act) (gj:Gh) (W:World) (K:Act→World→Prop),j≤xs.length→At a→a.eval (.tmp 7) = .int .i64 (j:Int)→J j gj W →
   (j<xs.length→∀a gj W,At a→a.eval (.tmp 7) = .int .i64 ((j+1:Nat):Int)→J (j+1) gj W→K a W) →
   (Code.seq (.region r1 #[p0] false) (.seq (.cond (.tmp 8) .skip (.exit k0))
    (.seq (.block k1 (.seq (.region r2 #[q1,q2,q3,q5] false) (.seq (.region r3 #[u0,u1,u2,u3,u4,u5,u6] false) (.cond (.tmp 17) .ret .skip)))) (.region r4 #[s0,s1] false)))).wpIn (FR none) 0 P
    (Exit.then K (Exit.inBlock k0 (bodyPost P fn (fun e W'=>(∃v,e = .returned v)∧((∃g2,J xs.length g2 W')∨Jx W'))))) a W:=by
  intro j a gj W K hj ⟨a1,a2,a3,a4,a5⟩ a6 hJ hnext
  refine wpIn_seq (wpIn_region ?_)
  show wpOpsIn (FR none) 0 P _ _ [0] a W
  refine ops_vw (o:=p0) (.bool (decide ((j:Int)<(xs.length:Int)))) a1 rfl ip0 (by omega) (by simp) (run_int2 (m:=(j:Int)) (n:=(xs.length:Int)) ip0.1 (.inr (.inr rfl)) a6 a5) fun aB z4 f4 e4 => ?_
  have hAB:At aB∧aB.eval (.tmp 7) = .int .i64 (j:Int)∧aB.eval (.tmp 8) = .bool (decide ((j:Int)<(xs.length:Int))):=by
   refine ⟨⟨z4,by rw [f4,a2],?_,?_,?_⟩,?_,?_⟩<;>simp [e4,a3,a4,a5,a6]
  clear e4 f4 z4
  obtain ⟨⟨b1',b2',b3,b4,b5⟩,b6,b7⟩:=hAB
  by_cases hlt:j<xs.length
  ·refine wpIn_seq (wpIn_cond_true (by rw [b7];simp;omega) (wpIn_skip ?_))
   have hrow:=hrows
   rcases hrow with rfl | ⟨bb,oo,rfl,hrow⟩
   ·simp at hlt
   have hrw:=VR_get j xs oo (by rw [←hc.zte] at hrow;exact hrow) hlt
   obtain ⟨cv,hcv1,hcv2,hcv3⟩:=VC_vals _ _ hrw.1
   obtain ⟨hlW,hwfW,hgrow⟩:=hlat j gj W hJ
   have hcvW:∀i v,cv[i]? = some v→W.cell? ⟨bb,oo+j*szT P te+i,none⟩=some v:=by
    intro i v hi
    have hst':g.st bb (oo+j*szT P te+i):=by
     have hil:i<(xs.getD j []).length:=by rw [←hcv1];exact (List.getElem?_eq_some_iff.1 hi).1
     exact VC_st _ _ hrw.1 i hil
    exact (hlW.cell _ _ hst').trans (hcv2 i v hi)
   have hcl:cv.length=szT P te:=hcv1.trans hrw.2
   have h1c:∀u∈cv,u.oneCell'=true:=VS_one _ _ hcv3
   obtain ⟨ti',z,hi,hz',hzl,hzl2,_⟩:=zeroOK_inv (g:=gj) (w:=W) hc.zero
   have hzsz:z.cells.size=szT P te:=by
    rw [hzl,hzl2]
    simp [szT,hi]
   refine wpIn_seq (wpIn_block (wpIn_seq (wpIn_region ?_)))
   show wpOpsIn (FR none) 0 P _ _ [0,1,2,3] aB W
   refine ops_vw (o:=q1) (.pointer (some ⟨bb,oo+j*szT P te,none⟩)) b1' rfl iq1 (by omega) (by simp) (run_idx (b:=bb) (o':=oo) (len:=xs.length) (cap:=cap) (n:=j) iq1.1 hc.uts hz0 (by simp [b4]) (by simp [b6]) hlt) fun x2 z2 f2 e2 => ?_
   refine ops_vw (o:=q2) (.agg cv.toArray) z2 rfl iq2 (by omega) (by simp) (run_ld (b:=bb) (off:=oo+j*szT P te) iq2.1 (by simp [e2]) (run_loadVar_agg hc.hte hc.ate hcl hcvW)) fun x3 z3 f3 e3 => ?_
   refine ops_vw (o:=q3) (.pointer (some ⟨W.heap.size,0,none⟩)) z3 rfl iq3 (by omega) (by simp) (w':=World.push' W (.cells z.cells te (0,0))) (by simp [execOp,iq3.1,Instr.alloc,run_zero hi hz',newVar,run_newRow]) fun x5 z5 f5 e5 => ?_
   obtain ⟨W2,hW2⟩:∃W2,W2=(World.push' W (.cells z.cells te (0,0))).setRow W.heap.size (setV z.cells.toList 0 cv).toArray:=⟨_,rfl⟩
   have hnew:=push_new W (.cells z.cells te (0,0))
   have hst5:(execOp x5.eval q5).run P (World.push' W (.cells z.cells te (0,0))) = .ok .skip W2:=by
    have:=run_storeVar (C := { P:=P,glob:=fun _=>none,pure:=fun _=>false,fresh:=fun _=>none,eats:=fun _=>none,bound:=0,iter:=fun _ _=>none }) (t:=te) (b:=W.heap.size) (off:=0) (v := .agg cv.toArray) (us:=cv) hc.hte hnew rfl hcl (by omega) h1c
    have e14:x5.eval (.tmp 4) = .pointer (some ⟨W.heap.size,0,none⟩):=by simp [e5]
    have e111:x5.eval (.tmp 10) = .agg cv.toArray:=by simp [e5,e3]
    rw [hW2]
    simp [execOp,iq5,Instr.storeAt,Instr.sureAddr,e14,e111,this]
   refine ops_sk (o:=q5) rfl ⟨iq5,iq5',iq5''⟩ (by simp) hst5 ?_
   have hrow2:W2.heap[W.heap.size]? = some (.cells cv.toArray te (0,0)):=by
    rw [hW2,setRow_heap _ _ _ _ _ _ hnew]
    have:(setV z.cells.toList 0 cv)=cv:=by
     apply List.ext_getElem?
     intro i
     rw [setV_get _ _ _ _ (by simp;omega)]
     by_cases hi:i<cv.length
     ·rw [if_pos (by omega)];simp
     ·rw [if_neg (by omega),List.getElem?_eq_none (by simp;omega),List.getElem?_eq_none (by omega)]
    rw [this]
   have hold2:∀b,b<W.heap.size→W2.heap[b]? = W.heap[b]? := by
    intro b hb
    rw [hW2,setRow_other _ _ _ _ (by omega)]
    exact push_get W _ b hb
   have hsz2:W.heap.size+1=W2.heap.size:=by
    rw [hW2];simp [World.push',World.setRow]
   have hch2:Chg (fun _=>False) gj W (gj.only W.heap.size) W2:=grown_chg hwfW (by omega) hold2 (by rw [hW2];rfl) (by rw [hW2];rfl) (by rw [hW2];rfl)
   have hwf2:∀b i,(gj.only W.heap.size).st b i→b<W2.heap.size:=fun b i h=>by have:=hwfW b i h;omega
   have hJ2:=hgrow _ _ hch2 rfl hwf2
   have hAX:At x5∧x5.eval (.tmp 7) = .int .i64 (j:Int)∧x5.eval (.tmp 4) = .pointer (some ⟨W.heap.size,0,none⟩):=by
    refine ⟨⟨z5,by rw [f5,f3,f2,b2'],?_,?_,?_⟩,?_,?_⟩<;>simp [e2,e3,e5,b3,b4,b5,b6]
   clear e2 e3 e5 f2 f3 f5 z2 z3 z5
   obtain ⟨⟨m1,m2,m3,m4,m5⟩,m6,m8⟩:=hAX
   have hlW2:Later g w (gj.only W.heap.size) W2:=hlW.trans hch2.later
   have hx2:(xs.getD j []).length=2:=by rw [hrw.2,hc.zte]
   obtain ⟨xa,xb,hxab⟩:∃xa xb,xs.getD j []=[xa,xb]:=by
    cases h0:xs.getD j [] with
    | nil=>rw [h0] at hx2;cases hx2
    | cons p l=>
     cases l with
     | nil=>rw [h0] at hx2;cases hx2
     | cons q l=>
      cases l with
      | nil=>exact ⟨p,q,rfl⟩
      | cons _ _=>rw [h0] at hx2;simp at hx2
   have hvs2:=VS.later hlW2 _ _ hcv3
   rw [hxab] at hvs2
   simp only [VS] at hvs2
   obtain ⟨va,_,hcva,hva,_,vb,_,rfl,hvb,_,rfl⟩:=hvs2
   have hcell:∀i v,cv[i]? = some v→W2.cell? ⟨W.heap.size,i,none⟩=some v:=fun i v hi=>by
    simp only [World.cell?,hrow2]
    simpa using hi
   refine wpIn_seq (wpIn_region ?_)
   show wpOpsIn (FR none) 0 P _ _ [0,1,2,3,4,5,6] x5 W2
   refine ops_vw (o:=u0) (.func (.yield l) #[] #[]) m1 rfl iu0 (by omega) (by simp) (run_mv (.inl iu0.1) m3) fun y1 z1 f1 e1 => ?_
   refine ops_vw (o:=u1) (.pointer (some ⟨W.heap.size,0+0,none⟩)) z1 rfl iu1 (by omega) (by simp) (run_fieldA iu1.1 hc.fa hc.za (by simp [e1,m8])) fun y2 z2 f2 e2 => ?_
   refine ops_vw (o:=u2) va z2 rfl iu2 (by omega) (by simp) (run_ld (b:=W.heap.size) (off:=0+0) iu2.1 (by simp [e2]) (run_loadVar_one hc.oa hc.ga (hcell 0 va (by rw [hcva];rfl)))) fun y3 z3 f3 e3 => ?_
   refine ops_vw (o:=u3) (.pointer (some ⟨W.heap.size,0+1,none⟩)) z3 rfl iu3 (by omega) (by simp) (run_fieldA iu3.1 hc.fb hc.zb (by simp [e3,e2,e1,m8])) fun y5 z5 f5 e5 => ?_
   refine ops_vw (o:=u4) vb z5 rfl iu4 (by omega) (by simp) (run_ld (b:=W.heap.size) (off:=0+1) iu4.1 (by simp [e5]) (run_loadVar_one hc.ob hc.gb (hcell 1 vb (by rw [hcva];rfl)))) fun y4 z4 f4 e4 => ?_
   have hAY:At y4∧y4.eval (.tmp 7) = .int .i64 (j:Int)∧y4.eval (.tmp 11) = .func (.yield l) #[] #[]∧y4.eval (.tmp 13)=va∧y4.eval (.tmp 15)=vb:=by
    refine ⟨⟨z4,by rw [f4,f5,f3,f2,f1,m2],?_,?_,?_⟩,?_,?_,?_,?_⟩<;>simp [e1,e2,e3,e4,e5,m3,m4,m5,m6]
   clear e1 e2 e3 e4 e5 f1 f2 f3 f4 f5 z1 z2 z3 z4 z5
   obtain ⟨⟨d1,d2,d3,d4,d5⟩,d6,d7,d8,d9⟩:=hAY
   obtain ⟨fn2,tm2,as2,bo2,hyr,hround⟩:=hy j (xs.getD j []) [va,vb] _ W2 (by rw [List.getD_eq_getElem?_getD,List.getElem?_eq_getElem hlt];rfl) hJ2 (by
    rw [hxab]
    simp only [VT]
    exact ⟨_,_,rfl,hva,_,_,rfl,hvb,rfl⟩)
   have hrun:(execOp y4.eval u5).run P W2 = .ok (.round l fn2 tm2 as2 bo2) W2:=by
    have e : #[y4.eval (.tmp 13),y4.eval (.tmp 15)]=[va,vb].toArray:=by rw [d8,d9]
    simp only [execOp,iu5.1,resolve,hc3.1,hc3.2]
    simpa [d7,d8,d9,Deferred.ofValue,invoke] using hyr
   refine ops_round (o:=u5) rfl iu5 (by simp) hrun hround ?_
   rintro e W' (⟨rfl,gj',hJ'⟩ | ⟨rfl,hJx⟩)
   ·refine ⟨_,rfl,?_⟩
    have e1:∀t,(y4.put (some 16) (.bool true)).eval (.tmp t)=if t=16 then .bool true else y4.eval (.tmp t):=fun t=>ev_put (by omega)
    refine ops_vw (o:=u6) (.bool false) (by rw [sz_put];exact d1) rfl iu6 (by omega) (by simp) (run_not (b:=true) iu6.1 (by simp [e1])) fun x2 z2 f2 e2 => ?_
    refine wpIn_cond_false (by simp [e2]) (wpIn_skip ?_)
    show Code.wpIn (FR none) 0 P (.region r4 #[s0,s1] false) _ x2 W'
    refine wpIn_region ?_
    show wpOpsIn (FR none) 0 P _ _ [0,1] x2 W'
    have hw1:IntKind.i64.wrap ((j:Int)+1)=((j+1:Nat):Int):=by rw [IntKind.wrap_i64];omega
    refine ops_vw (o:=s0) (.int .i64 ((j+1:Nat):Int)) z2 rfl is0 (by omega) (by simp) (by rw [←hw1];exact run_int2 (m:=(j:Int)) (n:=1) is0.1 (.inl rfl) (by simp [e2,e1,d6]) rfl) fun x4 z4 f4 e4 => ?_
    refine ops_vw (o:=s1) (.int .i64 ((j+1:Nat):Int)) z4 rfl is1 (by omega) (by simp) (run_mv (.inl is1.1) (by simp [e4])) fun x5 z5 f5 e5 => ?_
    refine hnext hlt x5 gj' W' ⟨z5,?_,?_,?_,?_⟩ ?_ hJ'
    ·rw [f5,f4,f2];exact d2
    ·simp [e5,e4,e2,e1,d3]
    ·simp [e5,e4,e2,e1,d4]
    ·simp [e5,e4,e2,e1,d5]
    ·simp [e5]
   ·refine ⟨_,rfl,?_⟩
    have e1:∀t,(y4.put (some 16) (.bool false)).eval (.tmp t)=if t=16 then .bool false else y4.eval (.tmp t):=fun t=>ev_put (by omega)
    refine ops_vw (o:=u6) (.bool true) (by rw [sz_put];exact d1) rfl iu6 (by omega) (by simp) (run_not (b:=false) iu6.1 (by simp [e1])) fun x2 z2 f2 e2 => ?_
    refine wpIn_cond_true (by simp [e2]) (wpIn_ret ?_)
    exact done x2 W' (by rw [f2];exact d2) (.inr hJx)
  ·refine wpIn_seq (wpIn_cond_false (by rw [b7];simp;omega) (wpIn_exit ?_))
   show Exit.inBlock k0 _ (.exit k0) aB W
   simp only [Exit.inBlock,if_true]
   refine done aB W b2' (.inl ⟨gj,?_⟩)
   have:j=xs.length:=by omega
   rw [←this]
   exact hJ
 have key:∀(m j:Nat) (a:Act) (gj:Gh) (W:World),xs.length<j+(m+1)→j≤xs.length→At a→a.eval (.tmp 7) = .int .i64 (j:Int)→J j gj W →
   Code.roundsIn (FR none) 0 P (.seq (.region r1 #[p0] false) (.seq (.cond (.tmp 8) .skip (.exit k0))
    (.seq (.block k1 (.seq (.region r2 #[q1,q2,q3,q5] false) (.seq (.region r3 #[u0,u1,u2,u3,u4,u5,u6] false) (.cond (.tmp 17) .ret .skip)))) (.region r4 #[s0,s1] false))))
    (Exit.inBlock k0 (bodyPost P fn (fun e W'=>(∃v,e = .returned v)∧((∃g2,J xs.length g2 W')∨Jx W')))) (m+1) a W:=by
  intro m
  induction m with
  | zero=>
   intro j a gj W hm hj hA h4 hJ
   rw [roundsIn_succ]
   refine round j a gj W _ hj hA h4 hJ fun hlt => ?_
   omega
  | succ m ih=>
   intro j a gj W hm hj hA h4 hJ
   rw [roundsIn_succ]
   refine round j a gj W _ hj hA h4 hJ fun hlt a' gj' W' hA' h4' hJ'=>ih (j+1) a' gj' W' (by omega) ?_ hA' h4' hJ'
   omega
 exact key xs.length 0 aL gj0 w (by omega) (Nat.zero_le _) hAL.1 hAL.2 hJ0
def ledI:List AV→Option (List (List AV))
 | [.Q [.L k xs]]=>if k=2 then some xs else none
 | _=>none
theorem ledI_ok (hf:P.funcs[f]? = some fn) (hc:LedCode P fn ti ts te ta tb) (cs:List AV) (xs:List (List AV)) (h:ledI cs=some xs):Callable P f∧IterC P f cs xs:=by
 refine ⟨⟨fn,hf,?_,hc.np⟩,?_⟩
 ·obtain ⟨r0,r1,r2,r3,r4,k0,k1,o0,o1,o2,p0,q1,q2,q3,q5,u0,u1,u2,u3,u4,u5,u6,s0,s1,t1,t2,t3,c1,c3,hb,_⟩:=hc.body
  rw [hb];rfl
 ·unfold ledI at h
  split at h
  ·rename_i k xs'
   split at h
   ·rename_i hk
    subst hk
    cases h
    exact led_iter hf hc
   ·cases h
  ·cases h
end
end Go.Vm
