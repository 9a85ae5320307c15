/- Part of a proof: VmM, VmC, VmSl, Vm29, Vm30, Vm31, Vm32. -/
import Derived.Test.YtmcocdbkonefjaaGreatDoorVC
import Derived.MapKept
import Derived.Laws.CopyRow
import Derived.OrdersIn
set_option linter.unusedSimpArgs false
set_option linter.unusedVariables false
set_option linter.unusedSectionVars false
namespace Go.Vm
open Go
section
variable {C:Cx} {N:Ann} {nt:NT} {g0 g:Gh} {w0 w:World} {f:Fr} {s:St} {a:Act} {o:Oper}
variable {K:Upd→Res} {R:Res} {G:FuncId→List AV→List HO→Res}
theorem OpS.makeMap (r:Rel C nt g0 w0 g w f s a) (hd:∀x,o.dst=some x→nt.ok x) (hR:R ≠ .stuck) {t:TypeId} {rs:Option Operand} (ho:o.op = .makeMap t rs)
  (h:opH C N G o s K R):OpS C nt g0 w0 s a w o K R:=by
 simp only [opH,opF,ho] at h
 split at h
 ·obtain ⟨g',c1,s1,v1⟩:=r.core.newMap
  refine .to r hd h ?_ rfl c1 s1 v1
  simp [execOp,ho,Instr.makeMap,Go.newObj,Sem.run,World.push']
 ·exact absurd h.symm hR
theorem findNow_of {k:IntKind} {n:Int} : ∀(es:List (AV×AV)) (ms:List MapEntry) (i:Nat) (r:Option AV),ER g w es ms→findI k n es=some r →
  (r=none∧Instr.findNow (.int k) (.int k n) ms i=some none) ∨
  ∃v j e,r=some v∧Instr.findNow (.int k) (.int k n) ms i=some (some (i+j,e.val))∧ms[j]? = some e∧e.key = .int k n∧V g w v e.val
 | [],_,i,r,h,hf=>by
  rw [show _=[] from h]
  simp only [findI,Option.some.injEq] at hf
  exact .inl ⟨hf.symm,rfl⟩
 | (a,v)::es,_,i,r,⟨e,ms,rfl,h1,h2,h3⟩,hf=>by
  cases a with
  | I k' m=>
   have hk:e.key = .int k' m:=(V_I' h1).1
   simp only [findI] at hf
   split at hf
   ·rename_i hkk
    subst hkk
    split at hf
    ·rename_i hmn
     subst hmn
     simp only [Option.some.injEq] at hf
     refine .inr ⟨v,0,e,hf.symm,?_,by simp,hk,h2⟩
     simp [Instr.findNow,Instr.sameNow,hk]
    ·rename_i hmn
     have hb:(n == m)=false:=by
      rw [beq_eq_false_iff_ne];exact fun x=>hmn x.symm
     rcases findNow_of es ms (i+1) r h3 hf with ⟨q1,q2⟩ | ⟨v',j,e',q1,q2,q3,q4,q5⟩
     ·refine .inl ⟨q1,?_⟩
      simp only [Instr.findNow,Instr.sameNow,hk,if_true,hb]
      exact q2
     ·refine .inr ⟨v',j+1,e',q1,?_,by simpa using q3,q4,q5⟩
      simp only [Instr.findNow,Instr.sameNow,hk,if_true,hb]
      rw [q2,show i+1+j=i+(j+1) by omega]
   ·cases hf
  | _=>simp [findI] at hf
theorem zeroK_inv {t:TypeId} {K:AV→Res} (h:zeroK (stdAlg C.pure G) C t K=R) (hR:R ≠ .stuck):∃z v,(∀w,(zeroValue t).run C.P w = .ok z w)∧K v=R∧V g w v z:=by
 unfold zeroK at h
 split at h
 ·rename_i hz
  obtain ⟨i,z,hi,hzz,h1,h2,h3⟩:=zeroOK_inv (g:=g) (w:=w) hz
  refine ⟨z,?_⟩
  split at h
  ·rename_i hag
   refine ⟨_,fun w=>run_zero hi hzz w,h,?_⟩
   have:∃cs,z = .agg cs:=by
    unfold zAgg at hag
    rw [hi] at hag
    simp only [hzz] at hag
    split at hag
    ·rename_i e;cases e;exact ⟨_,rfl⟩
    ·cases hag
   obtain ⟨cs,rfl⟩:=this
   simp only [V]
   refine ⟨cs.toList,by simp,?_⟩
   exact zero_VS _ _ (by simpa [Value.cells] using h1) fun j x hx=>by
    obtain ⟨u,hu,h0⟩:=h3 j x hx
    exact ⟨u,by simpa [Value.cells] using hu,h0⟩
  ·rename_i av hag hzv
   refine ⟨_,fun w=>run_zero hi hzz w,h,?_⟩
   have hcs:z.cells = #[z]:=by
    cases z with
    | agg cs=>
     unfold zAgg at hag
     rw [hi] at hag
     simp only [hzz] at hag
     cases hag
    | _=>rfl
   have hl:(zHV C.P 20 t).map HV.toAV=[av]:=hzv
   match hx:zHV C.P 20 t,hl with
   | [x],hl=>
    simp only [List.map_cons,List.map_nil,List.cons.injEq,and_true] at hl
    obtain ⟨u,hu,h0⟩:=h3 0 x (by rw [hx];rfl)
    rw [hcs] at hu
    simp only [List.getElem?_toArray,List.getElem?_cons_zero,Option.some.injEq] at hu
    subst hu
    rw [←hl]
    have:=zero_VS (g:=g) (w:=w) [x] [z] rfl fun j y hy=>by
     cases j with
     | zero=>simp only [List.getElem?_cons_zero,Option.some.injEq] at hy;subst hy;exact ⟨z,rfl,h0⟩
     | succ j=>simp at hy
    simp only [List.map_cons,List.map_nil,VS,List.cons.injEq] at this
    obtain ⟨u',r',⟨e1,_⟩,hv,_⟩:=this
    rw [e1];exact hv
  ·exact absurd h.symm hR
 ·exact absurd h.symm hR
theorem lookup_run {P:Program} {w:World} {t kt et:TypeId} {k:IntKind} {n:Int} {x z:Value} {b ok:Bool} {mes:Array MapEntry} {q:Option (Nat×Value)} (hu:P.underlying t=some (.map kt et)) (hk:P.underlying kt=some (.int k))
  (hx:(x = .map none∧mes = #[])∨∃r c,x = .map (some r)∧w.heap[r]? = some (.map mes c)) (hf:Instr.findNow (.int k) (.int k n) mes.toList 0=some q)
  (hz:(q=none∧b=false∧(zeroValue et).run P w = .ok z w)∨(∃j,q=some (j,z)∧b=true)) :
  (Instr.lookup t x (.int k n) ok).run P w = .ok (if ok then .tuple #[z, .bool b] else z) w:=by
 have hck:(Instr.checkKey mes.isEmpty 10000 kt (.int k n)).run P w = .ok () w:=MapKept.run_checkKey hk (by simp [MapKept.IsKey]) _ 9999
 have hfk:=MapKept.run_findKey (w:=w) hk hf
 rcases hx with ⟨rfl,rfl⟩ | ⟨r,c,rfl,hr⟩
 ·have hck':(Instr.checkKey true 10000 kt (.int k n)).run P w = .ok () w:=hck
  have hfk':(Instr.findKey kt (.int k n) []).run P w = .ok q w:=hfk
  rcases hz with ⟨rfl,rfl,hz⟩ | ⟨j,rfl,rfl⟩
  ·simp [Instr.lookup,run_underlying hu,hck',hfk',hz]
  ·simp [Instr.lookup,run_underlying hu,hck',hfk']
 ·rcases hz with ⟨rfl,rfl,hz⟩ | ⟨j,rfl,rfl⟩
  ·simp [Instr.lookup,run_underlying hu,getMap_run hr,hck,hfk,hz]
  ·simp [Instr.lookup,run_underlying hu,getMap_run hr,hck,hfk]
theorem fndS_inv {ks:List FK} {cs:List AV} {es:List (AV×AV)} {K:Option AV→Res} {pu:FuncId→Bool} (h:(stdAlg pu G).fndS ks cs es K=R) (hR:R ≠ .stuck):∃r,findS ks cs es=some r∧K r=R:=by
 have h:fndS ks cs es K=R:=h
 unfold fndS at h
 split at h
 ·rename_i r e;exact ⟨r,e,h⟩
 ·exact absurd h.symm hR
theorem findKey_S {P:Program} {kt:TypeId} {key:Value} {es:List MapEntry} {q:Option (Nat×Value)} (hs:simpleK P kt=true) (h:(Instr.findAsking kt key es 0).run P w = .ok q w):(Instr.findKey kt key es).run P w = .ok q w:=by
 unfold simpleK at hs
 split at hs
 ·rename_i fs e
  have hu:=und_some e (by simp)
  cases es with
  | nil=>
   simp only [Instr.findAsking,Sem.run_pure] at h
   simp [Instr.findKey,run_underlying hu,Instr.findNow]
   simpa using h
  | cons e es=>simpa [Instr.findKey,run_underlying hu,Instr.findNow,Instr.sameNow] using h
 ·cases hs
theorem lookup_runG {P:Program} {w:World} {t kt et:TypeId} {x key z:Value} {b ok:Bool} {mes:Array MapEntry} {q:Option (Nat×Value)} (hu:P.underlying t=some (.map kt et))
  (hck:∀em,(Instr.checkKey em 10000 kt key).run P w = .ok () w)
  (hx:(x = .map none∧mes = #[])∨∃r c,x = .map (some r)∧w.heap[r]? = some (.map mes c)) (hfk:(Instr.findKey kt key mes.toList).run P w = .ok q w)
  (hz:(q=none∧b=false∧(zeroValue et).run P w = .ok z w)∨(∃j,q=some (j,z)∧b=true)) :
  (Instr.lookup t x key ok).run P w = .ok (if ok then .tuple #[z, .bool b] else z) w:=by
 rcases hx with ⟨rfl,rfl⟩ | ⟨r,c,rfl,hr⟩
 ·have hck':(Instr.checkKey true 10000 kt key).run P w = .ok () w:=hck _
  have hfk':(Instr.findKey kt key []).run P w = .ok q w:=hfk
  rcases hz with ⟨rfl,rfl,hz⟩ | ⟨j,rfl,rfl⟩
  ·simp [Instr.lookup,run_underlying hu,hck',hfk',hz]
  ·simp [Instr.lookup,run_underlying hu,hck',hfk']
 ·rcases hz with ⟨rfl,rfl,hz⟩ | ⟨j,rfl,rfl⟩
  ·simp [Instr.lookup,run_underlying hu,getMap_run hr,hck,hfk,hz]
  ·simp [Instr.lookup,run_underlying hu,getMap_run hr,hck,hfk]
theorem simpleK_agg {P:Program} {kt:TypeId} (h:simpleK P kt=true):aggT P kt=true:=by
 unfold simpleK at h
 unfold aggT
 split at h
 ·rename_i e;rw [e]
 ·cases h
theorem OpS.lookup (r:Rel C nt g0 w0 g w f s a) (hd:∀x,o.dst=some x→nt.ok x) (hR:R ≠ .stuck) {t:TypeId} {x y:Operand} {ok:Bool} (ho:o.op = .lookup t x y ok)
  (h:opH C N G o s K R):OpS C nt g0 w0 s a w o K R:=by
 simp only [opH,opF,ho,Op.operands,List.map_cons,List.map_nil,List.getD_cons_zero,List.getD_cons_succ] at h
 split at h
 ·rename_i kt et m i hu e1 e2
  have hu':=und_some hu (by simp)
  split at h
  ·rename_i fs hk
   split at h
   ·rename_i ks hs hks
    obtain ⟨cs,rfl,lcs,h5⟩:=mA_inv h hR
    obtain ⟨us,hy,hus⟩:=V_A' (r.evq e2)
    have hag:=simpleK_agg hs
    have hck:∀em,(Instr.checkKey em 10000 kt (.agg us.toArray)).run C.P w = .ok () w:=fun em=>check_simple hs em 9997 us (by rw [VS.length _ _ hus,lcs])
    have fin:∀(es:List (AV×AV)) (mes:Array MapEntry),ER g w es mes.toList→((a.eval x = .map none∧mes = #[])∨∃r c,a.eval x = .map (some r)∧w.heap[r]? = some (.map mes c)) →
      ((
       stdAlg C.pure G).fndS ks cs es fun r=>match r with
       | some v=>K { dst:=some (.v (if ok then .T [v, .B true] else v)) }
       | none=>zeroK (stdAlg C.pure G) C et fun v=>K { dst:=some (.v (if ok then .T [v, .B false] else v)) })=R→OpS C nt g0 w0 s a w o K R:=by
     intro es mes her hx h
     obtain ⟨r',hf,h6⟩:=fndS_inv h hR
     have done:∀(v:AV) (z:Value) (b:Bool),(Instr.lookup t (a.eval x) (.agg us.toArray) ok).run C.P w = .ok (if ok then .tuple #[z, .bool b] else z) w→V g w v z→K { dst:=some (.v (if ok then .T [v, .B b] else v)) } = R→OpS C nt g0 w0 s a w o K R:=by
      intro v z b hz hv hk9
      refine .val r hd hk9 (u:=if ok then .tuple #[z, .bool b] else z) ?_ ?_
      ·simp only [execOp,ho,hy,Sem.run_bind,hz,Result.andThen_ok,Sem.run_pure,Sem.run_map]
      ·cases ok with
       | true=>
        simp only [if_true,V]
        exact ⟨[z, .bool b],rfl,z,_,rfl,hv, .bool b,[],rfl,V_B g w b,rfl⟩
       | false=>exact hv
     rcases findAsking_of hks hag hus es mes.toList 0 r' her hf with ⟨rfl,q2⟩ | ⟨v,j,e,rfl,q2,q3,q4,q5⟩
     ·obtain ⟨z,v,hz,hk9,hv⟩:=zeroK_inv (g:=g) (w:=w) h6 hR
      exact done v z false (lookup_runG hu' hck hx (findKey_S hs q2) (.inl ⟨rfl,rfl,hz w⟩)) hv hk9
     ·exact done v e.val true (lookup_runG hu' hck hx (findKey_S hs q2) (.inr ⟨_,rfl,rfl⟩)) q5 h6
    rcases mMl_inv' h5 hR with ⟨rfl,h7⟩ | ⟨id,es,rfl,hid,h7⟩
    ·have hx:a.eval x = .map none:=by simpa [V] using r.evv e1
     exact fin [] #[] rfl (.inl ⟨hx,rfl⟩) h7
    ·have hx:id<g.n∧a.eval x = .map (some (g.io id)):=by simpa [V] using r.evv e1
     obtain ⟨mes,clock,q1,q2,_⟩:=(r.core.heap.map id es hid).row
     exact fin (lives es) mes q2 (.inr ⟨_,_,hx.2,q1⟩) h7
   ·exact absurd h.symm hR
  ·rename_i k hk
   have hk':=und_some hk (by simp)
   obtain ⟨n,rfl,h5⟩:=mI_inv h hR
   have hy:=(V_I' (r.evq e2)).1
   have fin:∀(es:List (AV×AV)) (mes:Array MapEntry),ER g w es mes.toList→((a.eval x = .map none∧mes = #[])∨∃r c,a.eval x = .map (some r)∧w.heap[r]? = some (.map mes c)) →
     ((
      stdAlg C.pure G).fnd k n es fun r=>match r with
      | some v=>K { dst:=some (.v (if ok then .T [v, .B true] else v)) }
      | none=>zeroK (stdAlg C.pure G) C et fun v=>K { dst:=some (.v (if ok then .T [v, .B false] else v)) })=R→OpS C nt g0 w0 s a w o K R:=by
    intro es mes her hx h
    obtain ⟨r',hf,h6⟩:=fnd_inv' h hR
    have done:∀(v:AV) (z:Value) (b:Bool),(Instr.lookup t (a.eval x) (.int k n) ok).run C.P w = .ok (if ok then .tuple #[z, .bool b] else z) w→V g w v z→K { dst:=some (.v (if ok then .T [v, .B b] else v)) } = R→OpS C nt g0 w0 s a w o K R:=by
     intro v z b hz hv hk9
     refine .val r hd hk9 (u:=if ok then .tuple #[z, .bool b] else z) ?_ ?_
     ·simp only [execOp,ho,hy,Sem.run_bind,hz,Result.andThen_ok,Sem.run_pure,Sem.run_map]
     ·cases ok with
      | true=>
       simp only [if_true,V]
       exact ⟨[z, .bool b],rfl,z,_,rfl,hv, .bool b,[],rfl,V_B g w b,rfl⟩
      | false=>exact hv
    rcases findNow_of es mes.toList 0 r' her hf with ⟨rfl,q2⟩ | ⟨v,j,e,rfl,q2,q3,q4,q5⟩
    ·obtain ⟨z,v,hz,hk9,hv⟩:=zeroK_inv (g:=g) (w:=w) h6 hR
     exact done v z false (lookup_run hu' hk' hx q2 (.inl ⟨rfl,rfl,hz w⟩)) hv hk9
    ·exact done v e.val true (lookup_run hu' hk' hx q2 (.inr ⟨_,rfl,rfl⟩)) q5 h6
   rcases mMl_inv' h5 hR with ⟨rfl,h7⟩ | ⟨id,es,rfl,hid,h7⟩
   ·have hx:a.eval x = .map none:=by simpa [V] using r.evv e1
    exact fin [] #[] rfl (.inl ⟨hx,rfl⟩) h7
   ·have hx:id<g.n∧a.eval x = .map (some (g.io id)):=by simpa [V] using r.evv e1
    obtain ⟨mes,clock,q1,q2,_⟩:=(r.core.heap.map id es hid).row
    exact fin (lives es) mes q2 (.inr ⟨_,_,hx.2,q1⟩) h7
  ·exact absurd h.symm hR
 ·exact absurd h.symm hR
def World.setObj (w:World) (b:Nat) (o:Obj):World := { w with heap:=w.heap.setIfInBounds b o }
theorem setObj_get (w:World) (b:Nat) (o:Obj) (hb:b<w.heap.size):(World.setObj w b o).heap[b]? = some o:=by
 simp [World.setObj,hb]
theorem setObj_other (w:World) (b:Nat) (o:Obj) (i:Nat) (h:i≠b):(World.setObj w b o).heap[i]? = w.heap[i]? := by
 simp [World.setObj,Array.getElem?_setIfInBounds_ne (fun e=>h e.symm)]
theorem Core.putMap (hc:Core g w f s) {id:Nat} {es es':List (AV×AV)} (hl:s.h[id]? = some (.map es)) {mes':Array MapEntry} {clock':Nat}
  (her:ER g w (lives es') mes'.toList) (hb1:dirty es'=false→Born mes'.toList clock') :
  Core g (World.setObj w (g.io id) (.map mes' clock')) f (s.setO id (.map es'))∧Stp g w f s g (World.setObj w (g.io id) (.map mes' clock')) f (s.setO id (.map es')):=by
 have hb:=hc.heap.map id es hl
 have hid:id<s.h.length:=(List.getElem?_eq_some_iff.1 hl).1
 obtain ⟨mes,clock,h1,_⟩:=hb.row
 have hnst:∀i,¬g.st (g.io id) i:=hb.st
 have hsz:(World.setObj w (g.io id) (.map mes' clock')).heap.size=w.heap.size:=by simp [World.setObj]
 have hcell:∀b i,b≠g.io id→(World.setObj w (g.io id) (.map mes' clock')).cell? ⟨b,i,none⟩=w.cell? ⟨b,i,none⟩:=by
  intro b i hne
  simp only [World.cell?,setObj_other w _ _ _ hne]
 have hch:Chg (· = g.io id) g w g (World.setObj w (g.io id) (.map mes' clock')):=by
  refine ⟨⟨Nat.le_refl _,fun _ _=>rfl,fun _ _ h=>h,fun b i h=>hcell b i fun e=>hnst i (e▸h),fun b i _ h _ ⟨c,t,e⟩=>⟨c,t,(setObj_other w (g.io id) (.map mes' clock') b fun e=>hnst i (e▸h)).trans e⟩⟩,by rw [hsz];exact Nat.le_refl _,fun b _ hn=>setObj_other w _ _ _ hn,fun _ _ _=>rfl,fun _ _ _ _ h=>h,rfl,rfl,rfl⟩
 have hother:∀b,b=g.io id→∀ow:Own,ow ≠ .obj id→g.ow b≠some ow:=by
  intro b e ow hne he
  rw [e,hb.ow] at he
  exact hne (Option.some.inj he).symm
 refine ⟨⟨⟨by simp [St.setO,hc.heap.len],fun j hj=>Nat.lt_of_lt_of_le (hc.heap.lt j hj) hch.size,fun j cs' hj => ?_,fun j es'' hj => ?_,fun j t' n' xs' hj => ?_⟩,fun i=>(hc.loc i).chg hch fun b hb' ow ho=>hother b hb' ow fun e'=>(by rw [e'] at ho;cases ho),fun b i hx=>Nat.lt_of_lt_of_le (hc.wf b i hx) hch.size⟩,
  ⟨hch.mono fun b _ e=>by rw [e,hb.ow];simp,fun i => ?_,fun j => ?_⟩⟩
 ·rw [setO_h,List.getElem?_set] at hj
  by_cases e:id=j
  ·subst e
   rw [if_pos rfl,if_pos hid] at hj
   cases hj
  ·rw [if_neg e] at hj
   exact (hc.heap.obj j cs' hj).chgO hch (fun b hb'=>hother b hb' _ (by simp;exact fun e'=>e e'.symm)) (fun i b hb'=>hother b hb' _ (by simp))
 ·rw [setO_h,List.getElem?_set] at hj
  by_cases e:id=j
  ·subst e
   rw [if_pos rfl,if_pos hid] at hj
   cases hj
   exact ⟨hb.ow,hb.st,mes',clock',setObj_get w _ _ hb.lt,her.later hch.later,hb1⟩
  ·rw [if_neg e] at hj
   exact (hc.heap.map j es'' hj).chgO hch (fun b hb'=>hother b hb' _ (by simp;exact fun e'=>e e'.symm))
 ·rw [setO_h,List.getElem?_set] at hj
  by_cases e:id=j
  ·subst e
   rw [if_pos rfl,if_pos hid] at hj
   cases hj
  ·rw [if_neg e] at hj
   exact (hc.heap.arr j t' n' xs' hj).chgO hch (fun b hb'=>hother b hb' _ (by simp;exact fun e'=>e e'.symm))
 ·refine SiteStp.same rfl rfl rfl fun m cs' hb' j => ?_
  have hli:=hc.loc i
  unfold LR at hli
  rw [hb'] at hli
  refine hcell _ _ ?_
  intro e2
  have:=hli.ow
  rw [e2,hb.ow] at this
  simp at this
 ·by_cases e:id=j
  ·subst e
   exact .inl (by rw [setO_hv_eq];exact Nat.lt_succ_self _)
  ·refine .inr ⟨setO_hv_ne e,fun cs' hj=>⟨by rw [setO_h,List.getElem?_set,if_neg e];exact hj,fun i => ?_⟩⟩
   refine hcell _ _ ?_
   intro e2
   have:=(hc.heap.obj j cs' hj).ow
   rw [e2,hb.ow] at this
   simp only [Option.some.injEq,Own.obj.injEq] at this
   exact e this
theorem putNow_of {k:IntKind} {n:Int} {v:AV} {u:Value} (hk:k.min≤n∧n≤k.max) (hv:V g w v u):∀(es:List (AV×AV)) (ms:List MapEntry) (i:Nat) (r:Option AV),ER g w es ms→findI k n es=some r →
  (Instr.findNow (.int k) (.int k n) ms i=some none∧∀b,ER g w (putM k n v es) (ms++[{ key := .int k n,val:=u,born:=b }])) ∨
  ∃j e,Instr.findNow (.int k) (.int k n) ms i=some (some (i+j,e.val))∧ms[j]? = some e∧e.key = .int k n∧ER g w (putM k n v es) (ms.modify j fun x => { x with key := .int k n,val:=u })
 | [],_,i,r,h,hf=>by
  rw [show _=[] from h]
  exact .inl ⟨rfl,fun b=>⟨_,[],rfl,V_I g w hk,hv,rfl⟩⟩
 | (a,x)::es,_,i,r,⟨e,ms,rfl,h1,h2,h3⟩,hf=>by
  cases a with
  | I k' m=>
   have hkey:e.key = .int k' m:=(V_I' h1).1
   simp only [findI] at hf
   split at hf
   ·rename_i hkk
    subst hkk
    split at hf
    ·rename_i hmn
     subst hmn
     refine .inr ⟨0,e,?_,by simp,hkey,?_⟩
     ·simp [Instr.findNow,Instr.sameNow,hkey]
     ·simp only [putM,if_true,List.modify_zero_cons]
      exact ⟨_,ms,rfl,V_I g w hk,hv,h3⟩
    ·rename_i hmn
     have hb:(n == m)=false:=by
      rw [beq_eq_false_iff_ne];exact fun x=>hmn x.symm
     simp only [putM,if_neg hmn]
     rcases putNow_of hk hv es ms (i+1) r h3 hf with ⟨q1,q2⟩ | ⟨j,e',q1,q2,q3,q4⟩
     ·refine .inl ⟨?_,fun b=>⟨e,_,rfl,h1,h2,q2 b⟩⟩
      simp only [Instr.findNow,Instr.sameNow,hkey,if_true,hb]
      exact q1
     ·refine .inr ⟨j+1,e',?_,by simpa using q2,q3,?_⟩
      ·simp only [Instr.findNow,Instr.sameNow,hkey,if_true,hb]
       rw [q1,show i+1+j=i+(j+1) by omega]
      ·simp only [List.modify_succ_cons]
       exact ⟨e,_,rfl,h1,h2,q4⟩
   ·cases hf
  | _=>simp [findI] at hf
theorem putS_of {P:Program} {kt:TypeId} {ks:List FK} (hk:flatK P 20 kt=some ks) (hag:aggT P kt=true) {cs:List AV} {us:List Value} (hcs:VS g w cs us) {v:AV} {u:Value} (hv:V g w v u):∀(es:List (AV×AV)) (ms:List MapEntry) (i:Nat) (r:Option AV),ER g w es ms→findS ks cs es=some r →
  ((Instr.findAsking kt (.agg us.toArray) ms i).run P w = .ok none w∧∀b,ER g w (putS ks cs v es) (ms++[{ key := .agg us.toArray,val:=u,born:=b }])) ∨
  ∃j e,(Instr.findAsking kt (.agg us.toArray) ms i).run P w = .ok (some (i+j,e.val)) w∧ms[j]? = some e∧e.key = .agg us.toArray∧(∀n,(us.zip us).all (fun (x,y)=>Instr.sameBits n x y)=true)∧ER g w (putS ks cs v es) (ms.modify j fun x => { x with key := .agg us.toArray,val:=u })
 | [],_,i,r,h,hf=>by
  rw [show _=[] from h]
  exact .inl ⟨rfl,fun b=>⟨_,[],rfl,by simp only [V];exact ⟨us,rfl,hcs⟩,hv,rfl⟩⟩
 | (a,x)::es,_,i,r,⟨e,ms,rfl,h1,h2,h3⟩,hf=>by
  cases a with
  | A cs'=>
   obtain ⟨us',hkey,hv'⟩:=V_A' h1
   have hkey:e.key = .agg us'.toArray:=hkey
   have ok:=flatK_ok (g:=g) 20 kt ks hk
   simp only [findS] at hf
   split at hf
   ·rename_i he
    obtain ⟨q1,q2,q3⟩:=eqCells_val ks cs cs' us us' hcs hv' he
    have hb:(Op.equal kt (.agg us.toArray) (.agg us'.toArray)).run P w = .ok true w:=(ok.2.2.2.2 w _ _ _ _ true hcs hv' he 10000 (by omega)).1 hag
    refine .inr ⟨0,e,?_,by simp,by rw [hkey,q1],q3,?_⟩
    ·simp only [Instr.findAsking,hkey,Sem.run_bind,hb,Result.andThen_ok,if_true,Sem.run_pure,Nat.add_zero]
    ·simp only [putS,he,List.modify_zero_cons]
     exact ⟨_,ms,rfl,by simp only [V];exact ⟨us,rfl,q2▸hcs⟩,hv,h3⟩
   ·rename_i he
    have hb:(Op.equal kt (.agg us.toArray) (.agg us'.toArray)).run P w = .ok false w:=(ok.2.2.2.2 w _ _ _ _ false hcs hv' he 10000 (by omega)).1 hag
    have step:(Instr.findAsking kt (.agg us.toArray) (e::ms) i).run P w=(Instr.findAsking kt (.agg us.toArray) ms (i+1)).run P w:=by
     simp only [Instr.findAsking,hkey,Sem.run_bind,hb,Result.andThen_ok,Bool.false_eq_true,if_false]
    simp only [putS,he]
    rcases putS_of hk hag hcs hv es ms (i+1) r h3 hf with ⟨q1,q2⟩ | ⟨j,e',q1,q2,q3,q4,q5⟩
    ·exact .inl ⟨step.trans q1,fun b=>⟨e,_,rfl,h1,h2,q2 b⟩⟩
    ·refine .inr ⟨j+1,e',by rw [step,q1,show i+1+j=i+(j+1) by omega],by simpa using q2,q3,q4,?_⟩
     simp only [List.modify_succ_cons]
     exact ⟨e,_,rfl,h1,h2,q5⟩
   ·cases hf
  | _=>simp [findS] at hf
theorem modify_born {l:List MapEntry} {j:Nat} {F:MapEntry→MapEntry} (hF:∀x,(F x).born=x.born):(l.modify j F).map (·.born)=l.map (·.born):=by
 induction l generalizing j with
 | nil=>simp
 | cons x l ih=>
  cases j with
  | zero=>simp [hF]
  | succ j=>simp [ih]
theorem dirty_putS {ks:List FK} {cs:List AV} {v:AV} {es:List (AV×AV)} (h:dirty es=false):dirty (putS ks cs v es)=false:=by
 cases es with
 | nil=>rfl
 | cons p es=>
  obtain ⟨a,b⟩:=p
  cases a<;>first | exact h | (simp only [putS];split<;>rfl)
theorem dirty_putM {k:IntKind} {n:Int} {v:AV} {es:List (AV×AV)} (h:dirty es=false):dirty (putM k n v es)=false:=by
 cases es with
 | nil=>rfl
 | cons p es=>
  obtain ⟨a,b⟩:=p
  cases a<;>first | exact h | (simp only [putM];split<;>rfl)
theorem dirty_modify {f:AV→AV} {es:List (AV×AV)} {n:Nat} (h:dirty es=false):dirty (es.modify n fun p=>(p.1,f p.2))=false:=by
 cases es with
 | nil=>cases n<;>rfl
 | cons p es=>
  obtain ⟨a,b⟩:=p
  cases n<;>cases a<;>first | exact h | rfl
theorem OpS.mapUpdate (r:Rel C nt g0 w0 g w f s a) (hd:∀x,o.dst=some x→nt.ok x) (hR:R ≠ .stuck) {t:TypeId} {x y z:Operand} (ho:o.op = .mapUpdate t x y z)
  (h:opH C N G o s K R):OpS C nt g0 w0 s a w o K R:=by
 simp only [opH,opF,ho,Op.operands,List.map_cons,List.map_nil,List.getD_cons_zero,List.getD_cons_succ] at h
 split at h
 ·rename_i kt et m i hu e1 e2
  have hu':=und_some hu (by simp)
  split at h
  ·rename_i fs hk
   split at h
   ·rename_i ks hs hks
    obtain ⟨cs,rfl,lcs,h5⟩:=mA_inv h hR
    obtain ⟨us,hy,hus⟩:=V_A' (r.evq e2)
    have hag:=simpleK_agg hs
    obtain ⟨v,ups,g1,h6,hf,hc,hst,hv⟩:=r.useF h5 hR
    obtain ⟨id,es,rfl,hid,hcl,h7⟩:=mM_inv' h6 hR
    obtain ⟨rr,hfi,h8⟩:=fndS_inv h7 hR
    have hx:id<g.n∧a.eval x = .map (some (g.io id)):=by simpa [V] using r.evv e1
    have hio:g1.io id=g.io id:=hst.chg.later.io id hx.1
    obtain ⟨mes,clock,q1,q2,q3⟩:=(hc.heap.map id es hid).row
    have q3:=q3 hcl
    rw [lives_of hcl] at q2
    have hcl2:lives (putS ks cs v es)=putS ks cs v es:=lives_of (dirty_putS hcl)
    rw [hio] at q1
    have hck:(Instr.checkKey false 10000 kt (.agg us.toArray)).run C.P w = .ok () w:=check_simple hs false 9997 us (by rw [VS.length _ _ hus,lcs])
    rcases putS_of hks hag (VS.later hst.chg.later _ _ hus) hv es mes.toList 0 rr q2 hfi with ⟨p1,p2⟩ | ⟨j,e,p1,p2,p3,p35,p4⟩
    ·obtain ⟨c1,s1⟩:=hc.putMap (mes':=mes.push { key := .agg us.toArray,val:=a.eval z,born:=clock }) (clock':=clock+1) hid (by rw [hcl2,Array.toList_push];exact p2 clock) (fun _=>by rw [Array.toList_push];exact q3.push)
     rw [hio] at c1 s1
     refine .toSkip r hd h8 ?_ rfl (by rw [on_dl];exact c1) (by rw [on_dl];exact hst.trans r.core.heap.len s1)
     simp [execOp,ho,hx.2,hy,Instr.mapUpdate,run_underlying hu',getMap_run q1,hck,findKey_S hs p1,MapKept.run_setObj_map _ q1,World.setObj]
    ·obtain ⟨c1,s1⟩:=hc.putMap (mes':=mes.modify j fun x => { x with key := .agg us.toArray,val:=a.eval z }) (clock':=clock) hid (by rw [hcl2,Array.toList_modify];exact p4) (fun _=>by rw [Array.toList_modify];exact q3.mod fun _=>rfl)
     rw [hio] at c1 s1
     have p5:mes[j]? = some e:=by rw [←Array.getElem?_toList];exact p2
     have p6:(Instr.keyThatStays (.agg us.toArray) (.agg us.toArray)).run C.P w = .ok (.agg us.toArray) w:=sameBits_agg p35
     rw [Nat.zero_add] at p1
     refine .toSkip r hd h8 ?_ rfl (by rw [on_dl];exact c1) (by rw [on_dl];exact hst.trans r.core.heap.len s1)
     simp [execOp,ho,hx.2,hy,Instr.mapUpdate,run_underlying hu',getMap_run q1,hck,findKey_S hs p1,p5,p3,p6,MapKept.run_setObj_map _ q1,World.setObj]
   ·exact absurd h.symm hR
  ·rename_i k hk
   have hk':=und_some hk (by simp)
   obtain ⟨n,rfl,h5⟩:=mI_inv h hR
   obtain ⟨hy,hrange⟩:=V_I' (r.evq e2)
   obtain ⟨v,us,g1,h6,hf,hc,hst,hv⟩:=r.useF h5 hR
   obtain ⟨id,es,rfl,hid,h7⟩:=mMd_inv' h6 hR
   obtain ⟨rr,hfi,h8⟩:=fnd_inv' h7 hR
   have hx:id<g.n∧a.eval x = .map (some (g.io id)):=by simpa [V] using r.evv e1
   have hio:g1.io id=g.io id:=hst.chg.later.io id hx.1
   obtain ⟨mes,clock,q1,q2,q3⟩:=(hc.heap.map id es hid).row
   have hcl:dirty es=false→dirty (putM k n v (lives es))=false:=fun hd=>by rw [lives_of hd];exact dirty_putM hd
   have hl2:lives (marked (dirty es) (putM k n v (lives es)))=putM k n v (lives es):=lives_marked _ _ hcl
   have hd2:dirty (marked (dirty es) (putM k n v (lives es)))=dirty es:=dirty_marked hcl
   rw [hio] at q1
   have hck:(Instr.checkKey false 10000 kt (.int k n)).run C.P w = .ok () w:=MapKept.run_checkKey hk' (by simp [MapKept.IsKey]) _ 9999
   rcases putNow_of hrange hv (lives es) mes.toList 0 rr q2 hfi with ⟨p1,p2⟩ | ⟨j,e,p1,p2,p3,p4⟩
   ·obtain ⟨c1,s1⟩:=hc.putMap (mes':=mes.push { key := .int k n,val:=a.eval z,born:=clock }) (clock':=clock+1) hid (by rw [hl2,Array.toList_push];exact p2 clock) (fun hd=>by rw [Array.toList_push];exact (q3 (hd2▸hd)).push)
    rw [hio] at c1 s1
    refine .toSkip r hd h8 ?_ rfl (by rw [on_dl];exact c1) (by rw [on_dl];exact hst.trans r.core.heap.len s1)
    simp [execOp,ho,hx.2,hy,Instr.mapUpdate,run_underlying hu',getMap_run q1,hck,MapKept.run_findKey hk' p1,MapKept.run_setObj_map _ q1,World.setObj]
   ·obtain ⟨c1,s1⟩:=hc.putMap (mes':=mes.modify j fun x => { x with key := .int k n,val:=a.eval z }) (clock':=clock) hid (by rw [hl2,Array.toList_modify];exact p4) (fun hd=>by rw [Array.toList_modify];exact (q3 (hd2▸hd)).mod fun _=>rfl)
    rw [hio] at c1 s1
    have p5:mes[j]? = some e:=by rw [←Array.getElem?_toList];exact p2
    have p6:(Instr.keyThatStays (.int k n) (.int k n)).run C.P w = .ok (.int k n) w:=MapKept.run_keyThatStays (d := .int k) (by simp [MapKept.IsKey])
    rw [Nat.zero_add] at p1
    refine .toSkip r hd h8 ?_ rfl (by rw [on_dl];exact c1) (by rw [on_dl];exact hst.trans r.core.heap.len s1)
    simp [execOp,ho,hx.2,hy,Instr.mapUpdate,run_underlying hu',getMap_run q1,hck,MapKept.run_findKey hk' p1,p5,p3,p6,MapKept.run_setObj_map _ q1,World.setObj]
  ·exact absurd h.symm hR
 ·exact absurd h.symm hR
theorem modify_congr {α:Type} {F F':α→α} : ∀(l:List α) (j:Nat) (e:α),l[j]? = some e→F e=F' e→l.modify j F=l.modify j F'
 | [],j,e,h,_=>by simp at h
 | x::l,0,e,h,hf=>by
  simp only [List.getElem?_cons_zero,Option.some.injEq] at h
  subst h
  simp [hf]
 | x::l,j+1,e,h,hf=>by
  simp only [List.getElem?_cons_succ] at h
  simp [modify_congr l j e h hf]
theorem findAsking_at {P:Program} {kt:TypeId} {ks:List FK} (hk:flatK P 20 kt=some ks) (hag:aggT P kt=true) {cs:List AV} {us:List Value} (hv:VS g w cs us):∀(es:List (AV×AV)) (ms:List MapEntry) (i:Nat) (r:Option AV),ER g w es ms→findS ks cs es=some r →
  (r=none∧idxS ks cs es=es.length)∨(∃v val,r=some v∧(Instr.findAsking kt (.agg us.toArray) ms i).run P w = .ok (some (i+idxS ks cs es,val)) w)
 | [],_,i,r,h,hf=>by
  simp only [findS,Option.some.injEq] at hf
  exact .inl ⟨hf.symm,rfl⟩
 | (a,v)::es,_,i,r,⟨e,ms,rfl,h1,h2,h3⟩,hf=>by
  cases a with
  | A cs'=>
   obtain ⟨us',hkey,hv'⟩:=V_A' h1
   have ok:=flatK_ok (g:=g) 20 kt ks hk
   have hkey':e.key = .agg us'.toArray:=hkey
   simp only [findS] at hf
   split at hf
   ·rename_i he
    simp only [Option.some.injEq] at hf
    have hb:(Op.equal kt (.agg us.toArray) (.agg us'.toArray)).run P w = .ok true w:=(ok.2.2.2.2 w _ _ _ _ true hv hv' he 10000 (by omega)).1 hag
    refine .inr ⟨v,e.val,hf.symm,?_⟩
    simp only [idxS,he,Instr.findAsking,hkey',Sem.run_bind,hb,Result.andThen_ok,if_true,Sem.run_pure,Nat.add_zero]
   ·rename_i he
    have hb:(Op.equal kt (.agg us.toArray) (.agg us'.toArray)).run P w = .ok false w:=(ok.2.2.2.2 w _ _ _ _ false hv hv' he 10000 (by omega)).1 hag
    have step:(Instr.findAsking kt (.agg us.toArray) (e::ms) i).run P w=(Instr.findAsking kt (.agg us.toArray) ms (i+1)).run P w:=by
     simp only [Instr.findAsking,hkey',Sem.run_bind,hb,Result.andThen_ok,Bool.false_eq_true,if_false]
    simp only [idxS,he]
    rcases findAsking_at hk hag hv es ms (i+1) r h3 hf with ⟨q1,q2⟩ | ⟨v',val,q1,q2⟩
    ·exact .inl ⟨q1,by rw [q2];rfl⟩
    ·exact .inr ⟨v',val,q1,by rw [step,q2,show i+1+idxS ks cs es=i+(idxS ks cs es+1) by omega]⟩
   ·cases hf
  | _=>simp [findS] at hf
theorem on_dl0 (id:Nat) (x:HO) (s:St):Upd.on { dst:=none,locs:=[],dl:=[(id,x)] } none s=s.setO id x:=on_dl [] id x s
theorem delNow_of {k:IntKind} {n:Int} : ∀(es:List (AV×AV)) (ms:List MapEntry) (i:Nat) (r:Option AV),ER g w es ms→findI k n es=some r →
  (Instr.findNow (.int k) (.int k n) ms i=some none∧ER g w (delM n es) ms) ∨
  ∃(j:Nat) (e:MapEntry),Instr.findNow (.int k) (.int k n) ms i=some (some (i+j,e.val))∧j<ms.length∧ER g w (delM n es) (ms.eraseIdx j)
 | [],_,i,r,h,hf=>by
  rw [show _=[] from h]
  exact .inl ⟨rfl,rfl⟩
 | (a,x)::es,_,i,r,⟨e,ms,rfl,h1,h2,h3⟩,hf=>by
  cases a with
  | I k' m=>
   have hkey:e.key = .int k' m:=(V_I' h1).1
   simp only [findI] at hf
   split at hf
   ·rename_i hkk
    subst hkk
    split at hf
    ·rename_i hmn
     subst hmn
     refine .inr ⟨0,e,?_,by simp,?_⟩
     ·simp [Instr.findNow,Instr.sameNow,hkey]
     ·simpa only [delM,if_true,List.eraseIdx_cons_zero] using h3
    ·rename_i hmn
     have hb:(n == m)=false:=by
      rw [beq_eq_false_iff_ne];exact fun x=>hmn x.symm
     simp only [delM,if_neg hmn]
     rcases delNow_of es ms (i+1) r h3 hf with ⟨q1,q2⟩ | ⟨j,e',q1,q2,q3⟩
     ·refine .inl ⟨?_,⟨e,_,rfl,h1,h2,q2⟩⟩
      simp only [Instr.findNow,Instr.sameNow,hkey,if_true,hb]
      exact q1
     ·refine .inr ⟨j+1,e',?_,by simpa using q2,?_⟩
      ·simp only [Instr.findNow,Instr.sameNow,hkey,if_true,hb]
       rw [q1,show i+1+j=i+(j+1) by omega]
      ·simp only [List.eraseIdx_cons_succ]
       exact ⟨e,_,rfl,h1,h2,q3⟩
   ·cases hf
  | _=>simp [findI] at hf
theorem OpS.delete (r:Rel C nt g0 w0 g w f s a) (hd:∀x,o.dst=some x→nt.ok x) (hR:R ≠ .stuck) {c:Call} (ho:o.op = .call c) (hc:c.callee = .builtin .delete)
  (h:opH C N G o s K R):OpS C nt g0 w0 s a w o K R:=by
 simp only [opH,opF,ho,hc,Op.operands,Call.operands,Array.empty_append] at h
 split at h
 ·exact absurd h.symm hR
 rename_i t ht
 split at h
 ·rename_i kt et m i hu e1 e2
  have hu':=und_some hu (by simp)
  split at h
  ·rename_i k hk
   have hk':=und_some hk (by simp)
   obtain ⟨n,rfl,h5⟩:=mI_inv h hR
   obtain ⟨id,es,rfl,hid,h7⟩:=mMd_inv' h5 hR
   obtain ⟨rr,hfi,h8⟩:=fnd_inv' h7 hR
   obtain ⟨x0,x1,l,hargs,q1,q2⟩:∃x0 x1 l,c.args.toList=x0::x1::l∧evO C s x0 = .v (.M id)∧evO C s x1 = .v (.I k n):=by
    cases hc':c.args.toList with
    | nil=>rw [hc'] at e1;cases e1
    | cons x0 l=>
     rw [hc'] at e1 e2
     cases l with
     | nil=>cases e2
     | cons x1 l=>exact ⟨x0,x1,l,rfl,e1,e2⟩
   have hx:id<g.n∧a.eval x0 = .map (some (g.io id)):=by simpa [V] using r.evv q1
   obtain ⟨hy,hrange⟩:=V_I' (r.evv q2)
   obtain ⟨mes,clock,m1,m2,m3⟩:=(r.core.heap.map id es hid).row
   have hck:∀em,(Instr.checkKey em 10000 kt (.int k n)).run C.P w = .ok () w:=fun em=>MapKept.run_checkKey hk' (by simp [MapKept.IsKey]) em 9999
   have ha0:(c.args.map a.eval)[0]? = some (a.eval x0):=by
    rw [←Array.getElem?_toList,Array.toList_map,hargs];rfl
   have ha1:(c.args.map a.eval)[1]? = some (a.eval x1):=by
    rw [←Array.getElem?_toList,Array.toList_map,hargs];rfl
   have hv0:V g w (.T []) (.tuple #[]):=by simp only [V];exact ⟨[],rfl,rfl⟩
   rcases delNow_of (lives es) mes.toList 0 rr m2 hfi with ⟨p1,p2⟩ | ⟨j,e,p1,p2,p3⟩
   ·obtain ⟨c1,s1⟩:=r.core.putMap (es':=marked true (delM n (lives es))) (mes':=mes) (clock':=clock) hid p2 (fun hd=>by cases hd)
    refine .to r hd h8 (v := .tuple #[]) ?_ rfl (by rw [on_dl0];exact c1) (by rw [on_dl0];exact s1) (by rw [on_dl0];exact V.later s1.chg.later _ _ hv0)
    rw [run_builtin ho hc]
    simp [Go.builtin,Builtin.delete_,ht,ha0,ha1,hx.2,hy,run_underlying hu',getMap_run m1,hck,MapKept.run_findKey hk' p1,MapKept.run_setObj_map _ m1,World.setObj]
   ·have hj:j<mes.size:=by simpa using p2
    have he:(mes.eraseIdxIfInBounds j).toList=mes.toList.eraseIdx j:=by
     simp [Array.eraseIdxIfInBounds,hj]
    obtain ⟨c1,s1⟩:=r.core.putMap (es':=marked true (delM n (lives es))) (mes':=mes.eraseIdxIfInBounds j) (clock':=clock) hid (by rw [he];exact p3) (fun hd=>by cases hd)
    rw [Nat.zero_add] at p1
    refine .to r hd h8 (v := .tuple #[]) ?_ rfl (by rw [on_dl0];exact c1) (by rw [on_dl0];exact s1) (by rw [on_dl0];exact V.later s1.chg.later _ _ hv0)
    rw [run_builtin ho hc]
    simp [Go.builtin,Builtin.delete_,ht,ha0,ha1,hx.2,hy,run_underlying hu',getMap_run m1,hck,MapKept.run_findKey hk' p1,MapKept.run_setObj_map _ m1,World.setObj]
  ·exact absurd h.symm hR
 ·exact absurd h.symm hR
theorem len_i64 {P:Program} {n:Nat} (hC:n≤140737488355328):IntKind.i64.min≤(n:Int)∧(n:Int)≤IntKind.i64.max:=by
 have:=i64_range (n:=n) (by omega)
 exact this
theorem OpS.mapEntry (hC:OkC C) (r:Rel C nt g0 w0 g w f s a) (hd:∀x,o.dst=some x→nt.ok x) (hR:R ≠ .stuck) {t:TypeId} {x y:Operand} (ho:o.op = .mapEntry t x y)
  (h:opH C N G o s K R):OpS C nt g0 w0 s a w o K R:=by
 simp only [opH,opF,ho,Op.operands,List.map_cons,List.map_nil,List.getD_cons_zero,List.getD_cons_succ] at h
 split at h
 ·rename_i kt et m i hu he1 he2
  have hu':=und_some hu (by simp)
  split at h
  ·rename_i ks hs hks
   obtain ⟨cs,rfl,lcs,h5⟩:=mA_inv h hR
   obtain ⟨us,hy,hus⟩:=V_A' (r.evq he2)
   have hag:=simpleK_agg hs
   obtain ⟨id,es,rfl,hid,hcl,h7⟩:=mM_inv' h5 hR
   obtain ⟨hbd,h7⟩:=chk_inv' h7 hR
   have hbd:es.length≤C.bound:=(of_decide_eq_true hbd).1
   obtain ⟨rr,hfi,h8⟩:=fndS_inv h7 hR
   have hx:id<g.n∧a.eval x = .map (some (g.io id)):=by simpa [V] using r.evv he1
   obtain ⟨mes,clock,q1,q2,q3⟩:=(r.core.heap.map id es hid).row
   have q3:=q3 hcl
   rw [lives_of hcl] at q2
   have hcl2:∀v,lives (putS ks cs v es)=putS ks cs v es:=fun v=>lives_of (dirty_putS hcl)
   have hck:(Instr.checkKey false 10000 kt (.agg us.toArray)).run C.P w = .ok () w:=check_simple hs false 9997 us (by rw [VS.length _ _ hus,lcs])
   have hlen:=ER.length es _ q2
   have hb1:=hC.bound
   rcases findAsking_at (P:=C.P) hks hag hus es mes.toList 0 rr q2 hfi with ⟨rfl,hix⟩ | ⟨v,val,rfl,hix⟩
   ·
    obtain ⟨z,v,hz,h9,hvz⟩:=zeroK_inv (g:=g) (w:=w) h8 hR
    rcases putS_of (P:=C.P) hks hag hus hvz es mes.toList 0 none q2 hfi with ⟨p1,p2⟩ | ⟨j,e,p1,_⟩
    ·obtain ⟨c1,s1⟩:=r.core.putMap (mes':=mes.push { key := .agg us.toArray,val:=z,born:=clock }) (clock':=clock+1) hid (by rw [hcl2,Array.toList_push];exact p2 clock) (fun _=>by rw [Array.toList_push];exact q3.push)
     refine .to r hd h9 (v := .tuple #[z, .int .i64 clock]) ?_ rfl (by rw [on_dl0];exact c1) (by rw [on_dl0];exact s1) ?_
     ·simp [execOp,ho,hx.2,hy,Instr.mapEntry,run_underlying hu',getMap_run q1,hck,findKey_S hs p1,hz,goInt,MapKept.run_setObj_map _ q1,World.setObj]
     ·rw [on_dl0]
      show V _ _ (.T [v, .I .i64 (idxS ks cs es)]) _
      have hcl:clock=idxS ks cs es:=by rw [q3.clk,hlen,hix]
      simp only [V,VT]
      refine ⟨_,rfl,_,_,rfl,V.later s1.chg.later _ _ hvz,_,_,rfl,⟨by rw [hcl],?_⟩,rfl⟩
      exact len_i64 (P:=C.P) (by omega)
    ·rcases findAsking_of (P:=C.P) hks hag hus es mes.toList 0 none q2 hfi with ⟨_,w2⟩ | ⟨v',j',e',w1,_⟩
     ·rw [w2] at p1;cases p1
     ·cases w1
   ·rcases findAsking_of (P:=C.P) hks hag hus es mes.toList 0 (some v) q2 hfi with ⟨w1,_⟩ | ⟨v',j,e,w1,w2,w3,w4,w5⟩
    ·cases w1
    ·cases w1
     rw [hix] at w2
     simp only [Result.ok.injEq,Option.some.injEq,Prod.mk.injEq,and_true] at w2
     obtain ⟨hj,rfl⟩:=w2
     rw [Nat.zero_add,Nat.zero_add] at hj
     rcases putS_of (P:=C.P) hks hag hus w5 es mes.toList 0 (some v) q2 hfi with ⟨p1,_⟩ | ⟨j2,e3,p1,p2,p3,p35,p4⟩
     ·rw [hix] at p1;cases p1
     ·rw [hix] at p1
      simp only [Result.ok.injEq,Option.some.injEq,Prod.mk.injEq,and_true] at p1
      obtain ⟨hj2,hval2⟩:=p1
      rw [Nat.zero_add,Nat.zero_add] at hj2
      have hjj:j2=j:=by omega
      subst hjj
      rw [p2] at w3
      cases w3
      have p4':ER g w (putS ks cs v es) (mes.toList.modify j2 fun x => { x with key := .agg us.toArray }):=by
       have hm:=modify_congr (F:=fun x:MapEntry => { x with key := .agg us.toArray }) (F':=fun x:MapEntry => { x with key := .agg us.toArray,val:=e.val }) mes.toList j2 e p2 rfl
       rw [hm]
       exact p4
      obtain ⟨c1,s1⟩:=r.core.putMap (mes':=mes.modify j2 fun x => { x with key := .agg us.toArray }) (clock':=clock) hid (by rw [hcl2,Array.toList_modify];exact p4') (fun _=>by rw [Array.toList_modify];exact q3.mod fun _=>rfl)
      have p5:mes[j2]? = some e:=by rw [←Array.getElem?_toList];exact p2
      have p6:(Instr.keyThatStays (.agg us.toArray) (.agg us.toArray)).run C.P w = .ok (.agg us.toArray) w:=sameBits_agg p35
      have hborn:e.born=idxS ks cs es:=by rw [q3.at p2,hj]
      rw [Nat.zero_add] at hix
      have hix':(Instr.findAsking kt (.agg us.toArray) mes.toList 0).run C.P w = .ok (some (j2,e.val)) w:=by rw [hix,hj]
      refine .to r hd h8 (v := .tuple #[e.val, .int .i64 e.born]) ?_ rfl (by rw [on_dl0];exact c1) (by rw [on_dl0];exact s1) ?_
      ·simp [execOp,ho,hx.2,hy,Instr.mapEntry,run_underlying hu',getMap_run q1,hck,findKey_S hs hix',p5,p3,p6,goInt,MapKept.run_setObj_map _ q1,World.setObj]
      ·rw [on_dl0]
       show V _ _ (.T [v, .I .i64 (idxS ks cs es)]) _
       simp only [V,VT]
       refine ⟨_,rfl,_,_,rfl,V.later s1.chg.later _ _ w5,_,_,rfl,⟨by rw [hborn],?_⟩,rfl⟩
       have hlt:=(List.getElem?_eq_some_iff.1 p2).1
       exact len_i64 (P:=C.P) (by omega)
  ·exact absurd h.symm hR
 ·exact absurd h.symm hR
theorem ER_modify {v:AV} {u:Value} (hv:V g w v u):∀(es:List (AV×AV)) (ms:List MapEntry) (j:Nat),ER g w es ms→ER g w (es.modify j fun p=>(p.1,v)) (ms.modify j fun x => { x with val:=u })
 | [],_,j,h=>by
  rw [show _=[] from h]
  simp [ER]
 | p::es,_,0,⟨e,r,rfl,h1,h2,h3⟩=>by
  simp only [List.modify_zero_cons]
  exact ⟨_,r,rfl,h1,hv,h3⟩
 | p::es,_,j+1,⟨e,r,rfl,h1,h2,h3⟩=>by
  simp only [List.modify_succ_cons]
  exact ⟨e,_,rfl,h1,h2,ER_modify hv es r j h3⟩
theorem findIdx_born:∀(ms:List MapEntry) (k j:Nat),ms.map (·.born)=List.range' k ms.length→j<ms.length→ms.findIdx? (fun e=>(e.born:Int) == ((k+j:Nat):Int))=some j
 | [],k,j,_,h=>by simp at h
 | e::ms,k,j,h,hj=>by
  simp only [List.map_cons,List.length_cons,List.range'_succ,List.cons.injEq] at h
  rw [List.findIdx?_cons]
  cases j with
  | zero=>simp [h.1]
  | succ j=>
   have hne:((e.born:Int) == ((k+(j+1):Nat):Int))=false:=by
    rw [beq_eq_false_iff_ne,h.1];omega
   rw [hne]
   have:=findIdx_born ms (k+1) j h.2 (by simpa using hj)
   rw [show k+1+j=k+(j+1) by omega] at this
   simp only [Bool.false_eq_true,if_false]
   rw [this]
   rfl
theorem OpS.entryStore (r:Rel C nt g0 w0 g w f s a) (hd:∀x,o.dst=some x→nt.ok x) (hR:R ≠ .stuck) {t:TypeId} {x y z:Operand} (ho:o.op = .entryStore t x y z)
  (h:opH C N G o s K R):OpS C nt g0 w0 s a w o K R:=by
 simp only [opH,opF,ho,Op.operands,List.map_cons,List.map_nil,List.getD_cons_zero,List.getD_cons_succ] at h
 split at h
 ·rename_i kt et m i hu e1 e2
  obtain ⟨n,rfl,h5⟩:=mI_inv h hR
  obtain ⟨hy,hrange⟩:=V_I' (r.evv e2)
  obtain ⟨v,us,g1,h6,hf,hc,hst,hv⟩:=r.useF h5 hR
  obtain ⟨id,es,rfl,hid,hcl,h7⟩:=mM_inv' h6 hR
  obtain ⟨hn0,hn,h8⟩:=ix_inv' h7 hR
  have hx:id<g.n∧a.eval x = .map (some (g.io id)):=by simpa [V] using r.evv e1
  have hio:g1.io id=g.io id:=hst.chg.later.io id hx.1
  obtain ⟨mes,clock,q1,q2,q3⟩:=(hc.heap.map id es hid).row
  have q3:=q3 hcl
  rw [lives_of hcl] at q2
  rw [hio] at q1
  have hlen:=ER.length es _ q2
  have hcl2:lives (es.modify n.toNat fun p=>(p.1,v))=es.modify n.toNat fun p=>(p.1,v):=lives_of (dirty_modify (f:=fun _=>v) hcl)
  obtain ⟨c1,s1⟩:=hc.putMap (mes':=mes.modify n.toNat fun x => { x with val:=a.eval z }) (clock':=clock) hid (by rw [hcl2,Array.toList_modify];exact ER_modify hv es _ _ q2) (fun _=>by rw [Array.toList_modify];exact q3.mod fun _=>rfl)
  rw [hio] at c1 s1
  have hfx:mes.findIdx? (fun e=>(e.born:Int) == n)=some n.toNat:=by
   have:=findIdx_born mes.toList 0 n.toNat (by rw [q3.ids,List.range_eq_range']) (by omega)
   rw [Nat.zero_add,show ((n.toNat:Nat):Int)=n by omega] at this
   rw [show mes=mes.toList.toArray from (Array.toArray_toList).symm,List.findIdx?_toArray]
   exact this
  refine .toSkip r hd h8 ?_ rfl (by rw [on_dl];exact c1) (by rw [on_dl];exact hst.trans r.core.heap.len s1)
  have hai:(asIntOf (Value.int .i64 n)).run C.P w = .ok (.i64,n) w:=rfl
  simp [execOp,ho,hx.2,hy,Instr.entryStore,getMap_run q1,asInt,hai,hfx,MapKept.run_setObj_map _ q1,World.setObj]
 ·exact absurd h.symm hR
end
end Go.Vm
namespace Go.Vm
open Go
section
variable {C:Cx} {N:Ann} {nt:NT} {g0 g:Gh} {w0 w:World} {f:Fr} {s:St} {a:Act} {o:Oper}
variable {K:Upd→Res} {R:Res} {G:FuncId→List AV→List HO→Res}
theorem SC.over_facts {c z:SC} {off:Nat} (h:c.same z) (hl:off+z.len≤c.len):(c.over off z).len=c.len∧(c.over off z).width=c.width∧(c.over off z).elem=c.elem:=by
 cases c<;>cases z<;>simp_all [SC.same,SC.over,SC.len,SC.width,SC.elem]<;>omega
theorem SC.over_nil {c z:SC} {off:Nat} (h:c.same z) (h0:z.len=0):c.over off z=c:=by
 cases c<;>cases z<;>simp_all [SC.same,SC.over,SC.len]
theorem flat_take {n:Nat} : ∀(k:Nat) (xs:List (List AV)),(∀x∈xs,x.length=n)→(xs.take k).flatten=xs.flatten.take (k*n)∧(xs.drop k).flatten=xs.flatten.drop (k*n)
 | 0,xs,_=>by simp
 | k+1,[],_=>by simp
 | k+1,x::xs,h=>by
  obtain ⟨h1,h2⟩:=flat_take k xs fun y hy=>h y (by simp [hy])
  have hx:=h x (by simp)
  simp only [List.take_succ_cons,List.drop_succ_cons,List.flatten_cons,h1,h2]
  rw [List.take_append,List.drop_append]
  have e1:x.take ((k+1)*n)=x:=List.take_of_length_le (by rw [hx,Nat.succ_mul];omega)
  have e2:x.drop ((k+1)*n)=[]:=List.drop_of_length_le (by rw [hx,Nat.succ_mul];omega)
  rw [e1,e2,hx,show (k+1)*n-n=k*n by rw [Nat.succ_mul];omega]
  simp
theorem SCV.over {c z:SC} {v1 v2:List Value} {off:Nat} (h:c.same z) (hl:off+z.len≤c.len) (h1:SCV g w c v1) (h2:SCV g w z v2) :
  SCV g w (c.over off z) (v1.take (off*c.width)++v2++v1.drop (off*c.width+z.len*c.width)):=by
 cases c with
 | e t n xs=>
  cases z with
  | e t' m ys=>
   simp only [SC.same] at h
   subst h
   obtain ⟨a1,a2⟩:=h1
   obtain ⟨b1,b2⟩:=h2
   obtain ⟨e1,_⟩:=flat_take (n:=n) off xs a1
   obtain ⟨_,e2⟩:=flat_take (n:=n) (off+ys.length) xs a1
   refine ⟨fun x hx => ?_,?_⟩
   ·simp only [List.mem_append] at hx
    rcases hx with (hx | hx) | hx
    ·exact a1 x (List.mem_of_mem_take hx)
    ·exact b1 x hx
    ·exact a1 x (List.mem_of_mem_drop hx)
   ·simp only [List.flatten_append,SC.width,SC.len]
    rw [e1,e2,Nat.add_mul]
    exact VS_app _ _ _ _ (VS_app _ _ _ _ (VS_take _ _ _ a2) b2) (VS_drop _ _ _ a2)
  | y t' ys=>cases h
 | y t xs=>
  cases z with
  | e t' m ys=>cases h
  | y t' ys=>
   simp only [SCV] at h1 h2 ⊢
   subst h1
   subst h2
   simp [SC.over,SCV,SC.width,SC.len,List.map_take,List.map_drop]
theorem OpS.copy (hC:OkC C) (r:Rel C nt g0 w0 g w f s a) (hd:∀x,o.dst=some x→nt.ok x) (hR:R ≠ .stuck) {c:Call} (ho:o.op = .call c) (hc:c.callee = .builtin .copy)
  (h:opH C N G o s K R):OpS C nt g0 w0 s a w o K R:=by
 simp only [opH,opF,ho,hc,Op.operands,Call.operands,Array.empty_append] at h
 split at h
 case h_2=>exact absurd h.symm hR
 rename_i x y t tx hargs htys
 simp only [hargs,List.map_cons,List.map_nil,List.getD_cons_zero,List.getD_cons_succ] at h
 split at h
 case h_2=>exact absurd h.symm hR
 rename_i e e' hu hux
 have hut:=und_some hu (by simp)
 have hutx:=und_some hux (by simp)
 have hrun:∀u' w',(Builtin.copy_ #[t,tx] o.type #[a.eval x,a.eval y]).run C.P w = .ok u' w'→(execOp a.eval o).run C.P w = .ok (.value u') w':=by
  intro u' w' hr
  have e1:c.argTypes = #[t,tx]:=by apply Array.toList_inj.1;rw [htys]
  have e2:c.args.map a.eval = #[a.eval x,a.eval y]:=by apply Array.toList_inj.1;rw [Array.toList_map,hargs];rfl
  rw [run_builtin ho hc,e1,e2]
  simp only [Go.builtin,Sem.run_bind,hr,Result.andThen_ok,Sem.run_pure]
 have body:∀(k ver off:Nat) (lx:LOv),lx=s.loc k→ver≤(s.loc k).ver →
   (∀cc ex,ver=(s.loc k).ver→(s.loc k).lo = .arr cc ex→off≤cc.len∧∃ad len cap,f.hd k = .slice ad len cap∧a.eval x = .slice (if cap=off then ad else ad.map (·.add (off*cc.width))) (len-off) (cap-off)) →
   (match lx with
   | ⟨ver', .arr c true⟩=>if ver=ver'∧c.elem=e∧c.width=szT C.P e∧szT C.P e≠0 then
    srcK (stdAlg C.pure G) c (evO C s y) (loO s (evO C s y)) false fun z=>(stdAlg C.pure G).chk (decide (off+z.len≤c.len)) (K { dst:=some (.v (.I .i64 z.len)),locs:=[(k,⟨ver, .arr (c.over off z) true⟩)] })
   else (stdAlg C.pure G).stuck
   | _=>(stdAlg C.pure G).stuck)=R→OpS C nt g0 w0 s a w o K R:=by
  intro k ver off lx hlx hve hvx h
  split at h
  case h_2=>exact absurd h.symm hR
  rename_i ver' cc
  split at h
  case isFalse=>exact absurd h.symm hR
  rename_i hcc
  obtain ⟨rfl,b1,b2,b3⟩:=hcc
  obtain ⟨z,news,h1,h2,h3,h4⟩:=srcK_inv r hR (.inl ⟨_,hutx⟩) (fun e=>by cases e) h
  obtain ⟨hb,h5⟩:=chk_inv' h1 hR
  have hb:off+z.len≤cc.len:=by simpa using hb
  obtain ⟨hoff,ad,len,cap,hhd,hx⟩:=hvx cc true (by rw [←hlx]) (by rw [←hlx])
  have hlr:=r.core.loc k
  unfold LR at hlr
  rw [←hlx] at hlr
  obtain ⟨vals,o1,o2,o3,o4⟩:=SR_iff.1 hlr
  obtain ⟨ad',cap',q1,q2⟩:=ownsRow_len o1
  rw [hhd] at q1
  simp only [Value.slice.injEq] at q1
  obtain ⟨_,hlen,hcap⟩:=q1
  obtain ⟨f1,f2,f3⟩:=SC.over_facts h2 hb
  have hsz:(sizeOf e).run C.P w = .ok cc.width w:=by rw [run_sz (.inr b3),b2]
  have hmin:Nat.min z.len (len-off)=z.len:=Nat.min_eq_left (by omega)
  have hrng:IntKind.i64.min≤(z.len:Int)∧(z.len:Int)≤IntKind.i64.max:=by
   have:z.len≤9223372036854775807:=by omega
   constructor
   ·have:IntKind.i64.min≤0:=by decide
    omega
   ·have:IntKind.i64.max=9223372036854775807:=by decide
    omega
  by_cases h0:z.len=0
  ·have hn0:news=[]:=List.eq_nil_of_length_eq_zero (by rw [h3.newsLen,h0,Nat.zero_mul])
   have hsame:s.withLocs [(k,⟨ver, .arr (cc.over off z) true⟩)]=s:=by
    rw [SC.over_nil h2 h0,hlx]
    show { s with loc:=_ } = s
    have:setLocs s.loc [(k,s.loc k)]=s.loc:=by
     funext i
     simp only [setLocs]
     cases hi:Nat.beq i k with
     | true=>rw [Nat.eq_of_beq_eq_true hi];rfl
     | false=>rfl
    rw [this]
   refine .to r hd h5 (v := .int .i64 z.len) (hrun _ w ?_) rfl (f':=f) (g':=g) ?_ ?_ ?_
   ·rw [hx]
    have hc:=h3.cells
    rw [hn0,h0] at hc
    generalize (if cap=off then ad else ad.map (·.add (off*cc.width)))=bb
    have hl:=h3.len w
    rw [h0] at hl hmin
    cases bb with
    | none=>simp [Builtin.copy_,run_underlying hut,hl,hsz,hmin,hc,goInt,h0]
    | some ad=>simp [Builtin.copy_,run_underlying hut,hl,hsz,hmin,hc,storeCells,goInt,h0]
   ·show Core g w f (s.withLocs _)
    rw [hsame];exact r.core
   ·show Stp g w f s g w f (s.withLocs _)
    rw [hsame];exact Stp.refl g w f s
   ·exact V_I g w hrng
  ·rcases o1.2 with ⟨_,hz⟩ | ⟨b,cap2,cur,he,_,hrow,hc1,hc2,hsz2,htk⟩
   ·omega
   ·rw [hhd] at he
    simp only [Value.slice.injEq] at he
    obtain ⟨rfl,_,rfl⟩:=he
    have hcapn:cap≠off:=by omega
    have hown:(f.hd k).ownBlock=some b:=by rw [hhd];rfl
    have hnl:news.length=z.len*cc.width:=h3.newsLen
    have hmul:off*cc.width+z.len*cc.width≤cc.len*cc.width:=by
     rw [←Nat.add_mul];exact Nat.mul_le_mul_right _ hb
    have hmul2:cc.len*cc.width≤cap*cc.width:=Nat.mul_le_mul_right _ hc1
    have hst:=run_storeCells_at C.P b (off*cc.width) cc.elem news 0 cur w hrow (by rw [hnl,hsz2];omega) h3.one
    have hcl:cur.toList.length=cap*cc.width:=by simp [hsz2]
    have key:=r.core.putArr (k:=k) (ver:=ver) (c:=cc) hlx.symm hown (c':=cc.over off z) (cur:=(cur.toList.take (off*cc.width+0)++news++cur.toList.drop (off*cc.width+0+news.length)).toArray) hrow
     (by simp only [List.size_toArray,List.length_append,List.length_take,List.length_drop,hnl,hcl,hsz2];omega) f1 f2 (fun hch=>by
      refine SR_iff.2 ⟨vals.take (off*cc.width)++news++vals.drop (off*cc.width+z.len*cc.width),⟨?_, .inr ⟨b,cap,_,?_,Nat.zero_le _,setRow_heap w b _ _ _ _ (by rw [f3];exact hrow),?_,hc2,?_,?_⟩⟩,by rw [f2];exact o2,?_,?_⟩
      ·rw [f1,f2]
       have:=o1.1
       simp only [List.length_append,List.length_take,List.length_drop,hnl]
       omega
      ·rw [f1,hhd,hlen]
      ·rw [f1];exact hc1
      ·rw [f2]
       simp only [List.size_toArray,List.length_append,List.length_take,List.length_drop,hnl,hcl]
       omega
      ·rw [f1,f2,←htk]
       simp only [Nat.add_zero,hnl]
       rw [List.take_append,List.take_append,List.take_take,List.take_take]
       simp only [List.length_append,List.length_take,hnl,hcl]
       rw [show Min.min (off*cc.width) (cap*cc.width)=off*cc.width from Nat.min_eq_left (by omega),show Min.min (cc.len*cc.width) (off*cc.width)=off*cc.width from Nat.min_eq_right (by omega),show Min.min (off*cc.width) (cc.len*cc.width)=off*cc.width by omega,
        List.take_of_length_le (l:=news) (by rw [hnl];omega),List.drop_take]
      ·exact SCV.later hch.later (SCV.over h2 hb o3 h4)
      ·rw [f1,f2];exact o4)
    obtain ⟨p3,p4⟩:=key
    refine .to r hd h5 (v := .int .i64 z.len) (hrun _ _ ?_) rfl p3 p4 (by simp only [VE];exact V_I _ _ hrng)
    rw [hx,if_neg hcapn]
    have hadd:(⟨b,0,none⟩:Addr).add (off*cc.width)=⟨b,off*cc.width,none⟩:=by rw [add_off,Nat.zero_add]
    have hst':(storeCells ⟨b,off*cc.width,none⟩ news 0).run C.P w=_:=hst
    simp [Builtin.copy_,run_underlying hut,h3.len,hsz,hmin,h3.cells,hadd,hst',goInt]
 unfold copyK at h
 dsimp only at h
 have hev:=r.ev x
 split at h
 ·rename_i k ver ex
  rw [ex] at hev h
  refine body k ver 0 _ rfl hev.1 (fun cc ex' hv hlo => ?_) h
  have hxx:=hev.2 hv cc ex' hlo
  have hlr:=r.core.loc k
  unfold LR at hlr
  rw [hlo] at hlr
  obtain ⟨vals,o1,_⟩:=SR_iff.1 hlr
  obtain ⟨ad',cap',q1,q2⟩:=ownsRow_len o1
  refine ⟨Nat.zero_le _,ad',cc.len,cap',q1,?_⟩
  rw [hxx,q1]
  simp only [Nat.zero_mul,Nat.sub_zero]
  split
  ·rfl
  ·cases ad' with
   | none=>rfl
   | some ad=>rw [Option.map_some];congr 2
 ·rename_i k ver off ex
  rw [ex] at hev h
  exact body k ver off _ rfl hev.1 (fun cc ex' hv hlo=>hev.2 hv cc ex' hlo) h
 ·exact absurd h.symm hR
theorem VC_of {b:Nat} : ∀(l:List HV) (o:Nat),(∀j x,l[j]? = some x→g.st b (o+j)∧∃u,w.cell? ⟨b,o+j,none⟩=some u∧V g w x.toAV u∧u.oneCell'=true)→VC g w b o (l.map HV.toAV)
 | [],_,_=>by simp [VC]
 | x::l,o,h=>by
  simp only [List.map_cons,VC]
  have h0:=h 0 x rfl
  simp only [Nat.add_zero] at h0
  refine ⟨h0.1,h0.2,VC_of l (o+1) fun j y hy => ?_⟩
  have:=h (j+1) y hy
  rw [show o+(j+1)=o+1+j by omega] at this
  exact this
theorem Core.capt (hc:Core g w f s) {k ver m:Nat} {cs:List HV} (hl:s.loc k=⟨ver, .box m cs⟩) :
  ∃g',Core g' w f (s.withLocs [(k,⟨ver+1, .no⟩)])∧Stp g w f s g' w f (s.withLocs [(k,⟨ver+1, .no⟩)])∧V g' w (.Q (cs.map HV.toAV)) (.pointer (some ⟨f.be k,0,none⟩)):=by
 have hb:=hc.loc k
 unfold LR at hb
 rw [hl] at hb
 obtain ⟨arr,t,h1,h2,h3⟩:=hb.row
 have hch:=Gh.stay_chg g w (f.be k) cs.length
 have hother:∀b,b=f.be k→∀ow:Own,ow ≠ .box k→g.ow b≠some ow:=by
  intro b e ow hne he
  rw [e,hb.ow] at he
  exact hne (Option.some.inj he).symm
 refine ⟨g.stay (f.be k) cs.length,⟨hc.heap.chg hch rfl fun b hb ow ho=>hother b hb ow (fun e=>by rw [e] at ho;exact ho),fun i => ?_,fun b i hx => ?_⟩,⟨hch.mono fun b _ e=>by rw [e,hb.ow];simp,fun i => ?_,fun id => .keep rfl rfl fun _ _ _=>rfl⟩,?_⟩
 ·rw [withLocs_loc]
  by_cases e:i=k
  ·subst e
   rw [if_pos rfl]
   trivial
  ·rw [if_neg e]
   refine (hc.loc i).chg hch fun b hb' ow ho=>hother b hb' ow fun e' => ?_
   rw [e'] at ho
   simp only [Own.site,Option.some.injEq] at ho
   exact e ho.symm
 ·rcases hx with hx | hx
  ·exact hc.wf b i hx
  ·rw [hx.1];exact hb.lt
 ·by_cases e:i=k
  ·subst e
   left
   rw [withLocs_loc,if_pos rfl,hl]
   exact Nat.lt_succ_self _
  ·exact SiteStp.same (by rw [withLocs_loc,if_neg e]) rfl rfl fun _ _ _ _=>rfl
 ·simp only [V]
  refine ⟨_,_,rfl,VC_of cs 0 fun j x hx => ?_,fun _ _ _=>⟨_,_,h1⟩⟩
  obtain ⟨u,hu,hr⟩:=h3 j x hx
  have hv:=hr.toV
  have hj:j<cs.length:=(List.getElem?_eq_some_iff.1 hx).1
  refine ⟨.inr ⟨rfl,by omega⟩,u,?_,V.later hch.later _ _ hv.1,hv.2⟩
  rw [Nat.zero_add]
  simp [World.cell?,h1,hu]
theorem captAll_inv (r:Rel C nt g0 w0 g w f s a) (hR:R ≠ .stuck):∀(xs:List Operand) {K:List AV→List (Nat×LOv)→Res},captAll (stdAlg C.pure G) (xs.map (evO C s)) ((xs.map (evO C s)).map (loO s)) K=R →
  ∃avs us g',K avs us=R∧Core g' w f (s.withLocs us)∧Stp g w f s g' w f (s.withLocs us)∧VT g' w avs (xs.map a.eval)
 | [],K,h=>by
  simp only [List.map_nil,captAll] at h
  exact ⟨[],[],g,h,r.core,Stp.refl _ _ _ _,by simp [VT]⟩
 | x::xs,K,h=>by
  simp only [List.map_cons,captAll] at h
  split at h
  case h_2=>exact absurd h.symm hR
  rename_i k ver ver' m cs ls hx hcons
  simp only [List.cons.injEq] at hcons
  obtain ⟨hlo,rfl⟩:=hcons
  rw [hx] at hlo
  simp only [loO,EV.site] at hlo
  split at h
  case isFalse=>exact absurd h.symm hR
  rename_i hver
  subst hver
  obtain ⟨avs,us,g1,h1,h2,h3,h4⟩:=captAll_inv r hR xs h
  split at h1
  ·exact absurd h1.symm hR
  rename_i hany
  have hany:(us.any fun p=>p.1 == k)=false:=(Bool.not_eq_true _).mp hany
  have hlk:(s.withLocs us).loc k=⟨ver, .box m cs⟩:=by
   show setLocs s.loc us k=_
   rw [setLocs_not us s.loc k hany,hlo]
  obtain ⟨g2,k1,k2,k3⟩:=h2.capt hlk
  have hve:=r.ev x
  rw [hx] at hve
  have hxe:=hve.2 (by rw [hlo]) m cs (by rw [hlo])
  rw [←withLocs_cons] at k1 k2
  refine ⟨_,_,g2,h1,k1,h3.trans r.core.heap.len k2,?_⟩
  simp only [List.map_cons,VT]
  exact ⟨_,_,rfl,by rw [hxe];exact k3,VT.later k2.chg.later _ _ h4⟩
theorem OpS.makeFunc (hC:OkC C) (r:Rel C nt g0 w0 g w f s a) (hd:∀x,o.dst=some x→nt.ok x) (hR:R ≠ .stuck) {fn:Fn} {fs cs:Array Operand} (ho:o.op = .makeFunc fn fs cs)
  (h:opH C N G o s K R):OpS C nt g0 w0 s a w o K R:=by
 simp only [opH,opF,ho,Op.operands] at h
 split at h
 ·obtain ⟨avs,us,g',h1,h3,h4,h5⟩:=captAll_inv r hR _ h
  split at h1
  case isFalse=>exact absurd h1.symm hR
  rename_i hfs
  have hfs':fs = #[]:=Array.eq_empty_of_size_eq_zero hfs
  subst hfs'
  refine .valU r hd h1 (u := .func fn #[] (cs.map a.eval)) ?_ h3 h4 ?_
  ·simp [execOp,ho,Instr.makeFunc]
  ·show V g' w (.F fn [] avs) _
   simp only [V]
   refine ⟨[],cs.toList.map a.eval,?_,by simp [VT],by simpa using h5⟩
   rw [←Array.toList_map,Array.toArray_toList]
 obtain ⟨avs,us,g',h1,h2,h3,h4,h5⟩:=r.useAll h hR
 refine .valU r hd h1 (u := .func fn (fs.map a.eval) (cs.map a.eval)) ?_ h3 h4 ?_
 ·simp [execOp,ho,Instr.makeFunc]
 ·have e:(fs++cs).toList.map a.eval=(fs.toList.map a.eval)++(cs.toList.map a.eval):=by simp
  rw [e] at h5
  show V g' w (.F fn (avs.take fs.size) ((avs.drop fs.size).take cs.size)) _
  simp only [V]
  have l1:(fs.toList.map a.eval).length=fs.size:=by simp
  have l2:(cs.toList.map a.eval).length=cs.size:=by simp
  have t1:((fs.toList.map a.eval)++(cs.toList.map a.eval)).take fs.size=fs.toList.map a.eval:=by
   rw [←l1,List.take_left']
   rfl
  have t2:(((fs.toList.map a.eval)++(cs.toList.map a.eval)).drop fs.size).take cs.size=cs.toList.map a.eval:=by
   rw [←l1,List.drop_left',←l2,List.take_length]
   rfl
  refine ⟨fs.toList.map a.eval,cs.toList.map a.eval,?_,?_,?_⟩
  ·rw [←Array.toList_map,←Array.toList_map,Array.toArray_toList,Array.toArray_toList]
  ·have:=VT_take fs.size _ _ h5
   rwa [t1] at this
  ·have:=VT_take cs.size _ _ (VT_drop fs.size _ _ h5)
   rwa [t2] at this
end
end Go.Vm
namespace Go.Vm
open Go
section
variable {C:Cx} {N:Ann} {nt:NT} {g0 g:Gh} {w0 w:World} {f:Fr} {s:St} {a:Act} {o:Oper}
variable {K:Upd→Res} {R:Res} {G:FuncId→List AV→List HO→Res}
theorem flat_takeS {n:Nat} : ∀(xs:List (List AV)) (i:Nat),(∀x∈xs,x.length=n)→(xs.take i).flatten=xs.flatten.take (i*n)
 | [],i,_=>by simp
 | x::xs,0,_=>by simp
 | x::xs,i+1,h=>by
  simp only [List.take_succ_cons,List.flatten_cons]
  have hx:=h x List.mem_cons_self
  rw [List.take_append,List.take_of_length_le (l:=x) (by rw [hx,Nat.add_mul];omega),hx,show (i+1)*n-n=i*n by rw [Nat.add_mul];omega,flat_takeS xs i fun y hy=>h y (List.mem_cons_of_mem _ hy)]
theorem ArrR.cut {id d:Nat} {t:TypeId} {n k:Nat} {xs:List (List AV)} {u:Value} (h:SR g w (.obj id) (.e t n xs) true u) (hk:k≤xs.length) (hwf:∀b i,g.st b i→b<w.heap.size) :
  ∃ad cap u1 g1,u = .slice ad xs.length cap∧xs.length≤cap∧u1 = .slice (if cap=0 then ad else ad.map (·.add (0*n))) (k-0) (cap-0)∧Chg (fun b=>g.ow b=some (.obj id)) g w g1 w∧g1.n=g.n∧(∀b i,g1.st b i→b<w.heap.size)∧SR g1 w (.arr d) (.e t n (xs.take k)) true u1:=by
 obtain ⟨vals,⟨hlen,hrow⟩,hn,hx,hvs,hown⟩:=h
 rcases hrow with ⟨rfl,h0⟩ | ⟨b,cap,cur,rfl,hb0,hcell,hle,hmax,hsz,htk⟩
 ·have hxs:xs=[]:=List.eq_nil_of_length_eq_zero h0
  subst hxs
  have hk0:k=0:=by simpa using hk
  subst hk0
  refine ⟨none,0,_,g,rfl,Nat.le_refl _,rfl,Chg.refl _ _ _,rfl,hwf,?_⟩
  refine ⟨[],⟨by simp, .inl ⟨rfl,rfl⟩⟩,hn,by simp,by simp [VS],fun b hb=>by cases hb⟩
 ·refine ⟨some ⟨b,0,none⟩,cap, .slice (some ⟨b,0,none⟩) k cap,g.own b (.arr d),rfl,hle,?_,?_,rfl,hwf,?_⟩
  ·split<;>simp [Addr.add]
  ·refine ⟨⟨Nat.le_refl _,fun _ _=>rfl,fun _ _ h=>h,fun _ _ _=>rfl,fun _ _ _ _ _ h=>h⟩,Nat.le_refl _,fun _ _ _=>rfl,fun b' _ hn' => ?_,fun _ _ _ _ h=>h,rfl,rfl,rfl⟩
   have hne:b'≠b:=fun e=>hn' (e▸(hown b rfl).1)
   simp [Gh.own,hne]
  ·have hl:(xs.take k).length=k:=by rw [List.length_take];omega
   have hlat:Later g w (g.own b (.arr d)) w:=⟨Nat.le_refl _,fun _ _=>rfl,fun _ _ h=>h,fun _ _ _=>rfl,fun _ _ _ _ _ h=>h⟩
   have hkn:k*n≤xs.length*n:=Nat.mul_le_mul_right _ hk
   refine ⟨vals.take (k*n),?_,hn,fun x hx'=>hx x (List.mem_of_mem_take hx'),?_,fun b' hb' => ?_⟩
   ·rw [hl]
    refine ⟨by rw [List.length_take,hlen];omega, .inr ⟨b,cap,cur,rfl,hb0,hcell,by omega,hmax,hsz,?_⟩⟩
    rw [←htk,List.take_take,Nat.min_eq_left hkn]
   ·rw [flat_takeS xs k hx]
    exact VS_take _ _ _ (VS.later hlat _ _ hvs)
   ·cases hb'
    exact ⟨by simp [Gh.own],fun i=>⟨fun hi=>absurd ((hown b rfl).2 i |>.1 hi).1 (by simp),fun hi=>absurd hi.1 (by simp)⟩⟩
theorem OpS.cutW (r:Rel C nt g0 w0 g w f s a) (hd:∀x,o.dst=some x→nt.ok x) (hR:R ≠ .stuck) {t:TypeId} {x hi:Operand} (ho:o.op = .slice t x none (some hi) none) (hwin:N.win (o.dst.getD 0)=true)
  (h:opH C N G o s K R):OpS C nt g0 w0 s a w o K R:=by
 simp only [opH,opF,ho,hwin,if_true,Op.operands] at h
 split at h
 ·contradiction
 ·rename_i e av _ _ _ hu e1 _ _
  have hu':=und_some hu (by simp)
  split at h
  case isFalse=>exact absurd h.symm hR
  rename_i hok
  rcases mW_inv h with ⟨id,rfl,h9⟩ | ⟨_,h9⟩
  ·split at h9
   ·rename_i t' n' xs e2
    have hv:=r.evv e1
    simp only [V] at hv
    have hcs:=arrAt_some e2
    have har:=r.core.heap.arr id _ _ _ hcs
    have h':boundsK (stdAlg C.pure G) none (some (evO C s hi)) xs.length (fun l rr=>if l=0 then K { dst:=some (.ls (o.dst.getD 0) ((s.loc (o.dst.getD 0)).ver+1)),locs:=[(o.dst.getD 0,⟨(s.loc (o.dst.getD 0)).ver+1, .arr (.e t' n' (xs.take rr)) true⟩)],dl:=[(id, .no)] } else .stuck)=R:=by
     show num (stdAlg C.pure G) (evO C s hi) (fun n=>(stdAlg C.pure G).chk (decide (0≤n∧n≤(xs.length:Int))) (if 0=0 then K { dst:=some (.ls (o.dst.getD 0) ((s.loc (o.dst.getD 0)).ver+1)),locs:=[(o.dst.getD 0,⟨(s.loc (o.dst.getD 0)).ver+1, .arr (.e t' n' (xs.take n.toNat)) true⟩)],dl:=[(id, .no)] } else .stuck))=R
     simp only [if_true]
     exact h9
    obtain ⟨l,rr,b1,b2,h7,b3⟩:=bounds_run (vl:=none) (vh:=some (a.eval hi)) (.inl ⟨rfl,rfl⟩) (.inr ⟨_,_,rfl,rfl,r.ev hi⟩) h' hR
    split at h7
    case isFalse=>exact absurd h7.symm hR
    rename_i hl0
    subst hl0
    obtain ⟨ad,cap,u1,g1,k1,k2,k3,k4,k5,k6,k7⟩:=ArrR.cut (d:=o.dst.getD 0) har.sr b2 r.core.wf
    obtain ⟨d1,d2,d3⟩:=r.core.wToArr (d:=o.dst.getD 0) (Nat.lt_succ_self _) hcs k4 k5 k6 k7 (on_dl _ _ _ _)
    refine .to r hd h7 ?_ rfl d1 d2 d3
    have hx:a.eval x = .slice ad xs.length cap:=by rw [hv.2.1,k1]
    have hb:=b3 true cap (by omega)
    rw [k3]
    simp only [execOp,ho,Instr.sliceAt,Sem.run_bind,run_underlying hu',Result.andThen_ok,Instr.slice,hx,Option.map_none,Option.map_some,hb,run_sz (.inl hok),Nat.zero_mul,Sem.run_pure]
   ·exact absurd h9.symm hR
  ·exact absurd h9.symm hR
 ·exact absurd h.symm hR
theorem OpS.load (hC:OkC C) (r:Rel C nt g0 w0 g w f s a) (hd:∀x,o.dst=some x→nt.ok x) (hR:R ≠ .stuck) {t:TypeId} {x:Operand} (ho:o.op = .load t x)
  (h:opH C N G o s K R):OpS C nt g0 w0 s a w o K R:=by
 simp only [opH,opF,ho,Op.operands,List.map_cons,List.map_nil,List.getD_cons_zero,List.getD_cons_succ] at h
 split at h
 ·obtain ⟨e,b,off,v,h1,hx,hl,hv⟩:=loadK_run r hR h
  split at h1
  ·rename_i av
   rcases mW_inv h1 with ⟨id,rfl,h9⟩ | ⟨_,h9⟩
   ·split at h9
    ·rename_i t' n' xs e2
     have hv':V g w (.W id) v:=hv
     simp only [V] at hv'
     have hcs:=arrAt_some e2
     have har:=r.core.heap.arr id _ _ _ hcs
     obtain ⟨ad,cap,u1,g1,k1,k2,k3,k4,k5,k6,k7⟩:=ArrR.cut (d:=o.dst.getD 0) har.sr (Nat.le_refl xs.length) r.core.wf
     rw [List.take_length] at k7
     obtain ⟨d1,d2,d3⟩:=r.core.wToArr (d:=o.dst.getD 0) (Nat.lt_succ_self _) hcs k4 k5 k6 k7 (on_dl _ _ _ _)
     have huv:u1=v:=by
      rw [hv'.2.1,k1,k3,Nat.sub_zero,Nat.sub_zero]
      congr 1
      split
      ·rfl
      ·cases ad<;>simp [Addr.add]
     rw [huv] at d1 d2 d3
     exact .to r hd h9 (run_load ho hx hl) rfl d1 d2 d3
    ·exact absurd h9.symm hR
   ·exact absurd h9.symm hR
  ·exact absurd h1.symm hR
 ·obtain ⟨e,b,off,v,h1,hx,hl,hv⟩:=loadK_run r hR h
  exact .val r hd h1 (run_load ho hx hl) hv
theorem OpS.slice (hC:OkC C) (r:Rel C nt g0 w0 g w f s a) (hd:∀x,o.dst=some x→nt.ok x) (hR:R ≠ .stuck) {t:TypeId} {x:Operand} {lo hi mx:Option Operand} (ho:o.op = .slice t x lo hi mx)
  (h:opH C N G o s K R):OpS C nt g0 w0 s a w o K R:=by
 cases mx with
 | some m=>
  cases hi with
  | none=>
   simp only [opH,opF,ho] at h
   exact absurd h.symm hR
  | some hi=>
   cases lo with
   | none=>
    simp only [opH,opF,ho,Op.operands] at h
    exact OpS.slice3 r hd hR ho (.inl ⟨rfl,rfl⟩) (r.ev hi) (r.ev m) h
   | some lo=>
    simp only [opH,opF,ho,Op.operands] at h
    exact OpS.slice3 r hd hR ho (.inr ⟨_,_,rfl,rfl,r.ev lo⟩) (r.ev hi) (r.ev m) h
 | none=>
  cases hwin:N.win (o.dst.getD 0) with
  | true=>
   cases lo with
   | none=>
    cases hi with
    | none=>
     simp only [opH,opF,ho,hwin,if_true,Op.operands] at h
     split at h
     all_goals first | exact absurd h.symm hR | contradiction
    | some hi=>exact OpS.cutW r hd hR ho hwin h
   | some lo=>
    cases hi with
    | some hi=>
     simp only [opH,opF,ho,hwin,if_true,Op.operands] at h
     split at h
     all_goals first | exact absurd h.symm hR | contradiction
    | none=>
     simp only [opH,opF,ho,hwin,if_true] at h
     exact OpS.window hC r hd hR ho h
  | false=>
  cases lo with
  | none=>
   cases hi with
   | none=>
    simp only [opH,opF,ho,Op.operands,hwin,Bool.false_eq_true,if_false] at h
    exact OpS.sliceE r hd hR ho (.inl ⟨rfl,rfl⟩) (.inl ⟨rfl,rfl⟩) h
   | some hi=>
    simp only [opH,opF,ho,Op.operands,hwin,Bool.false_eq_true,if_false] at h
    exact OpS.sliceE r hd hR ho (.inl ⟨rfl,rfl⟩) (.inr ⟨_,_,rfl,rfl,r.ev hi⟩) h
  | some lo=>
   cases hi with
   | none=>
    simp only [opH,opF,ho,Op.operands,hwin,Bool.false_eq_true,if_false] at h
    exact OpS.sliceE r hd hR ho (.inr ⟨_,_,rfl,rfl,r.ev lo⟩) (.inl ⟨rfl,rfl⟩) h
   | some hi=>
    simp only [opH,opF,ho,Op.operands,hwin,Bool.false_eq_true,if_false] at h
    exact OpS.sliceE r hd hR ho (.inr ⟨_,_,rfl,rfl,r.ev lo⟩) (.inr ⟨_,_,rfl,rfl,r.ev hi⟩) h
end
end Go.Vm
namespace Go.Vm
open Go
section
variable {C:Cx} {N:Ann} {nt:NT} {g0 g:Gh} {w0 w:World} {f:Fr} {s:St} {a:Act} {o:Oper}
variable {K:Upd→Res} {R:Res} {G:FuncId→List AV→List HO→Res}
theorem methodFid_run {P:Program} {t:TypeId} {m:String} {fid:FuncId} (h:methodFid P t m=some fid) (n:Nat) (v:Value) (w:World):(method (n+1) t v m).run P w = .ok (fid,v) w:=by
 unfold methodFid at h
 split at h
 ·rename_i row hrow
  cases hi:P.info? t with
  | none=>rw [hi] at hrow;cases hrow
  | some i=>
   rw [hi] at hrow
   simp only [Option.bind_some] at hrow
   have hti:(typeInfo t).run P w = .ok i w:=by simp [typeInfo,hi]
   split at h
   ·rename_i hp
    obtain ⟨hp,hok⟩:=hp
    obtain ⟨d,hu⟩:=okT_inv hok
    have hp':row.path.toList=[]:=by
     have:=Array.isEmpty_iff.1 hp
     simp [this]
    split at h
    ·rename_i f' hf
     split at h
     ·cases h
     ·rename_i hnp
      cases h
      unfold method
      simp only [Sem.run_bind,hti,Result.andThen_ok,hrow,hp',follow,Sem.run_pure,hf]
      have hr:(receiverAt t (.val v) false (if row.path.isEmpty then some ((m.splitOn ".").getLastD m) else none)).run P w = .ok v w:=by
       unfold receiverAt
       have hund:und P t=d:=by simp [und,hu]
       simp only [Sem.run_bind,run_underlying hu,Result.andThen_ok]
       cases d with
       | pointer e=>exact absurd hund (by simpa using hnp e)
       | _=>rfl
      rw [hr]
      rfl
    ·rename_i f' hf
     split at h
     ·rename_i e hu
      cases h
      unfold method
      simp only [Sem.run_bind,hti,Result.andThen_ok,hrow,hp',follow,Sem.run_pure,hf]
      have hr:(receiverAt t (.val v) true (if row.path.isEmpty then some ((m.splitOn ".").getLastD m) else none)).run P w = .ok v w:=by
       unfold receiverAt
       simp only [Sem.run_bind,run_underlying (und_some hu (by simp)),Result.andThen_ok]
       rfl
      rw [hr]
      rfl
     ·cases h
    ·cases h
   ·cases h
 ·cases h
theorem args_eval (l:Array Operand):(l.map a.eval)=(l.toList.map a.eval).toArray:=by
 apply Array.toList_inj.1
 simp
theorem OpS.call (hC:OkC C) (r:Rel C nt g0 w0 g w f s a) (hd:∀x,o.dst=some x→nt.ok x) (hR:R ≠ .stuck) (hG:∀j,Sound C j (G j)) {c:Call} (ho:o.op = .call c)
  (h:opH C N G o s K R):OpS C nt g0 w0 s a w o K R:=by
 have h0:=h
 have viaK:∀{fid:FuncId} {as:List AV} {vals:List Value} {us:List (Nat×LOv)} {g1:Gh},FrzL s.loc us→Core g1 w f (s.withLocs us)→Stp g w f s g1 w f (s.withLocs us)→VT g1 w as vals →
   Resolves a o C.P fid vals→∀{vis:Option (List Nat)},callK (stdAlg C.pure G) C o.dst (s.loc (o.dst.getD 0)) o.type fid as us vis s.h K=R→OpS C nt g0 w0 s a w o K R:=by
  intro fid as vals us g1 hf hc hst hv hr vis h
  cases hp:C.pure fid with
  | true=>exact OpS.callP hC r hd hR (hG fid) hp hf hc hst hv hr h
  | false=>
   unfold callK at h
   rw [if_neg (by simp [hp])] at h
   cases vis with
   | none=>exact OpS.callF r hd hR (hG fid) hp hf hc hst hv hr h
   | some l=>exact OpS.callM r hd hR (hG fid) hp hf hc hst hv hr h
 simp only [opH,opF,ho,Op.operands,Call.operands] at h
 split at h
 ·
  rename_i b hb
  split at h
  ·exact OpS.len hC r hd hR ho hb h0
  ·exact OpS.append hC r hd hR ho hb h0
  ·exact OpS.copy hC r hd hR ho hb h0
  ·exact OpS.max r hd hR ho hb h0
  ·exact OpS.delete r hd hR ho hb h0
  ·exact OpS.min r hd hR ho hb h0
  ·exact absurd h.symm hR
 ·
  rename_i rv m hcal
  rw [hcal] at h
  simp only [Array.toList_append,List.map_append,List.map_cons,List.map_nil,List.cons_append,List.nil_append,List.getD_cons_zero,List.drop_succ_cons,List.drop_zero] at h
  split at h
  ·rename_i av e1
   obtain ⟨as,us,g1,h1,hf,hc,hst,hv⟩:=r.useAllF h hR
   obtain ⟨t,rx,rfl,h2⟩:=mX_inv' h1 hR
   split at h2
   ·rename_i fid hfid
    have hx:=V.later hst.chg.later _ _ (r.evv e1)
    obtain ⟨u,hu,hvu⟩:=V_X' hx
    refine viaK (vals:=u::c.args.toList.map a.eval) hf hc hst (by simp only [VT];exact ⟨u,_,rfl,hvu,hv⟩) (fun w' => ?_) h2
    have hm:=methodFid_run hfid (C.P.types.size+Made.depth-1) u w'
    have hdp:C.P.types.size+Made.depth-1+1=C.P.types.size+Made.depth:=by
     have:0<Made.depth:=by decide
     omega
    rw [hdp] at hm
    simp [execOp,ho,resolve,hcal,invoke,hu,callMethod,hm,args_eval]
    rw [List.take_of_length_le (by simp)]
   ·exact absurd h2.symm hR
  ·exact absurd h.symm hR
 ·
  rename_i fid hcal
  rw [hcal] at h
  simp only [Array.toList_append,List.map_append,List.map_cons,List.map_nil,List.cons_append,List.nil_append,List.drop_succ_cons,List.drop_zero] at h
  have hres:Resolves a o C.P fid (c.args.toList.map a.eval):=fun w'=>by
   simp [execOp,ho,resolve,hcal,Act.eval,Deferred.ofValue,invoke,args_eval]
  split at h
  ·rename_i e he
   split at h
   ·rename_i t0 ts hts
    cases hargs:c.args.toList with
    | nil=>
     rw [hargs] at h
     simp only [List.map_nil,List.drop_nil] at h
     cases ts<;>exact absurd h.symm hR
    | cons x xs=>
     rw [hargs] at h hres
     simp only [List.map_cons,List.drop_succ_cons,List.drop_zero,List.getD_cons_succ,List.getD_cons_zero] at h
     obtain ⟨as,us,g1,h1,hf,hc,hst,hv⟩:=r.useAllF h hR
     exact OpS.callE hC r hd hR (hG fid) he hf hc hst hv hres h1
   ·exact absurd h.symm hR
  ·obtain ⟨as,us,g1,h1,hf,hc,hst,hv⟩:=r.useAllF h hR
   exact viaK (vals:=c.args.toList.map a.eval) hf hc hst hv hres h1
 ·
  rename_i x hnf hcal
  rw [hcal] at h
  simp only [Array.toList_append,List.map_append,List.map_cons,List.map_nil,List.cons_append,List.nil_append,List.getD_cons_zero,List.drop_succ_cons,List.drop_zero] at h
  split at h
  ·rename_i av e1
   obtain ⟨as,us,g1,h1,hf,hc,hst,hv⟩:=r.useAllF h hR
   have h1':mF av _=R:=h1
   obtain ⟨fn,fs,cs,rfl,h2⟩:=mF_inv h1' hR
   have hx:=V.later hst.chg.later _ _ (r.evv e1)
   obtain ⟨vf,vc,hu,hvf,hvc⟩:=V_F' hx
   have hall:VT g1 w (fs++as++cs) (vf++c.args.toList.map a.eval++vc):=VT_app _ _ _ _ (VT_app _ _ _ _ hvf hv) hvc
   split at h2
   ·have h3:dynP C.pure G fn (fs++as++cs) s.h _=R:=h2
    unfold dynP at h3
    split at h3
    ·rename_i fid
     split at h3
     ·rename_i hp
      refine OpS.pcallV hC r hd hR (hG fid) hp hf hc hst hall (fun w' => ?_) h3
      simp [execOp,ho,resolve,hcal,hu,Deferred.ofValue,invoke,args_eval]
     ·exact absurd h3.symm hR
    ·exact absurd h3.symm hR
   ·have h3:dynH C.pure G fn (fs++as++cs) s.h _=R:=h2
    unfold dynH at h3
    split at h3
    ·rename_i fid
     split at h3
     ·exact absurd h3.symm hR
     ·rename_i hp
      refine OpS.callF r hd hR (hG fid) hp hf hc hst hall (fun w' => ?_) h3
      simp [execOp,ho,resolve,hcal,hu,Deferred.ofValue,invoke,args_eval]
    ·exact absurd h3.symm hR
  ·exact absurd h.symm hR
theorem OpS.all (hC:OkC C) (r:Rel C nt g0 w0 g w f s a) (hd:∀x,o.dst=some x→nt.ok x) (hR:R ≠ .stuck) (hG:∀j,Sound C j (G j)) (h:opH C N G o s K R):OpS C nt g0 w0 s a w o K R:=by
 cases ho:o.op with
 | move x=>exact .move r hd hR ho h
 | assign x=>exact .assign r hd hR ho h
 | pick x y z=>exact .pick r hd hR ho h
 | alloc t=>exact .alloc r hd hR ho h
 | box t x=>exact .box r hd hR ho h
 | build t ps=>exact .build r hd hR ho h
 | buildSlice t n ps=>exact .buildSlice r hd hR ho h
 | load t x=>exact .load hC r hd hR ho h
 | store t x y=>exact .store r hd hR ho h
 | nilCheck x=>exact .nilCheck r hd hR ho h
 | binOp op t x y tt=>exact .binOp hC r hd hR ho h
 | unOp op t x=>exact .unOp hC r hd hR ho h
 | convert t d x=>exact .convert hC r hd hR ho h
 | makeInterface t x=>exact .makeInterface hC r hd hR ho h
 | makeFunc fn fs cs=>exact .makeFunc hC r hd hR ho h
 | makeSlice t x y=>exact .makeSlice hC r hd hR ho h
 | slice t x lo hi mx=>exact .slice hC r hd hR ho h
 | fieldAddr t x i=>exact .fieldAddr r hd hR ho h
 | field t x i=>exact .field r hd hR ho h
 | indexAddr t x y=>exact .indexAddr hC r hd hR ho h
 | index t x y=>exact .index hC r hd hR ho h
 | extract x i=>exact .extract r hd hR ho h
 | call c=>exact .call hC r hd hR hG ho h
 | panic x=>exact .panic hC r hd hR ho h
 | makeMap t rs=>exact .makeMap r hd hR ho h
 | lookup t x y ok=>exact .lookup r hd hR ho h
 | mapUpdate t x y z=>exact .mapUpdate r hd hR ho h
 | mapEntry t x y=>exact .mapEntry hC r hd hR ho h
 | entryStore t x y z=>exact .entryStore r hd hR ho h
 | _=>
  simp only [opH,opF,ho] at h
  exact absurd h.symm hR
end
end Go.Vm
namespace Go.Vm
open Go
section
variable {C:Cx} {N:Ann} {nt:NT} {g0 g:Gh} {w0 w:World} {f:Fr} {s:St} {a:Act} {o:Oper}
variable {K:Upd→Res} {R:Res} {G:FuncId→List AV→List HO→Res}
theorem VE.env_irrel {s s':St} (h1:s'.loc=s.loc) (h2:s'.h=s.h) (h3:s'.hv=s.hv) {e:EV} {u:Value} (h:VE g w f s e u):VE g w f s' e u:=by
 cases e<;>simp only [VE] at h ⊢ <;> first | exact h | (rw [h1];exact h) | (rw [h2,h3];exact h)
theorem Rel.putSame (r:Rel C nt g0 w0 g w f s a) {t:Nat} {e:EV} (h:s.env t=e):Rel C nt g0 w0 g w f (s.put (some t) e) a:=by
 refine ⟨r.ext,⟨r.core.heap,r.core.loc,r.core.wf⟩,fun j => ?_,r.glob,r.dfr,r.sz,r.fixed⟩
 have hj:=r.env j
 have:(s.put (some t) e).env j=s.env j:=by
  simp only [St.put]
  by_cases hjt:j=t
  ·subst hjt;simp [h]
  ·have:Nat.beq j t=false:=by
    rw [Bool.eq_false_iff]
    exact fun e'=>hjt (Nat.eq_of_beq_eq_true e')
   simp [this]
 rw [this]
 exact hj.env_irrel rfl rfl rfl
theorem Rel.putEV (r:Rel C nt g0 w0 g w f s a) {t:Nat} {e:EV} (h:VE g w f s e (a.tmps.getD t undef)):Rel C nt g0 w0 g w f (s.put (some t) e) a:=by
 refine ⟨r.ext,⟨r.core.heap,r.core.loc,r.core.wf⟩,fun j => ?_,r.glob,r.dfr,r.sz,r.fixed⟩
 simp only [St.put]
 by_cases hjt:j=t
 ·subst hjt
  simp only [Nat.beq_refl,cond_true]
  exact h.env_irrel rfl rfl rfl
 ·have:Nat.beq j t=false:=by
   rw [Bool.eq_false_iff]
   exact fun e'=>hjt (Nat.eq_of_beq_eq_true e')
  simp only [this,cond_false]
  exact (r.env j).env_irrel rfl rfl rfl
theorem Rel.putUn (r:Rel C nt g0 w0 g w f s a) (d:Option Nat) (hd:∀x,d=some x→nt.ok x):Rel C nt g0 w0 g w f (s.put d .un) (a.put d undef):=
 r.val hd rfl
theorem Rel.putU (r:Rel C nt g0 w0 g w f s a) (d:Option Nat) (hd:∀x,d=some x→nt.ok x):Rel C nt g0 w0 g w f (s.put d (.v .U)) (a.put d undef):=
 r.val hd trivial
theorem Core.freezeAll (L:List Nat):∀{g:Gh} {us:List (Nat×LOv)},FrzL s.loc us→Core g w f (s.withLocs us) →
  ∃us' g',FrzL s.loc us'∧Core g' w f (s.withLocs us')∧Stp g w f (s.withLocs us) g' w f (s.withLocs us')∧(∀i∈us.map (·.1),i∈us'.map (·.1))∧(∀i∈us'.map (·.1),i∈us.map (·.1)∨i∈L)∧∀k∈L,∀ver c ex,(s.withLocs us').loc k=⟨ver, .arr c ex⟩→ex=false:=by
 induction L with
 | nil=>intro g us hf hc;exact ⟨us,g,hf,hc,Stp.refl _ _ _ _,fun _ h=>h,fun _ h => .inl h,fun k hk=>by cases hk⟩
 | cons k L ih=>
  intro g us hf hc
  have step:∃us' g',FrzL s.loc us'∧Core g' w f (s.withLocs us')∧Stp g w f (s.withLocs us) g' w f (s.withLocs us')∧(∀i∈us.map (·.1),i∈us'.map (·.1))∧(∀i∈us'.map (·.1),i∈us.map (·.1)∨i=k)∧(∀ver c,s.loc k=⟨ver, .arr c true⟩→k∈us'.map (·.1)):=by
   cases hl:s.loc k with
   | mk ver lo=>
    cases lo with
    | no=>exact ⟨us,g,hf,hc,Stp.refl _ _ _ _,fun _ h=>h,fun _ h => .inl h,fun _ _ e=>by cases e⟩
    | box m cs=>exact ⟨us,g,hf,hc,Stp.refl _ _ _ _,fun _ h=>h,fun _ h => .inl h,fun _ _ e=>by cases e⟩
    | arr c ex=>
     cases ex with
     | false=>exact ⟨us,g,hf,hc,Stp.refl _ _ _ _,fun _ h=>h,fun _ h => .inl h,fun _ _ e=>by cases e⟩
     | true=>
      obtain ⟨g',h0,h1,h2,h3⟩:=hc.freeze hf hl
      refine ⟨_,g',?_,h1,h2,fun i hi=>by simp only [List.map_cons,List.mem_cons];exact .inr hi,fun i hi=>by simp only [List.map_cons,List.mem_cons] at hi;exact hi.symm,fun _ _ _=>by simp⟩
      intro p hp
      rcases List.mem_cons.1 hp with rfl | hp
      ·exact ⟨ver,c,hl,rfl⟩
      ·exact hf p hp
  obtain ⟨us1,g1,f1,c1,s1,m1,n1,q1⟩:=step
  obtain ⟨us2,g2,f2,c2,s2,m2,n2,q2⟩:=ih f1 c1
  refine ⟨us2,g2,f2,c2,s1.trans hc.heap.len s2,fun i hi=>m2 i (m1 i hi),fun i hi=>(n2 i hi).elim (fun h=>(n1 i h).elim .inl fun e => .inr (by rw [e];simp)) fun h => .inr (List.mem_cons_of_mem _ h),fun j hj ver c ex e => ?_⟩
  rcases List.mem_cons.1 hj with rfl | hj
  ·have e':setLocs s.loc us2 j=⟨ver, .arr c ex⟩:=e
   rw [setLocs_frz f2] at e'
   by_cases hm:j∈us2.map (·.1)
   ·rw [if_pos hm] at e'
    unfold freezeLo at e'
    split at e'
    ·cases e';rfl
    ·rename_i hne
     exact absurd e' (hne ver c ex)
   ·rw [if_neg hm] at e'
    cases ex with
    | false=>rfl
    | true=>exact absurd (m2 j (q1 ver c e')) hm
  ·exact q2 j hj ver c ex e
theorem lk_map (l:List Nat) (F:Nat→EV) (t:Nat):lk t (l.map fun t=>(t,F t))=if t∈l then F t else .v .U:=by
 induction l with
 | nil=>rfl
 | cons x l ih=>
  simp only [List.map_cons,lk,List.mem_cons]
  by_cases e:t=x
  ·subst e;simp
  ·have:Nat.beq x t=false:=by
    rw [Bool.eq_false_iff]
    exact fun e'=>e (Nat.eq_of_beq_eq_true e').symm
   simp only [this,cond_false,ih,e,false_or]
theorem lkL_map (l:List Nat) (F:Nat→LOv) (t:Nat):lkL t (l.map fun t=>(t,F t))=if t∈l then F t else ⟨0, .no⟩:=by
 induction l with
 | nil=>rfl
 | cons x l ih=>
  simp only [List.map_cons,lkL,List.mem_cons]
  by_cases e:t=x
  ·subst e;simp
  ·have:Nat.beq x t=false:=by
    rw [Bool.eq_false_iff]
    exact fun e'=>e (Nat.eq_of_beq_eq_true e').symm
   simp only [this,cond_false,ih,e,false_or]
theorem fixLO_box {k:Nat} {l:LOv} {m:Nat} {cs:List HV} (e:(fixLO N k l).lo = .box m cs):∃m' cs',l.lo = .box m' cs':=by
 obtain ⟨v,lo⟩:=l
 cases lo with
 | no=>cases e
 | box m cs=>exact ⟨_,_,rfl⟩
 | arr c ex=>cases e
theorem fixLO_arr {k:Nat} {l:LOv} {c:SC} {ex:Bool} (e:(fixLO N k l).lo = .arr c ex):∃ex',l.lo = .arr c ex':=by
 obtain ⟨v,lo⟩:=l
 cases lo with
 | no=>cases e
 | box m cs=>cases e
 | arr c' ex'=>
  simp only [fixLO,LO.arr.injEq] at e
  rw [e.1]
  exact ⟨_,rfl⟩
theorem Rel.nrm (r:Rel C nt g0 w0 g w f s a) (i:Option Nat):∃g',Rel C nt g0 w0 g' w f (nrm N i s) a:=by
 unfold Vm.nrm
 cases hi:i.bind N.live with
 | none=>exact ⟨g,r⟩
 | some ls=>
  obtain ⟨live,sites⟩:=ls
  simp only
  let L:List Nat:=(sites++live.filterMap fun t=>(s.env t).site).filter fun k => !N.excl k
  obtain ⟨us,g1,hf,hc,hst,_,honly,hfrz⟩:=Core.freezeAll (s:=s) (us:=[]) L (fun _ hp=>(by cases hp)) r.core
  have hlen:=r.core.heap.len
  have henv:∀t,VE g1 w f (s.withLocs us) (s.env t) (a.tmps.getD t undef):=fun t=>(r.env t).stp hlen hst
  have hver:∀k,((s.withLocs us).loc k).ver=(s.loc k).ver:=withLocs_ver hf
  have hlo:∀k,(s.withLocs us).loc k=if k∈us.map (·.1) then freezeLo (s.loc k) else s.loc k:=fun k=>setLocs_frz hf k
  have frozenL:∀k∈L,∀ver c ex,s.loc k=⟨ver, .arr c ex⟩→SR g1 w (.arr k) c false (f.hd k):=by
   intro k hk ver c ex e
   have h0:=hc.loc k
   have h1:∃ex',(s.withLocs us).loc k=⟨ver, .arr c ex'⟩:=by
    rw [hlo]
    split
    ·rw [e];exact ⟨false,rfl⟩
    ·exact ⟨ex,e⟩
   obtain ⟨ex',h1⟩:=h1
   have:=hfrz k hk ver c ex' h1
   subst this
   unfold LR at h0
   rw [h1] at h0
   exact h0
  have fix:∀(s2:St),(∀k,sites.contains k=true→s2.loc k=fixLO N k (s.loc k))→∀(e:EV) (u:Value),VE g1 w f (s.withLocs us) e u→VE g1 w f s2 (fixEV s sites e) u:=by
   intro s2 site e u h
   cases e with
   | v x=>exact h
   | nil=>exact h
   | ep n cs off=>exact h
   | ag cs=>exact h
   | hb k ver m off x=>exact h.1
   | hh id off hv x=>exact h.1
   | un=>trivial
   | ub=>trivial
   | lw k ver off=>trivial
   | lp k ver off=>
    simp only [fixEV]
    split
    ·rename_i hk
     obtain ⟨h1,h2⟩:=h
     rw [hver] at h1 h2
     refine ⟨Nat.zero_le _,fun _ m cs e => ?_⟩
     rw [site k hk.1] at e
     have:=fixLO_box e
     obtain ⟨m',cs',e1⟩:=this
     exact h2 hk.2.symm m' cs' (by
      rw [hlo]
      split
      ·unfold freezeLo;split
       ·rename_i e2;rw [e2] at e1;cases e1
       ·exact e1
      ·exact e1)
    ·trivial
   | ls k ver=>
    simp only [fixEV]
    split
    ·rename_i hk
     obtain ⟨h1,h2⟩:=h
     rw [hver] at h1 h2
     refine ⟨Nat.zero_le _,fun _ c ex e => ?_⟩
     rw [site k hk.1] at e
     have:∃c' ex',(s.loc k).lo = .arr c' ex':=⟨c,fixLO_arr e⟩
     obtain ⟨c',ex',e1⟩:=this
     have:∃ex2,((s.withLocs us).loc k).lo = .arr c' ex2:=by
      rw [hlo]
      split
      ·unfold freezeLo;split
       ·rename_i e2;rw [e2] at e1;cases e1;exact ⟨_,rfl⟩
       ·exact ⟨_,e1⟩
      ·exact ⟨_,e1⟩
     obtain ⟨ex2,e3⟩:=this
     exact h2 hk.2.symm c' ex2 e3
    ·trivial
   | le k ver j off=>
    simp only [fixEV]
    split
    ·rename_i hk
     obtain ⟨h1,h2⟩:=h
     rw [hver] at h1 h2
     refine ⟨Nat.zero_le _,fun _ c ex e => ?_⟩
     rw [site k hk.1] at e
     have:=fixLO_arr e
     obtain ⟨ex',e1⟩:=this
     have:∃ex2,((s.withLocs us).loc k).lo = .arr c ex2:=by
      rw [hlo]
      split
      ·unfold freezeLo;split
       ·rename_i e2;rw [e2] at e1;cases e1;exact ⟨_,rfl⟩
       ·exact ⟨_,e1⟩
      ·exact ⟨_,e1⟩
     obtain ⟨ex2,e3⟩:=this
     exact h2 hk.2.symm c ex2 e3
    ·trivial
  have hsite:∀k,sites.contains k=true→(mkSt (live.map fun t=>(t,if (N.asV t||offS sites (s.env t))=true then fixEV s sites (toV N s (s.env t)) else fixEV s sites (s.env t))) (sites.map fun k=>(k,fixLO N k (s.loc k))) s.h).loc k=fixLO N k (s.loc k):=by
   intro k hk
   show lkL k _=_
   rw [lkL_map,if_pos (by simpa using hk)]
  refine ⟨g1,r.ext.trans hst.chg fun b hb hB hn=>hB ((r.ext.ow b hb (fun x=>x hn)).trans hn),⟨hc.heap,fun k => ?_,hc.wf⟩,fun t => ?_,fun gi cs hg=>GV.later hst.chg.later gi cs (r.glob gi cs hg),r.dfr.chg hst.chg (fun _ h=>h),r.sz,r.fixed⟩
  ·show LR g1 w f.be f.hd k (lkL k _)
   rw [lkL_map]
   split
   ·rename_i hk
    have h0:=hc.loc k
    cases hl:s.loc k with
    | mk ver lo=>
     cases lo with
     | no=>trivial
     | box m cs=>
      rw [hlo] at h0
      have:(if k∈us.map (·.1) then freezeLo (s.loc k) else s.loc k)=⟨ver, .box m cs⟩:=by
       rw [hl];split<;>rfl
      rw [this] at h0
      exact h0
     | arr c ex=>
      simp only [fixLO]
      cases hex:N.excl k with
      | false=>
       refine frozenL k ?_ ver c ex hl
       simp only [L,List.mem_filter,List.mem_append]
       exact ⟨.inl hk,by simp [hex]⟩
      | true=>
       simp only [if_true]
       cases ex with
       | true=>
        rw [hlo] at h0
        have hno:k ∉ us.map (·.1):=fun hm=>by
         rcases honly k hm with h | h
         ·cases h
         ·simp only [L,List.mem_filter] at h
          simp [hex] at h
        rw [if_neg hno,hl] at h0
        exact h0
       | false=>
        rw [hlo] at h0
        have:(if k∈us.map (·.1) then freezeLo (s.loc k) else s.loc k)=⟨ver, .arr c false⟩:=by
         rw [hl];split<;>rfl
        rw [this] at h0
        exact h0
   ·trivial
  ·show VE _ _ _ _ (lk t _) _
   rw [lk_map]
   split
   ·rename_i ht
    by_cases hv:(N.asV t||offS sites (s.env t))=true
    ·rw [if_pos hv]
     refine fix _ hsite _ _ ?_
     unfold toV
     split
     ·rename_i k ver e
      split
      ·rename_i ver' c ex el
       split
       ·rename_i hk
        obtain ⟨rfl,hex⟩:=hk
        have hsr:=frozenL k (by
         simp only [L,List.mem_filter,List.mem_append,List.mem_filterMap]
         exact ⟨.inr ⟨t,ht,by rw [e];rfl⟩,by simp [hex]⟩) ver c ex el
        have hve:=r.env t
        rw [e] at hve
        have:=hve.2 (by rw [el]) c ex (by rw [el])
        rw [this]
        exact SR.toV hsr
       ·trivial
      ·trivial
     ·exact henv t
    ·rw [if_neg hv]
     exact fix _ hsite _ _ (henv t)
   ·trivial
end
end Go.Vm
namespace Go.Vm
open Go
section
variable {C:Cx} {N:Ann} {nt:NT} {g0 g:Gh} {w0 w:World} {f:Fr} {s:St} {a:Act} {o:Oper}
variable {K:Upd→Res} {R:Res} {G:FuncId→List AV→List HO→Res}
theorem Rel.yields (r:Rel C nt g0 w0 g w f s a) {all:Array Oper} {j gt:Nat} {b:Bool} (hj:(all[j]?).bind (·.dst)=some gt) (he:s.env gt = .v (.B b)):yielded all a.tmps j=some b:=by
 have h:=r.env gt
 rw [he] at h
 have h':a.tmps.getD gt undef = .bool b:=V_B' (g:=g) (w:=w) h
 unfold yielded
 rw [hj]
 simp only [Option.bind_some]
 rw [Array.getD_eq_getD_getElem?] at h'
 cases e:a.tmps[gt]? with
 | none=>rw [e] at h';cases h'
 | some v=>rw [e] at h';simp only [Option.getD_some] at h';rw [h']
theorem Rel.yields_un (r:Rel C nt g0 w0 g w f s a) {all:Array Oper} {j gt:Nat} (hj:(all[j]?).bind (·.dst)=some gt) (he:s.env gt = .un):yielded all a.tmps j=none:=by
 have h:=r.env gt
 rw [he] at h
 have h':a.tmps.getD gt undef=undef:=h
 unfold yielded
 rw [hj]
 simp only [Option.bind_some]
 rw [Array.getD_eq_getD_getElem?] at h'
 cases e:a.tmps[gt]? with
 | none=>rfl
 | some v=>rw [e] at h';simp only [Option.getD_some] at h';rw [h'];rfl
def FR (ro:Option Nat):Fence := { Fence.wide with round:=ro }
theorem uponIn_of {P:Program} {ro:Option Nat} {n:Nat} {next:Act→World→Prop} {Q:Exit→Act→World→Prop} {r:Result Next} (h:o.upon P a next Q r):o.uponIn (FR ro) n P a next Q r:=by
 cases r with
 | ok x w'=>
  cases x<;>simp only [Oper.upon] at h<;>simp only [Oper.uponIn]<;>first | exact h | (exact h.elim) | skip
  ·exact ⟨fun h=>by simp [FR,Fence.wide] at h,callsIn_wide.2 h⟩
  ·refine ⟨fun h=>by simp [FR,Fence.wide] at h,fun c cs _ => ?_⟩
   obtain ⟨v,w'',h1,h2⟩:=h c cs
   exact ⟨v,w'',h1,stepsIn_wide.2 h2⟩
 | halt x w'=>cases x<;>simp only [Oper.upon] at h<;>simp only [Oper.uponIn]<;>first | exact h | exact h.elim
theorem opIn {P:Program} {ro:Option Nat} {n:Nat} {next:Act→World→Prop} {Q:Exit→Act→World→Prop} (hnd:∀c,o.op ≠ .defer c) (h:o.wp P a w next Q):o.wpIn (FR ro) n P a w next Q:=
 ⟨fun _ _=>trivial,by rw [Oper.semAt_eq _ _ _ hnd];exact uponIn_of h⟩
theorem opH_nodefer (hR:R ≠ .stuck) (h:opH C N G o s K R):∀c,o.op ≠ .defer c:=by
 intro c ho
 simp only [opH,opF,ho] at h
 exact absurd h.symm hR
def PanAll (nt:NT) (g0:Gh) (w0:World) (Q:Exit→Act→World→Prop) (R:Res):Prop:=bif nt.mks then (∀v h,R ≠ .pan v h) else ∀a:Act,a.defers=g0.df→PanQ g0 w0 a Q R
theorem PanAll.get {Q:Exit→Act→World→Prop} (h:PanAll nt g0 w0 Q R) (r:Rel C nt g0 w0 g w f s a):PanQ g0 w0 a Q R:=by
 unfold PanAll at h
 have hd:=r.dfr
 cases hm:nt.mks with
 | false=>
  rw [hm] at h hd
  exact h a hd
 | true=>
  rw [hm] at h
  intro v h' u g' w' e
  exact absurd e (h v h')
def dstOK (nt:NT) (all:Array Oper):Bool:=all.toList.all fun o=>match o.dst with
 | some d=>Nat.blt d nt.n && !nt.fix.any (Nat.beq d)
 | none=>true
theorem dstOK_get {all:Array Oper} (h:dstOK nt all=true) {i:Nat} (hi:all[i]? = some o):∀x,o.dst=some x→nt.ok x:=by
 intro x hx
 have hm:o∈all.toList:=by
  rw [←Array.getElem?_toList] at hi
  exact List.mem_of_getElem? hi
 have:=List.all_eq_true.1 h o hm
 rw [hx] at this
 simp only [Bool.and_eq_true,Bool.not_eq_true'] at this
 exact ⟨by simpa using this.1,this.2⟩
theorem aOps_pre {ro:Option Nat} {n:Nat} (hC:OkC C) (hR:R ≠ .stuck) (hG:∀j,Sound C j (G j)) {all:Array Oper} (hdst:dstOK nt all=true) {kn:St→Res} {Q:Exit→Act→World→Prop} (hpan:PanAll nt g0 w0 Q R) (post:List Oper) :
  ∀(l:List Oper) (i:Nat),all.toList.drop i=l++post→(∀g w f s a,Rel C nt g0 w0 g w f s a→kn s=R→wpOpsIn (FR ro) n C.P all Q ((List.range all.size).drop (i+l.length)) a w) →
  ∀(g:Gh) (w:World) (f:Fr) (s:St) (a:Act),Rel C nt g0 w0 g w f s a→aOps (stdAlg C.pure G) C N all l s kn=R →
   wpOpsIn (FR ro) n C.P all Q ((List.range all.size).drop i) a w:=by
 intro l
 induction l with
 | nil=>
  intro i hl hQ g w f s a r h
  exact hQ g w f s a r h
 | cons o l ih=>
  intro i hl hQ g w f s a r h
  rw [List.cons_append] at hl
  have hQ':∀g w f s a,Rel C nt g0 w0 g w f s a→kn s=R→wpOpsIn (FR ro) n C.P all Q ((List.range all.size).drop (i+1+l.length)) a w:=fun g w f s a r h=>by
   have:=hQ g w f s a r h
   rw [List.length_cons,show i+(l.length+1)=i+1+l.length by omega] at this
   exact this
  have hi:i<all.size:=by
   rw [←Array.length_toList]
   rcases Nat.lt_or_ge i all.toList.length with h | h
   ·exact h
   ·rw [List.drop_eq_nil_iff.2 h] at hl;cases hl
  have ho:all[i]? = some o:=by
   rw [List.drop_eq_getElem_cons (by simpa using hi)] at hl
   simp only [List.cons.injEq] at hl
   rw [Array.getElem?_eq_getElem hi]
   simpa using hl.1
  have hl':all.toList.drop (i+1)=l++post:=by
   rw [List.drop_eq_getElem_cons (by simpa using hi)] at hl
   simp only [List.cons.injEq] at hl
   exact hl.2
  have hr:(List.range all.size).drop i=i::(List.range all.size).drop (i+1):=by
   rw [List.drop_eq_getElem_cons (by simpa using hi)]
   simp
  rw [hr]
  have hd:=dstOK_get hdst ho
  have run:∀(s:St),Rel C nt g0 w0 g w f s a→op1 (stdAlg C.pure G) C N o s (fun s'=>aOps (stdAlg C.pure G) C N all l s' kn)=R →
    o.wpIn (FR ro) n C.P a w (wpOpsIn (FR ro) n C.P all Q ((List.range all.size).drop (i+1))) Q:=by
   intro s r h
   have:=OpS.all (N:=N) hC r hd hR hG (o:=o) (K:=fun u=>aOps (stdAlg C.pure G) C N all l (u.on o.dst s) kn) h
   exact opIn (opH_nodefer (N:=N) (K:=fun u=>aOps (stdAlg C.pure G) C N all l (u.on o.dst s) kn) hR h) (this _ Q (fun u g' w' f' a' hk hrel=>ih (i+1) hl' hQ' g' w' f' _ a' hrel hk) (hpan.get r))
  simp only [wpOpsIn,ho]
  simp only [aOps] at h
  split at h
  ·rename_i hg
   rw [if_pos (by simp [Region.wanted,hg])]
   exact run s r h
  ·rename_i j want hg
   split at h
   ·exact absurd h.symm hR
   ·rename_i gt hj
    split at h
    ·rename_i av he
     obtain ⟨b,rfl,h1⟩:=mB_inv h hR
     have hy:=r.yields hj he
     have hw:Region.wanted o (yielded all a.tmps)=(b == want):=by
      simp only [Region.wanted,hg,hy]
      cases b<;>cases want<;>rfl
     have body:∀b',b'=b→(if b'=want then op1 (stdAlg C.pure G) C N o (s.put (some gt) (.v (.B b'))) (fun s'=>aOps (stdAlg C.pure G) C N all l s' kn) else aOps (stdAlg C.pure G) C N all l ((s.put (some gt) (.v (.B b'))).put o.dst .un) kn)=R →
       if Region.wanted o (yielded all a.tmps)=true then o.wpIn (FR ro) n C.P a w (wpOpsIn (FR ro) n C.P all Q ((List.range all.size).drop (i+1))) Q else (∀f,o.about C.P w a.eval=some f→(FR ro).fn f)∧wpOpsIn (FR ro) n C.P all Q ((List.range all.size).drop (i+1)) (a.put o.dst undef) w:=by
      intro b' hb h9
      subst hb
      have r':=r.putSame he
      rw [hw]
      by_cases hbw:b'=want
      ·rw [if_pos hbw] at h9
       rw [if_pos (by simp [hbw])]
       exact run _ r' h9
      ·rw [if_neg hbw] at h9
       rw [if_neg (by simpa using hbw)]
       exact ⟨fun _ _=>trivial,ih (i+1) hl' hQ' g w f _ _ (r'.putUn o.dst hd) h9⟩
     rcases bIte_inv h1 with ⟨hb,h2⟩ | ⟨hb,h2⟩
     ·exact body true hb.symm h2
     ·exact body false hb.symm h2
    ·rename_i he
     have hy:yielded all a.tmps j=none:=r.yields_un hj he
     have hw:Region.wanted o (yielded all a.tmps)=false:=by
      simp only [Region.wanted,hg,hy]
      rfl
     rw [hw]
     exact ⟨fun _ _=>trivial,ih (i+1) hl' hQ' g w f _ _ (r.putUn o.dst hd) h⟩
    ·exact absurd h.symm hR
theorem aOps_sound {ro:Option Nat} {n:Nat} (hC:OkC C) (hR:R ≠ .stuck) (hG:∀j,Sound C j (G j)) {all:Array Oper} (hdst:dstOK nt all=true) {kn:St→Res} {Q:Exit→Act→World→Prop} (hpan:PanAll nt g0 w0 Q R)
  (hQ:∀g w f s a,Rel C nt g0 w0 g w f s a→kn s=R→Q .normal a w) (l:List Oper) (i:Nat) (g:Gh) (w:World) (f:Fr) (s:St) (a:Act) (hl:all.toList.drop i=l) (r:Rel C nt g0 w0 g w f s a) (h:aOps (stdAlg C.pure G) C N all l s kn=R) :
   wpOpsIn (FR ro) n C.P all Q ((List.range all.size).drop i) a w:=by
 refine aOps_pre (ro:=ro) (n:=n) hC hR hG hdst hpan [] l i (by simpa using hl) (fun g w f s a r h => ?_) g w f s a r h
 have hi:all.size≤i+l.length:=by
  have:=congrArg List.length hl
  simp only [List.length_drop,Array.length_toList] at this
  omega
 rw [List.drop_eq_nil_iff.2 (by simpa using hi)]
 exact hQ g w f s a r h
end
end Go.Vm
namespace Go.Vm
open Go
section
variable {C:Cx} {N:Ann} {G:FuncId→List AV→List HO→Res} {T:Res→Res→Prop}
section words
variable (hs:T .stuck .stuck)
include hs
theorem T_chk {b:Bool} {r1 r2:Res} (h:T r1 r2):T (chk b r1) (chk b r2):=by cases b;exact hs;exact h
omit hs in
theorem T_bIte {b:Bool} {r1 r2 q1 q2:Res} (h:T r1 r2) (h':T q1 q2):T (bIte b r1 q1) (bIte b r2 q2):=by cases b;exact h';exact h
theorem T_mI {k:IntKind} {a:AV} {F1 F2:Int→Res} (h:∀n,T (F1 n) (F2 n)):T (mI k a F1) (mI k a F2):=by
 unfold mI;split
 ·split
  ·exact h _
  ·exact hs
 ·exact hs
theorem T_mN {a:AV} {F1 F2:Int→Res} (h:∀n,T (F1 n) (F2 n)):T (mN a F1) (mN a F2):=by
 unfold mN;split
 ·exact h _
 ·exact hs
theorem T_mB {a:AV} {F1 F2:Bool→Res} (h:∀n,T (F1 n) (F2 n)):T (mB a F1) (mB a F2):=by
 unfold mB;split
 ·exact h _
 ·exact hs
theorem T_mS {a:AV} {F1 F2:List UInt8→Res} (h:∀n,T (F1 n) (F2 n)):T (mS a F1) (mS a F2):=by
 unfold mS;split
 ·exact h _
 ·exact hs
theorem T_mY {a:AV} {F1 F2:List UInt8→Res} (h:∀n,T (F1 n) (F2 n)):T (mY a F1) (mY a F2):=by
 unfold mY;split
 ·exact h _
 ·exact hs
theorem T_mL {n:Nat} {a:AV} {F1 F2:List (List AV)→Res} (h:∀n,T (F1 n) (F2 n)):T (mL n a F1) (mL n a F2):=by
 unfold mL;split
 ·split
  ·exact h _
  ·exact hs
 ·exact hs
theorem T_mLen {a:AV} {F1 F2:Nat→Res} (h:∀n,T (F1 n) (F2 n)):T (mLen a F1) (mLen a F2):=by
 unfold mLen;split
 ·exact h _
 ·exact h _
 ·exact hs
theorem T_mA {n:Nat} {a:AV} {F1 F2:List AV→Res} (h:∀n,T (F1 n) (F2 n)):T (mA n a F1) (mA n a F2):=by
 unfold mA;split
 ·split
  ·exact h _
  ·exact hs
 ·exact hs
theorem T_mT {n:Nat} {a:AV} {F1 F2:List AV→Res} (h:∀n,T (F1 n) (F2 n)):T (mT n a F1) (mT n a F2):=by
 unfold mT;split
 ·split
  ·exact h _
  ·exact hs
 ·exact hs
omit hs in
theorem T_mW {a:AV} {F1 F2:Nat→Res} {e1 e2:Res} (h:∀n,T (F1 n) (F2 n)) (he:T e1 e2):T (mW a F1 e1) (mW a F2 e2):=by
 cases a with
 | W id=>exact h id
 | _=>exact he
theorem T_mP {a:AV} {F1 F2:Nat→Nat→Res} (h:∀n m,T (F1 n m) (F2 n m)):T (mP a F1) (mP a F2):=by
 unfold mP;split
 ·exact h _ _
 ·exact hs
theorem T_mF {a:AV} {F1 F2:Fn→List AV→List AV→Res} (h:∀n m k,T (F1 n m k) (F2 n m k)):T (mF a F1) (mF a F2):=by
 unfold mF;split
 ·exact h _ _ _
 ·exact hs
theorem T_mX {a:AV} {F1 F2:TypeId→AV→Res} (h:∀n m,T (F1 n m) (F2 n m)):T (mX a F1) (mX a F2):=by
 unfold mX;split
 ·exact h _ _
 ·exact hs
theorem T_mGe {t:TypeId} {n:Nat} {x:HV} {F1 F2:List (List AV)→Res} (h:∀n,T (F1 n) (F2 n)):T (mGe t n x F1) (mGe t n x F2):=by
 unfold mGe;split
 ·split
  ·exact h _
  ·exact hs
 ·exact hs
theorem T_mGy {t:TypeId} {x:HV} {F1 F2:List UInt8→Res} (h:∀n,T (F1 n) (F2 n)):T (mGy t x F1) (mGy t x F2):=by
 unfold mGy;split
 ·split
  ·exact h _
  ·exact hs
 ·exact hs
theorem T_mC {hp:List HO} {id off:Nat} {F1 F2:HV→Res} (h:∀n,T (F1 n) (F2 n)):T (mC hp id off F1) (mC hp id off F2):=by
 unfold mC;split
 ·split
  ·exact h _
  ·exact hs
 ·exact hs
theorem T_mO {hp:List HO} {id:Nat} {F1 F2:List HV→Res} (h:∀n,T (F1 n) (F2 n)):T (mO hp id F1) (mO hp id F2):=by
 unfold mO;split
 ·exact h _
 ·exact hs
theorem T_ix {n:Int} {len:Nat} {F1 F2:Nat→Res} (h:∀n,T (F1 n) (F2 n)):T (ix n len F1) (ix n len F2):=by
 unfold ix;split
 ·exact h _
 ·exact hs
theorem T_eqs {ks:List FK} {as bs:List AV} {F1 F2:Bool→Res} (h:∀n,T (F1 n) (F2 n)):T (eqs ks as bs F1) (eqs ks as bs F2):=by
 unfold eqs;split
 ·exact h _
 ·exact hs
theorem T_isN {a:AV} {F1 F2:Bool→Res} (h:∀n,T (F1 n) (F2 n)):T (isN a F1) (isN a F2):=by
 unfold isN;split
 ·exact h _
 ·exact h _
 ·exact hs
theorem T_isF {a:AV} {F1 F2:Bool→Res} (h:∀n,T (F1 n) (F2 n)):T (isF a F1) (isF a F2):=by
 unfold isF;split
 ·exact h _
 ·exact h _
 ·exact hs
theorem T_isX {a:AV} {F1 F2:Bool→Res} (h:∀n,T (F1 n) (F2 n)):T (isX a F1) (isX a F2):=by
 unfold isX;split
 ·exact h _
 ·exact h _
 ·exact hs
theorem T_isM {a:AV} {F1 F2:Bool→Res} (h:∀n,T (F1 n) (F2 n)):T (isM a F1) (isM a F2):=by
 unfold isM;split
 ·exact h _
 ·exact h _
 ·exact hs
theorem T_mM {a:AV} {hp hp':List HO} (hh:∀id,a = .M id→hp'[id]? = hp[id]?) {F1 F2:Nat→List (AV×AV)→Res} (h:∀n es,T (F1 n es) (F2 n es)):T (mM a hp F1) (mM a hp' F2):=by
 unfold mM;split
 ·rw [hh _ rfl]
  split
  ·split
   ·exact hs
   ·exact h _ _
  ·exact hs
 ·exact hs
theorem T_mMd {a:AV} {hp hp':List HO} (hh:∀id,a = .M id→hp'[id]? = hp[id]?) {F1 F2:Nat→Bool→List (AV×AV)→Res} (h:∀n d es,T (F1 n d es) (F2 n d es)):T (mMd a hp F1) (mMd a hp' F2):=by
 unfold mMd;split
 ·rw [hh _ rfl]
  split
  ·exact h _ _ _
  ·exact hs
 ·exact hs
theorem T_mMl {a:AV} {hp hp':List HO} (hh:∀id,a = .M id→hp'[id]? = hp[id]?) {F1 F2:List (AV×AV)→Res} (h:∀es,T (F1 es) (F2 es)):T (mMl a hp F1) (mMl a hp' F2):=by
 unfold mMl;split
 ·exact h _
 ·rw [hh _ rfl]
  split
  ·exact h _
  ·exact hs
 ·exact hs
theorem T_fnd {k:IntKind} {n:Int} {es:List (AV×AV)} {F1 F2:Option AV→Res} (h:∀r,T (F1 r) (F2 r)):T (fnd k n es F1) (fnd k n es F2):=by
 unfold fnd;split
 ·exact h _
 ·exact hs
theorem T_ecall {fid:FuncId} {as:List AV} {F1 F2:AV→Res} (hF:∀v,T (F1 v) (F2 v)):T (ecall (noPan G fid) as F1) (ecall (noPan G fid) as F2):=by
 unfold ecall
 split
 ·unfold noPan noPan1
  cases G fid as [.no] with
  | ret v hh=>
   simp only
   split
   ·exact hF _
   ·exact hs
  | _=>exact hs
 ·exact hs
theorem T_m1 {a:AV} {r1 r2:Res} (h:T r1 r2):T (m1 a r1) (m1 a r2):=by
 unfold m1;split<;>first | exact hs | exact h
theorem T_bRes {fid:FuncId} {as:List AV} {h:List HO} {F1 F2:AV→List HO→Res} (hF:∀v h,T (F1 v h) (F2 v h)):T (bRes (noPan G fid as h) F1) (bRes (noPan G fid as h) F2):=by
 unfold noPan noPan1
 cases G fid as h<;>first | exact hs | exact hF _ _
theorem T_pcall {fid:FuncId} {as:List AV} {h h':List HO} {F1 F2:AV→Res} (hF:∀v,T (F1 v) (F2 v)):T (pcall (noPan G fid) as h F1) (pcall (noPan G fid) as h' F2):=by
 unfold pcall
 split
 ·unfold noPan noPan1
  cases G fid as [] with
  | ret v hh=>
   simp only
   split
   ·exact hF _
   ·exact hs
  | _=>exact hs
 ·exact hs
theorem T_dynP {pu:FuncId→Bool} {fn:Fn} {as:List AV} {h h':List HO} {F1 F2:AV→Res} (hF:∀v,T (F1 v) (F2 v)):T (dynP pu (noPan G) fn as h F1) (dynP pu (noPan G) fn as h' F2):=by
 unfold dynP
 split
 ·split
  ·exact T_pcall hs hF
  ·exact hs
 ·exact hs
theorem T_dynH {pu:FuncId→Bool} {fn:Fn} {as:List AV} {h:List HO} {F1 F2:AV→List HO→Res} (hF:∀v h,T (F1 v h) (F2 v h)):T (dynH pu (noPan G) fn as h F1) (dynH pu (noPan G) fn as h F2):=by
 unfold dynH
 split
 ·split
  ·exact hs
  ·exact T_bRes hs hF
 ·exact hs
theorem T_ix' {pu:FuncId→Bool} {G':FuncId→List AV→List HO→Res} {n:Int} {len:Nat} {F1 F2:Nat→Res} (h:∀n,T (F1 n) (F2 n)):T ((stdAlg pu G').ix n len F1) ((stdAlg pu G').ix n len F2):=T_ix hs h
theorem T_mLen' {pu:FuncId→Bool} {G':FuncId→List AV→List HO→Res} {a:AV} {F1 F2:Nat→Res} (h:∀n,T (F1 n) (F2 n)):T ((stdAlg pu G').mLen a F1) ((stdAlg pu G').mLen a F2):=T_mLen hs h
theorem T_isN' {pu:FuncId→Bool} {G':FuncId→List AV→List HO→Res} {a:AV} {F1 F2:Bool→Res} (h:∀n,T (F1 n) (F2 n)):T ((stdAlg pu G').isN a F1) ((stdAlg pu G').isN a F2):=T_isN hs h
theorem T_isF' {pu:FuncId→Bool} {G':FuncId→List AV→List HO→Res} {a:AV} {F1 F2:Bool→Res} (h:∀n,T (F1 n) (F2 n)):T ((stdAlg pu G').isF a F1) ((stdAlg pu G').isF a F2):=T_isF hs h
theorem T_isX' {pu:FuncId→Bool} {G':FuncId→List AV→List HO→Res} {a:AV} {F1 F2:Bool→Res} (h:∀n,T (F1 n) (F2 n)):T ((stdAlg pu G').isX a F1) ((stdAlg pu G').isX a F2):=T_isX hs h
theorem T_isM' {pu:FuncId→Bool} {G':FuncId→List AV→List HO→Res} {a:AV} {F1 F2:Bool→Res} (h:∀n,T (F1 n) (F2 n)):T ((stdAlg pu G').isM a F1) ((stdAlg pu G').isM a F2):=T_isM hs h
theorem T_mM' {pu:FuncId→Bool} {G':FuncId→List AV→List HO→Res} {a:AV} {hp hp':List HO} (hh:∀id,a = .M id→hp'[id]? = hp[id]?) {F1 F2:Nat→List (AV×AV)→Res} (h:∀n es,T (F1 n es) (F2 n es)):T ((stdAlg pu G').mM a hp F1) ((stdAlg pu G').mM a hp' F2):=T_mM hs hh h
theorem T_mMd' {pu:FuncId→Bool} {G':FuncId→List AV→List HO→Res} {a:AV} {hp hp':List HO} (hh:∀id,a = .M id→hp'[id]? = hp[id]?) {F1 F2:Nat→Bool→List (AV×AV)→Res} (h:∀n d es,T (F1 n d es) (F2 n d es)):T ((stdAlg pu G').mMd a hp F1) ((stdAlg pu G').mMd a hp' F2):=T_mMd hs hh h
theorem T_mMl' {pu:FuncId→Bool} {G':FuncId→List AV→List HO→Res} {a:AV} {hp hp':List HO} (hh:∀id,a = .M id→hp'[id]? = hp[id]?) {F1 F2:List (AV×AV)→Res} (h:∀es,T (F1 es) (F2 es)):T ((stdAlg pu G').mMl a hp F1) ((stdAlg pu G').mMl a hp' F2):=T_mMl hs hh h
theorem T_fndS {pu:FuncId→Bool} {G':FuncId→List AV→List HO→Res} {ks:List FK} {cs:List AV} {es:List (AV×AV)} {F1 F2:Option AV→Res} (h:∀r,T (F1 r) (F2 r)):T ((stdAlg pu G').fndS ks cs es F1) ((stdAlg pu G').fndS ks cs es F2):=by
 show T (fndS ks cs es F1) (fndS ks cs es F2)
 unfold fndS
 split
 ·exact h _
 ·exact hs
theorem T_fnd' {pu:FuncId→Bool} {G':FuncId→List AV→List HO→Res} {k:IntKind} {n:Int} {es:List (AV×AV)} {F1 F2:Option AV→Res} (h:∀r,T (F1 r) (F2 r)):T ((stdAlg pu G').fnd k n es F1) ((stdAlg pu G').fnd k n es F2):=T_fnd hs h
theorem T_chk' {pu:FuncId→Bool} {G':FuncId→List AV→List HO→Res} {b:Bool} {r1 r2:Res} (h:T r1 r2):T ((stdAlg pu G').chk b r1) ((stdAlg pu G').chk b r2):=T_chk hs h
end words
section parts
variable (hs:T .stuck .stuck)
include hs
theorem T_use {ty:TypeId} {e:EV} {lo:LOv} {F1 F2:AV→List (Nat×LOv)→Res} (h:∀a u,T (F1 a u) (F2 a u)):T (use (stdAlg C.pure (noPan G)) C ty e lo F1) (use (stdAlg C.pure (noPan G)) C ty e lo F2):=by
 unfold use
 split
 ·exact h _ _
 ·exact h _ _
 ·split
  ·split
   ·exact h _ _
   ·exact hs
  ·exact hs
 ·exact h _ _
 ·exact h _ _
 ·exact h _ _
 ·exact hs
theorem T_useAll:∀(es:List EV) (tys:List TypeId) (los:List LOv) {F1 F2:List AV→List (Nat×LOv)→Res},(∀a u,T (F1 a u) (F2 a u))→T (useAll (stdAlg C.pure (noPan G)) C tys es los F1) (useAll (stdAlg C.pure (noPan G)) C tys es los F2):=by
 intro es
 induction es with
 | nil=>intro tys los F1 F2 h;cases tys<;>cases los<;>exact h _ _
 | cons e es ih=>
  intro tys los F1 F2 h
  cases los with
  | nil=>cases tys<;>exact h _ _
  | cons l los=>
   cases tys with
   | nil=>exact T_use hs fun a u=>ih _ _ fun as us=>h _ _
   | cons t tys=>exact T_use hs fun a u=>ih _ _ fun as us=>h _ _
theorem T_captAll:∀(es:List EV) (los:List LOv) {F1 F2:List AV→List (Nat×LOv)→Res},(∀a u,T (F1 a u) (F2 a u))→T (captAll (stdAlg C.pure (noPan G)) es los F1) (captAll (stdAlg C.pure (noPan G)) es los F2):=by
 intro es
 induction es with
 | nil=>intro los F1 F2 h;exact h _ _
 | cons e es ih=>
  intro los F1 F2 h
  simp only [captAll]
  split
  ·split
   ·refine ih _ fun as u => ?_
    split
    ·exact hs
    ·exact h _ _
   ·exact hs
  ·exact hs
theorem T_num {e:EV} {F1 F2:Int→Res} (h:∀n,T (F1 n) (F2 n)):T (num (stdAlg C.pure (noPan G)) e F1) (num (stdAlg C.pure (noPan G)) e F2):=by
 unfold num
 split
 ·exact T_mN hs h
 ·exact hs
theorem T_binI {op:BinOp} {k:IntKind} {m n:Int} {F1 F2:AV→Res} (h:∀a,T (F1 a) (F2 a)):T (binI (stdAlg C.pure (noPan G)) op k m n F1) (binI (stdAlg C.pure (noPan G)) op k m n F2):=by
 unfold binI
 split<;>first | exact h _ | exact T_chk hs (h _) | exact hs
theorem T_binS {op:BinOp} {a b:List UInt8} {F1 F2:AV→Res} (h:∀a,T (F1 a) (F2 a)):T (binS (stdAlg C.pure (noPan G)) C op a b F1) (binS (stdAlg C.pure (noPan G)) C op a b F2):=by
 unfold binS
 split<;>first | exact h _ | exact T_chk hs (h _) | exact hs
theorem T_bin {op:BinOp} {t:TypeId} {a b:AV} {F1 F2:AV→Res} (h:∀a,T (F1 a) (F2 a)):T (bin (stdAlg C.pure (noPan G)) C op t a b F1) (bin (stdAlg C.pure (noPan G)) C op t a b F2):=by
 unfold bin
 split
 ·split
  ·exact T_mI hs fun m=>T_mN hs fun n=>T_chk hs (h _)
  ·exact hs
 ·split
  ·exact T_mI hs fun m=>T_mN hs fun n=>T_chk hs (h _)
  ·exact hs
 ·split
  ·exact T_mI hs fun m=>T_mI hs fun n=>T_binI hs h
  ·exact T_mS hs fun m=>T_mS hs fun n=>T_binS hs h
  ·refine T_mB hs fun m=>T_mB hs fun n => ?_
   split<;>first | exact h _ | exact hs
  ·split
   ·refine T_mA hs fun xs=>T_mA hs fun ys=>T_eqs hs fun r => ?_
    split<;>first | exact h _ | exact hs
   ·exact hs
  ·split
   ·refine T_mA hs fun xs=>T_mA hs fun ys=>T_eqs hs fun r => ?_
    split<;>first | exact h _ | exact hs
   ·exact hs
  ·exact hs
theorem T_cmpNil {op:BinOp} {r:Bool} {F1 F2:AV→Res} (h:∀a,T (F1 a) (F2 a)):T (cmpNil (stdAlg C.pure (noPan G)) op r F1) (cmpNil (stdAlg C.pure (noPan G)) op r F2):=by
 unfold cmpNil
 split<;>first | exact h _ | exact hs
theorem T_partK {t:TypeId} {a:AV} {F1 F2:List AV→Res} (h:∀l,T (F1 l) (F2 l)):T (partK (stdAlg C.pure (noPan G)) C t a F1) (partK (stdAlg C.pure (noPan G)) C t a F2):=by
 unfold partK
 split
 ·exact T_mA hs fun l=>h _
 ·split
  ·exact T_m1 hs (h _)
  ·exact hs
theorem T_partHK {t:TypeId} {e:EV} {lo:LOv} {F1 F2:List HV→List (Nat×LOv)→Res} (h:∀l u,T (F1 l u) (F2 l u)):T (partHK (stdAlg C.pure (noPan G)) C t e lo F1) (partHK (stdAlg C.pure (noPan G)) C t e lo F2):=by
 unfold partHK
 dsimp only
 split
 ·split
  ·exact h _ _
  ·exact hs
 ·split
  ·exact h _ _
  ·exact T_use hs fun a u=>T_partK hs fun l=>h _ _
 ·exact T_use hs fun a u=>T_partK hs fun l=>h _ _
theorem T_buildK {place:Nat→Option (Nat×TypeId)} : ∀(ids:List Nat) (es:List EV) (los:List LOv) (cs:List HV) (us:List (Nat×LOv)) {F1 F2:List HV→List (Nat×LOv)→Res},(∀l u,T (F1 l u) (F2 l u)) →
  T (buildK (stdAlg C.pure (noPan G)) C place ids es los cs us F1) (buildK (stdAlg C.pure (noPan G)) C place ids es los cs us F2):=by
 intro ids
 induction ids with
 | nil=>intro es los cs us F1 F2 h;unfold buildK;exact h _ _
 | cons i ids ih=>
  intro es los cs us F1 F2 h
  cases es with
  | nil=>unfold buildK;exact h _ _
  | cons e es=>
   cases los with
   | nil=>unfold buildK;exact h _ _
   | cons l los=>
    unfold buildK
    split
    ·split
     ·exact T_partHK hs fun p u=>ih _ _ _ _ h
     ·exact hs
    ·exact hs
theorem T_elemsK {e:TypeId} : ∀(ids:List Nat) (as:List AV) (xs:List (List AV)) {F1 F2:List (List AV)→Res},(∀l,T (F1 l) (F2 l))→T (elemsK (stdAlg C.pure (noPan G)) C e ids as xs F1) (elemsK (stdAlg C.pure (noPan G)) C e ids as xs F2):=by
 intro ids
 induction ids with
 | nil=>intro as xs F1 F2 h;unfold elemsK;exact h _
 | cons i ids ih=>
  intro as xs F1 F2 h
  cases as with
  | nil=>unfold elemsK;exact h _
  | cons a as=>
   unfold elemsK
   split
   ·exact T_partK hs fun l=>ih _ _ h
   ·exact hs
theorem T_bytesK:∀(ids:List Nat) (as:List AV) (xs:List UInt8) {F1 F2:List UInt8→Res},(∀l,T (F1 l) (F2 l))→T (bytesK (stdAlg C.pure (noPan G)) ids as xs F1) (bytesK (stdAlg C.pure (noPan G)) ids as xs F2):=by
 intro ids
 induction ids with
 | nil=>intro as xs F1 F2 h;unfold bytesK;exact h _
 | cons i ids ih=>
  intro as xs F1 F2 h
  cases as with
  | nil=>unfold bytesK;exact h _
  | cons a as=>
   unfold bytesK
   split
   ·exact T_mI hs fun l=>ih _ _ h
   ·exact hs
theorem T_putK {t:TypeId} {y:EV} {ly:LOv} {F1 F2:List HV→List (Nat×LOv)→Res} (h:∀l u,T (F1 l u) (F2 l u)):T (putK (stdAlg C.pure (noPan G)) C t y ly F1) (putK (stdAlg C.pure (noPan G)) C t y ly F2):=by
 unfold putK
 split
 ·split
  ·split
   ·exact h _ _
   ·exact hs
  ·exact T_use hs fun a u=>T_mA hs fun l=>h _ _
 ·split
  ·split
   ·exact h _ _
   ·exact hs
  ·split
   ·split
    ·exact h _ _
    ·exact hs
   ·exact hs
  ·exact T_use hs fun a u=>T_m1 hs (h _ _)
theorem T_loadK {t:TypeId} {x:EV} {lo:LOv} {h h':List HO} {hv hv':Nat→Nat} (hh:∀id off,x = .v (.P id off)→h'[id]? = h[id]? ∧ hv' id=hv id) {F1 F2:EV→Res} (hF:∀e,T (F1 e) (F2 e)):T (loadK (stdAlg C.pure (noPan G)) C t x lo h hv F1) (loadK (stdAlg C.pure (noPan G)) C t x lo h' hv' F2):=by
 unfold loadK
 dsimp only
 split
 ·exact hs
 split
 ·split
  ·split
   ·split
    ·exact T_chk hs (hF _)
    ·refine T_chk hs ?_
     split
     ·exact T_mW (fun _=>hF _) (hF _)
     ·exact hF _
   ·exact hs
  ·exact hs
 ·split
  ·split
   ·split
    ·split
     ·exact hF _
     ·exact hs
    ·split
     ·exact hF _
     ·exact hs
   ·exact hs
  ·split
   ·exact hF _
   ·exact hs
  ·exact hs
 ·split
  ·exact T_chk hs (hF _)
  ·exact T_chk hs (hF _)
 ·rename_i av
  cases av with
  | P id off=>
   obtain ⟨e1,e2⟩:=hh id off rfl
   have k1:mO h' id=mO h id:=by funext K;simp only [mO,e1]
   have k2:mC h' id off=mC h id off:=by funext K;simp only [mC,e1]
   have k3:arrAt h' id=arrAt h id:=by simp only [arrAt,e1]
   dsimp only [stdAlg,mP]
   rw [k3]
   split
   ·split
    ·split
     ·split
      ·exact hF _
      ·exact hs
     ·exact hF _
    ·exact hs
   rw [k1,k2,e2]
   split
   ·exact T_mO hs fun cs=>T_chk hs (hF _)
   ·refine T_mC hs fun x => ?_
    split
    ·exact T_mW (fun _=>hF _) (hF _)
    ·exact hF _
  | _=>exact hs
 ·exact hs
theorem T_storeK {t:TypeId} {x y:EV} {lx ly:LOv} {h h':List HO} (hh:∀id off,x = .v (.P id off)→h'[id]? = h[id]?) {F1 F2:Upd→Res} (hF:∀e,T (F1 e) (F2 e)):T (storeK (stdAlg C.pure (noPan G)) C t x y lx ly h F1) (storeK (stdAlg C.pure (noPan G)) C t x y lx ly h' F2):=by
 unfold storeK
 dsimp only
 split
 ·exact hs
 split
 ·split
  ·split
   ·refine T_chk hs (T_putK hs fun l u => ?_)
    split
    ·exact hs
    ·exact hF _
   ·exact hs
  ·exact hs
 ·split
  ·split
   ·refine T_putK hs fun l u => ?_
    split
    ·exact hs
    ·exact hF _
   ·exact hs
  ·split
   ·refine T_putK hs fun l u => ?_
    split
    ·split
     ·exact hs
     ·exact T_mI hs fun n=>hF _
    ·exact hs
   ·exact hs
  ·exact hs
 ·rename_i av
  cases av with
  | P id off=>
   have k1:mO h' id=mO h id:=by funext K;simp only [mO,hh id off rfl]
   have k3:arrAt h' id=arrAt h id:=by simp only [arrAt,hh id off rfl]
   dsimp only [stdAlg,mP]
   rw [k3]
   refine T_putK (C:=C) (G:=G) hs fun l u => ?_
   split
   ·split
    ·exact hF _
    ·exact hs
   rw [k1]
   exact T_mO hs fun cs=>T_chk hs (hF _)
  | _=>exact hs
 ·exact hs
theorem T_srcK {c:SC} {y:EV} {ly:LOv} {st:Bool} {F1 F2:SC→Res} (hF:∀e,T (F1 e) (F2 e)):T (srcK (stdAlg C.pure (noPan G)) c y ly st F1) (srcK (stdAlg C.pure (noPan G)) c y ly st F2):=by
 have fromAV:∀a,T (fromK c st F1 a) (fromK c st F2 a):=by
  intro a
  unfold fromK
  cases c with
  | e t n xs=>exact T_mL hs fun _=>hF _
  | y t xs=>
   simp only
   split
   ·exact T_mS hs fun _=>hF _
   ·exact T_mY hs fun _=>hF _
 unfold srcK
 dsimp only
 split
 ·exact hF _
 ·split
  ·split
   ·exact fromAV _
   ·exact hs
  ·exact hs
 ·exact fromAV _
 ·exact fromAV _
 ·exact fromAV _
 ·exact hs
theorem T_boundsLo {lo:Option EV} {n:Nat} {F1 F2:Nat→Nat→Res} (hF:∀a b,T (F1 a b) (F2 a b)):T (boundsLo (stdAlg C.pure (noPan G)) lo n F1) (boundsLo (stdAlg C.pure (noPan G)) lo n F2):=by
 unfold boundsLo
 split
 ·exact T_num hs fun _=>T_chk hs (hF _ _)
 ·exact hF _ _
theorem T_boundsK {lo hi:Option EV} {n:Nat} {F1 F2:Nat→Nat→Res} (hF:∀a b,T (F1 a b) (F2 a b)):T (boundsK (stdAlg C.pure (noPan G)) lo hi n F1) (boundsK (stdAlg C.pure (noPan G)) lo hi n F2):=by
 unfold boundsK
 split
 ·exact T_num hs fun _=>T_chk hs (T_boundsLo hs hF)
 ·exact T_boundsLo hs hF
theorem T_bounds3 {lo:Option EV} {hi mx:EV} {n:Nat} {F1 F2:Nat→Nat→Res} (hF:∀a b,T (F1 a b) (F2 a b)):T (bounds3 (stdAlg C.pure (noPan G)) lo hi mx n F1) (bounds3 (stdAlg C.pure (noPan G)) lo hi mx n F2):=by
 unfold bounds3
 exact T_num hs fun _=>T_chk hs (T_num hs fun _=>T_chk hs (T_boundsLo hs hF))
theorem T_idxK {t:TypeId} {x i:EV} {lx:LOv} {h h':List HO} (hh:∀id,x = .v (.W id)→h'[id]? = h[id]?) {F1 F2:EV→Res} (hF:∀a,T (F1 a) (F2 a)):T (idxK (stdAlg C.pure (noPan G)) C t x i lx h F1) (idxK (stdAlg C.pure (noPan G)) C t x i lx h' F2):=by
 unfold idxK
 refine T_num hs fun n => ?_
 split
 ·split
  ·exact hs
  ·split
   ·exact T_mP hs fun _ _=>T_ix hs fun _=>hF _
   ·split
    ·exact T_ix hs fun _=>hF _
    ·exact hs
 ·split
  ·exact hs
  ·dsimp only
   have ofAV:∀(e:TypeId) (a:AV),T (if byteT C.P e then (stdAlg C.pure (noPan G)).mY a fun s=>(stdAlg C.pure (noPan G)).ix n s.length fun j=>F1 (.ep 1 [byteAt s j] 0) else (stdAlg C.pure (noPan G)).mL (szT C.P e) a fun xs=>(stdAlg C.pure (noPan G)).ix n xs.length fun j=>F1 (.ep (szT C.P e) (xs.getD j []) 0))
     (if byteT C.P e then (stdAlg C.pure (noPan G)).mY a fun s=>(stdAlg C.pure (noPan G)).ix n s.length fun j=>F2 (.ep 1 [byteAt s j] 0) else (stdAlg C.pure (noPan G)).mL (szT C.P e) a fun xs=>(stdAlg C.pure (noPan G)).ix n xs.length fun j=>F2 (.ep (szT C.P e) (xs.getD j []) 0)):=by
    intro e a
    split
    ·exact T_mY hs fun _=>T_ix hs fun _=>hF _
    ·exact T_mL hs fun _=>T_ix hs fun _=>hF _
   split
   ·split
    ·split
     ·exact T_ix hs fun _=>hF _
     ·exact hs
    ·exact hs
   ·rename_i av
    cases av with
    | W id=>
     have k3:arrAt h' id=arrAt h id:=by simp only [arrAt,hh id rfl]
     dsimp only [stdAlg,mW]
     rw [k3]
     split
     ·split
      ·exact T_ix hs fun _=>hF _
      ·exact hs
     ·exact hs
    | _=>exact ofAV _ _
   ·exact ofAV _ _
   ·exact ofAV _ _
   ·exact hs
 ·exact hs
theorem T_appendK {d:Nat} {own:LOv} {ty:TypeId} {st mu:Bool} {x y:EV} {lx ly:LOv} {h h':List HO} {hv hv':Nat→Nat} (hh:∀id off v z,x = .hh id off v z→h'[id]? = h[id]? ∧ hv' id=hv id) (hw:∀id,x = .v (.W id)→h'[id]? = h[id]?) {F1 F2:Upd→Res} (hF:∀e,T (F1 e) (F2 e)) :
  T (appendK (stdAlg C.pure (noPan G)) C d own ty st mu x y lx ly h hv F1) (appendK (stdAlg C.pure (noPan G)) C d own ty st mu x y lx ly h' hv' F2):=by
 unfold appendK
 split
 ·dsimp only
  split
  ·split
   ·exact T_srcK hs fun z=>T_chk hs (hF _)
   ·exact hs
  ·split
   ·split
    ·split
     ·exact T_srcK hs fun z=>T_chk hs (hF _)
     ·exact hs
    ·exact hs
   ·exact hs
  ·split
   ·split
    ·split
     ·exact T_srcK hs fun z=>T_chk hs (hF _)
     ·exact hs
    ·exact hs
   ·exact hs
  ·rename_i id off hvx zx
   obtain ⟨e1,e2⟩:=hh id off hvx zx rfl
   rw [e2]
   have tO:∀{F1 F2:List HV→Res},(∀n,T (F1 n) (F2 n))→T (mO h id F1) (mO h' id F2):=fun {F1 F2} hF=>by
    have k1:mO h' id F2=mO h id F2:=by simp only [mO,e1]
    rw [k1]
    exact T_mO hs hF
   split
   ·split
    ·refine T_mGy hs fun s => ?_
     split
     ·exact T_srcK hs fun z=>T_chk hs (tO fun cs=>hF _)
     ·exact hs
    ·refine T_mGe hs fun s => ?_
     split
     ·exact T_srcK hs fun z=>T_chk hs (tO fun cs=>hF _)
     ·exact hs
   ·exact hs
  ·rename_i av
   cases av with
   | W id=>
    have k3:arrAt h' id=arrAt h id:=by simp only [arrAt,hw id rfl]
    dsimp only [stdAlg,mW]
    rw [k3]
    split
    ·split
     ·exact T_srcK hs fun z=>T_chk hs (hF _)
     ·exact hs
    ·exact hs
   | _=>exact hs
  ·exact hs
 ·exact hs
theorem T_copyK {e:TypeId} {x y:EV} {lx ly:LOv} {F1 F2:Upd→Res} (hF:∀e,T (F1 e) (F2 e)) :
  T (copyK (stdAlg C.pure (noPan G)) C e x y lx ly F1) (copyK (stdAlg C.pure (noPan G)) C e x y lx ly F2):=by
 unfold copyK
 dsimp only
 split
 ·split
  ·split
   ·exact T_srcK hs fun z=>T_chk hs (hF _)
   ·exact hs
  ·exact hs
 ·split
  ·split
   ·exact T_srcK hs fun z=>T_chk hs (hF _)
   ·exact hs
  ·exact hs
 ·exact hs
theorem T_callK {d:Option Nat} {own:LOv} {rt:TypeId} {fid:FuncId} {as:List AV} {u:List (Nat×LOv)} {vis:Option (List Nat)} {h h':List HO} (hh:C.pure fid=true∨(vis=none→h'=h)∧(∀l,vis=some l→h'.length=h.length∧∀i∈l,h'[i]? = h[i]?)) {F1 F2:Upd→Res} (hF:∀e,T (F1 e) (F2 e)) :
  T (callK (stdAlg C.pure (noPan G)) C d own rt fid as u vis h F1) (callK (stdAlg C.pure (noPan G)) C d own rt fid as u vis h' F2):=by
 unfold callK
 split
 ·refine T_pcall hs fun v => ?_
  split
  ·split
   ·split
    ·exact T_mY hs fun _=>hF _
    ·exact T_mL hs fun _=>hF _
   ·exact hs
  ·exact hF _
 ·rename_i hp
  rcases hh with hh | ⟨h1,h2⟩
  ·exact absurd hh hp
  ·cases vis with
   | none=>
    obtain rfl:=h1 rfl
    exact T_bRes hs fun v h=>hF _
   | some l=>
    obtain ⟨e1,e2⟩:=h2 l rfl
    have e3:maskH l 0 h'=maskH l 0 h:=maskH_agree e1 e2
    show T (bRes (noPan G fid as (maskH l 0 h)) _) (bRes (noPan G fid as (maskH l 0 h')) _)
    rw [e3,e1]
    exact T_bRes hs fun v h=>T_chk hs (hF _)
theorem T_zeroK {t:TypeId} {F1 F2:AV→Res} (hF:∀v,T (F1 v) (F2 v)):T (zeroK (stdAlg C.pure (noPan G)) C t F1) (zeroK (stdAlg C.pure (noPan G)) C t F2):=by
 unfold zeroK
 split
 ·split
  ·exact hF _
  ·exact hF _
  ·exact hs
 ·exact hs
theorem T_eatK {d:Option Nat} {own:LOv} {fid:FuncId} {e:TypeId} {x:EV} {lx:LOv} {as:List AV} {u:List (Nat×LOv)} {F1 F2:Upd→Res} (hF:∀e,T (F1 e) (F2 e)) :
  T (eatK (stdAlg C.pure (noPan G)) C d own fid e x lx as u F1) (eatK (stdAlg C.pure (noPan G)) C d own fid e x lx as u F2):=by
 have go:∀(k ver:Nat) (c:SC),T (if (u.any fun p=>p.1 == k) then (stdAlg C.pure (noPan G)).stuck else
    if C.pure fid=true∧c.elem=e∧c.width=szT C.P e∧szT C.P e≠0∧c.isY=byteT C.P e then (stdAlg C.pure (noPan G)).ecall fid (c.toAV::as) fun v=>match c with
     | .y t _=>(stdAlg C.pure (noPan G)).mY v fun sb=>F1 { dst:=some (.ls k ver),locs:=(k,⟨ver, .arr (.y t sb) false⟩)::u }
     | .e t n _=>(stdAlg C.pure (noPan G)).mL n v fun xs=>F1 { dst:=some (.ls k ver),locs:=(k,⟨ver, .arr (.e t n xs) false⟩)::u }
    else (stdAlg C.pure (noPan G)).stuck)
   (if (u.any fun p=>p.1 == k) then (stdAlg C.pure (noPan G)).stuck else
    if C.pure fid=true∧c.elem=e∧c.width=szT C.P e∧szT C.P e≠0∧c.isY=byteT C.P e then (stdAlg C.pure (noPan G)).ecall fid (c.toAV::as) fun v=>match c with
     | .y t _=>(stdAlg C.pure (noPan G)).mY v fun sb=>F2 { dst:=some (.ls k ver),locs:=(k,⟨ver, .arr (.y t sb) false⟩)::u }
     | .e t n _=>(stdAlg C.pure (noPan G)).mL n v fun xs=>F2 { dst:=some (.ls k ver),locs:=(k,⟨ver, .arr (.e t n xs) false⟩)::u }
    else (stdAlg C.pure (noPan G)).stuck):=by
  intro k ver c
  split
  ·exact hs
  split
  ·refine T_ecall hs fun v => ?_
   cases c with
   | y t sb=>exact T_mY hs fun _=>hF _
   | e t n xs=>exact T_mL hs fun _=>hF _
  ·exact hs
 unfold eatK
 split
 ·split
  ·exact go _ _ _
  ·exact hs
 ·split
  ·split
   ·exact go _ _ _
   ·exact hs
  ·exact hs
 ·exact hs
def Agree:HS→List HO→List HO→(Nat→Nat)→(Nat→Nat)→Prop
 | .no,_,_,_,_=>True
 | .all,h,h',hv,hv'=>h'=h∧hv'=hv
 | .ids l,h,h',hv,hv'=>h'.length=h.length∧∀i∈l,h'[i]? = h[i]? ∧ hv' i=hv i
omit hs in
theorem Agree.refl {F:HS} {h:List HO} {hv:Nat→Nat} : Agree F h h hv hv:=by
 cases F with
 | no=>trivial
 | all=>exact ⟨rfl,rfl⟩
 | ids l=>exact ⟨rfl,fun _ _=>⟨rfl,rfl⟩⟩
omit hs in
theorem Agree.obj {x:EV} {id:Nat} {h h':List HO} {hv hv':Nat→Nat} (hx:(∃off,x = .v (.P id off))∨x = .v (.M id)∨∃off v z,x = .hh id off v z) (ha:Agree (objOf x) h h' hv hv'):h'[id]? = h[id]? ∧ hv' id=hv id:=by
 rcases hx with ⟨off,rfl⟩ | rfl | ⟨off,v,z,rfl⟩<;>exact ha.2 id (by simp)
omit hs in
theorem Agree.site {b:Bool} {h h':List HO} {hv hv':Nat→Nat} (ha:Agree (if b=true then .all else .no) h h' hv hv'):b=false∨(h'=h∧hv'=hv):=by
 cases b with
 | false=>exact .inl rfl
 | true=>exact .inr ha
omit hs in
theorem Agree.calls {b:Bool} {l:List Nat} {h h':List HO} {hv hv':Nat→Nat} (ha:Agree (if b=true then .ids l else .all) h h' hv hv') :
  ((if b=true then some l else none)=none→h'=h)∧∀l',(if b=true then some l else none)=some l'→h'.length=h.length∧∀i∈l',h'[i]? = h[i]? := by
 cases b with
 | false=>exact ⟨fun _=>ha.1,fun l' e=>(by cases e)⟩
 | true=>exact ⟨fun e=>(by cases e),fun l' e=>(by cases e;exact ⟨ha.1,fun i hi=>(ha.2 i hi).1⟩)⟩
omit hs in
theorem visD_agree {l:List Nat} {h h':List HO} (ha:∀i∈visD h l,h'[i]? = h[i]?):visD h' l=visD h l:=by
 have key:∀k:List Nat,(∀i∈k,h'[i]? = h[i]?)→(k.flatMap fun i=>ptsO (h'[i]?))=k.flatMap fun i=>ptsO (h[i]?):=by
  intro k
  induction k with
  | nil=>intro _;rfl
  | cons i k ih=>
   intro hk
   simp only [List.flatMap_cons]
   rw [hk i List.mem_cons_self,ih fun j hj=>hk j (List.mem_cons_of_mem _ hj)]
 unfold visD
 rw [key l fun i hi=>ha i (List.mem_append_left _ hi)]
omit hs in
theorem Agree.vis {b:Bool} {l:List Nat} {h h':List HO} {hv hv':Nat→Nat} (ha:Agree (if b=true then .ids (visD h l) else .all) h h' hv hv'):(if b=true then some (visD h' l) else none)=(if b=true then some (visD h l) else none):=by
 cases b with
 | false=>rfl
 | true=>
  have ha:Agree (.ids (visD h l)) h h' hv hv':=ha
  simp only [if_true]
  rw [visD_agree fun i hi=>(ha.2 i hi).1]
theorem opF_T {o:Oper} {ins:List EV} {los:List LOv} {own:LOv} {h h':List HO} {hv hv':Nat→Nat} (hp:∀x,o.op ≠ .panic x) (hh:Agree (looks C N o ins los h) h h' hv hv') {F1 F2:Upd→Res} (hF:∀u,T (F1 u) (F2 u)) :
  T (opF (stdAlg C.pure (noPan G)) C N o ins los own h hv F1) (opF (stdAlg C.pure (noPan G)) C N o ins los own h' hv' F2):=by
 unfold opF
 cases ho:o.op with
 | move x=>exact hF _
 | assign x=>
  dsimp only
  split
  ·split
   ·exact hF _
   ·exact hs
  ·exact hF _
 | pick x y z=>
  dsimp only
  split
  ·exact T_mB hs fun _=>T_bIte (hF _) (hF _)
  ·exact hs
 | alloc t=>
  dsimp only
  split
  ·have hh':N.heapSite (o.dst.getD 0)=false∨(h'=h∧hv'=hv):=by
    simp only [looks,ho] at hh
    exact Agree.site hh
   rcases hh' with hn | ⟨rfl,rfl⟩
   ·rw [if_neg (by simp [hn]),if_neg (by simp [hn])];exact hF _
   ·split<;>exact hF _
  ·exact hs
 | box t x=>
  dsimp only
  have hh':N.heapSite (o.dst.getD 0)=false∨(h'=h∧hv'=hv):=by
    simp only [looks,ho] at hh
    exact Agree.site hh
  have go:∀cs u,T (if N.heapSite (o.dst.getD 0) then F1 { dst:=some (.v (.P h.length 0)),locs:=u,heap:=some (h++[.cells (tagZ t cs)]) } else F1 { dst:=some (.lp (o.dst.getD 0) (own.ver+1) 0),locs:=(o.dst.getD 0,⟨own.ver+1, .box 0 cs⟩)::u })
    (if N.heapSite (o.dst.getD 0) then F2 { dst:=some (.v (.P h'.length 0)),locs:=u,heap:=some (h'++[.cells (tagZ t cs)]) } else F2 { dst:=some (.lp (o.dst.getD 0) (own.ver+1) 0),locs:=(o.dst.getD 0,⟨own.ver+1, .box 0 cs⟩)::u }):=by
   intro cs u
   rcases hh' with hn | ⟨rfl,rfl⟩
   ·rw [if_neg (by simp [hn]),if_neg (by simp [hn])];exact hF _
   ·split<;>exact hF _
  split
  ·split
   ·exact go _ _
   ·exact hs
  ·refine T_use hs fun a u => ?_
   split
   ·exact T_mA hs fun l=>go _ _
   ·exact T_m1 hs (go _ _)
 | build t ps=>
  dsimp only
  split
  ·split
   ·split
    ·exact hs
    ·exact T_buildK hs _ _ _ _ _ fun _ _=>hF _
   ·split
    ·exact hs
    ·exact T_buildK hs _ _ _ _ _ fun _ _=>hF _
   ·exact hs
  ·exact hs
 | buildSlice t n ps=>
  dsimp only
  split
  ·split
   ·refine T_useAll hs _ _ _ fun as u => ?_
    split
    ·exact T_bytesK hs _ _ _ fun _=>hF _
    ·exact T_elemsK hs _ _ _ fun _=>hF _
   ·exact hs
  ·exact hs
 | load t x=>
  dsimp only
  simp only [looks,ho] at hh
  split
  ·rename_i hw
   rw [if_pos hw] at hh
   obtain ⟨rfl,rfl⟩:=hh
   refine T_loadK hs (fun id off e=>⟨rfl,rfl⟩) fun e => ?_
   split
   ·refine T_mW (fun id => ?_) hs
    split
    ·exact hF _
    ·exact hs
   ·exact hs
  ·rename_i hw
   rw [if_neg hw] at hh
   refine T_loadK hs (fun id off e => ?_) fun _=>hF _
   rw [e] at hh
   exact hh.2 id (by simp)
 | store t x y=>
  dsimp only
  simp only [looks,ho] at hh
  split
  ·rename_i hm
   rw [if_pos hm] at hh
   obtain ⟨rfl,rfl⟩:=hh
   split
   ·split
    ·refine T_storeK hs (fun id off e=>rfl) fun u => ?_
     split
     ·exact hF _
     ·exact hs
    ·exact hs
   ·exact T_storeK hs (fun id off e=>rfl) hF
  ·rename_i hm
   rw [if_neg hm] at hh
   refine T_storeK hs (fun id off e => ?_) hF
   rw [e] at hh
   exact (hh.2 id (by simp)).1
 | nilCheck x=>
  dsimp only
  split
  ·exact T_mP hs fun _ _=>hF _
  ·split
   ·exact hF _
   ·exact hs
 | binOp op t x y tt=>
  dsimp only
  split
  ·split
   ·exact T_mLen' hs fun n=>T_bIte (T_chk' hs (hF _)) (T_cmpNil hs fun _=>hF _)
   ·exact hs
  ·split
   ·split
    ·exact T_isN' hs fun _=>T_cmpNil hs fun _=>hF _
    ·exact hs
   ·split
    ·exact T_isF' hs fun _=>T_cmpNil hs fun _=>hF _
    ·exact hs
   ·split
    ·exact T_isX' hs fun _=>T_cmpNil hs fun _=>hF _
    ·exact hs
   ·split
    ·exact T_isM' hs fun _=>T_cmpNil hs fun _=>hF _
    ·exact hs
   ·exact T_bin hs fun _=>hF _
  ·exact hs
 | unOp op t x=>
  dsimp only
  split
  ·split
   ·exact T_mB hs fun _=>hF _
   ·exact T_mI hs fun _=>hF _
   ·exact T_mI hs fun _=>T_binI hs fun _=>hF _
   ·exact hs
  ·exact hs
 | convert t d x=>
  dsimp only
  split
  ·exact T_num hs fun _=>hF _
  ·exact T_num hs fun _=>T_chk' hs (hF _)
  ·split
   ·exact T_mS hs fun _=>hF _
   ·exact hs
  ·split
   ·have fin:∀a,T ((stdAlg C.pure (noPan G)).mY a fun s=>(stdAlg C.pure (noPan G)).chk (decide (s.length≤C.bound)) (F1 { dst:=some (.v (.S s)) })) ((stdAlg C.pure (noPan G)).mY a fun s=>(stdAlg C.pure (noPan G)).chk (decide (s.length≤C.bound)) (F2 { dst:=some (.v (.S s)) })):=fun a=>
     T_mY hs fun _=>T_chk hs (hF _)
    split
    ·split
     ·exact fin _
     ·exact hs
    ·exact hF _
    ·exact fin _
    ·exact fin _
    ·exact fin _
    ·exact hs
   ·exact hs
  ·split
   ·split
    ·exact T_mS hs fun _=>hF _
    ·exact hs
   ·exact hs
  ·exact hs
 | makeInterface t x=>
  dsimp only
  split<;>first | exact hs | exact T_use hs fun _ _=>hF _
 | makeFunc fn fs cs=>
  dsimp only
  split
  ·refine T_captAll hs _ _ fun _ _ => ?_
   split
   ·exact hF _
   ·exact hs
  ·exact T_useAll hs _ _ _ fun _ _=>hF _
 | makeSlice t x y=>
  dsimp only
  split
  ·refine T_num hs fun _=>T_num hs fun _=>T_chk hs ?_
   split
   ·exact hF _
   ·exact hs
  ·exact hs
 | slice t x lo hi mx=>
  dsimp only
  split
  ·split
   ·exact hs
   ·split
    ·split
     ·exact hs
     ·refine T_use hs fun _ _ => ?_
      split
      ·exact T_mY hs fun _=>T_bounds3 hs fun _ _=>hF _
      ·exact T_mL hs fun _=>T_bounds3 hs fun _ _=>hF _
    ·exact hs
  split
  ·rename_i hw
   simp only [looks,ho] at hh
   rw [if_pos hw] at hh
   obtain ⟨rfl,rfl⟩:=hh
   split
   ·split
    ·exact T_num hs fun _=>T_chk' hs (hF _)
    ·exact hs
   ·split
    ·refine T_mW (fun id => ?_) hs
     split
     ·exact T_num hs fun _=>T_chk' hs (hF _)
     ·exact hs
    ·exact hs
   ·exact hs
  ·split
   ·split
    ·exact T_mS hs fun _=>T_boundsK hs fun _ _=>hF _
    ·exact hs
   ·split
    ·exact hs
    ·refine T_use hs fun _ _ => ?_
     split
     ·exact T_mY hs fun _=>T_boundsK hs fun _ _=>hF _
     ·exact T_mL hs fun _=>T_boundsK hs fun _ _=>hF _
   ·exact hs
 | fieldAddr t x i=>
  dsimp only
  split
  ·split
   ·exact hs
   ·split
    ·exact T_mP hs fun _ _=>hF _
    ·split
     ·exact hF _
     ·exact hs
  ·exact hs
 | field t x i=>
  dsimp only
  split
  ·split
   ·refine T_mA hs fun _ => ?_
    split
    ·split
     ·exact hF _
     ·split
      ·exact hF _
      ·exact hs
    ·exact hs
   ·exact hs
  ·exact hs
 | indexAddr t x y=>
  refine T_idxK hs (fun id e => ?_) fun _=>hF _
  simp only [looks,ho] at hh
  rw [e] at hh
  exact (hh.2 id (by simp)).1
 | index t x y=>
  dsimp only
  split
  ·refine T_num hs fun _ => ?_
   split
   ·exact T_mS hs fun _=>T_ix' hs fun _=>hF _
   ·split
    ·exact hs
    ·refine T_mA hs fun _=>T_ix' hs fun _ => ?_
     split<;>exact hF _
   ·exact hs
  ·exact hs
 | extract x i=>
  dsimp only
  split
  ·exact T_mT hs fun _=>hF _
  ·exact hs
 | panic x=>exact absurd ho (hp x)
 | call c=>
  dsimp only
  split
  ·split
   ·rename_i hc
    split
    ·exact hs
    ·split
     ·split
      ·exact T_mS hs fun _=>hF _
      ·exact hs
     ·split
      ·rename_i av e
       refine T_mMl' hs (fun id ea => ?_) fun es=>T_chk' hs (hF _)
       simp only [looks,ho,hc] at hh
       rw [e,ea] at hh
       exact (hh.2 id (by simp)).1
      ·exact hs
     ·split
      ·split
       ·exact hF _
       ·exact hs
      ·exact T_mLen' hs fun _=>hF _
      ·exact T_mLen' hs fun _=>hF _
      ·rename_i av e
       have hM:T (mLen av fun n=>F1 { dst:=some (.v (.I .i64 n)) }) (mLen av fun n=>F2 { dst:=some (.v (.I .i64 n)) }):=T_mLen hs fun _=>hF _
       cases av with
       | W id=>
        have k3:arrAt h' id=arrAt h id:=by
         simp only [looks,ho,hc] at hh
         rw [e] at hh
         simp only [arrAt,(hh.2 id (by simp)).1]
        dsimp only [stdAlg,mW]
        rw [k3]
        split
        ·exact hF _
        ·exact hs
       | _=>exact hM
      ·exact hs
     ·exact hs
   ·rename_i hc
    have hh':∀id off v z,ins.getD 0 (.v .U) = .hh id off v z→h'[id]? = h[id]? ∧ hv' id=hv id:=by
     intro id off v z e
     simp only [looks,ho,hc] at hh
     rw [e] at hh
     exact hh.2 id (by simp)
    have hw:∀id,ins.getD 0 (.v .U) = .v (.W id)→h'[id]? = h[id]? := by
     intro id e
     simp only [looks,ho,hc] at hh
     rw [e] at hh
     exact (hh.2 id (by simp)).1
    split
    ·split
     ·exact T_appendK hs hh' hw hF
     ·exact T_appendK hs hh' hw hF
     ·exact hs
    ·exact hs
   ·split
    ·split
     ·exact T_copyK hs hF
     ·exact hs
    ·exact hs
   ·split
    ·split
     ·exact T_mI hs fun _=>T_mI hs fun _=>hF _
     ·exact hs
    ·exact hs
   ·rename_i hc
    split
    ·exact hs
    ·split
     ·rename_i kt et m i _q1 e1 _q2
      split
      ·refine T_mI hs fun n=>T_mMd' hs (fun id ea => ?_) fun id d es=>T_fnd' hs fun r=>hF _
       simp only [looks,ho,hc] at hh
       rw [e1,ea] at hh
       exact (hh.2 id (by simp)).1
      ·exact hs
     ·exact hs
   ·split
    ·split
     ·exact T_mI hs fun _=>T_mI hs fun _=>hF _
     ·exact hs
    ·exact hs
   ·exact hs
  ·rename_i hc
   have hh0:Agree (if N.narrow (o.dst.getD 0)=true then .ids (visD h (ptsIns ins los)) else .all) h h' hv hv':=by
    simp only [looks,ho,hc] at hh
    exact hh
   have hh':=Agree.calls hh0
   rw [Agree.vis hh0]
   split
   ·refine T_useAll hs _ _ _ fun _ _=>T_mX hs fun _ _ => ?_
    split
    ·exact T_callK hs (.inr hh') hF
    ·exact hs
   ·exact hs
  ·rename_i fid hc
   split
   ·split
    ·exact T_useAll hs _ _ _ fun _ _=>T_eatK hs hF
    ·exact hs
   ·refine T_useAll hs _ _ _ fun _ _ => ?_
    cases hp:C.pure fid with
    | true=>
     unfold callK
     rw [if_pos hp,if_pos hp]
     refine T_pcall hs fun v => ?_
     split
     ·split
      ·split
       ·exact T_mY hs fun _=>hF _
       ·exact T_mL hs fun _=>hF _
      ·exact hs
     ·exact hF _
    | false=>
     simp only [looks,ho,hc] at hh
     rw [hp] at hh
     have hh0:Agree (if N.narrow (o.dst.getD 0)=true then .ids (visD h (ptsIns ins los)) else .all) h h' hv hv':=hh
     rw [Agree.vis hh0]
     exact T_callK hs (.inr (Agree.calls hh0)) hF
  ·rename_i x hnf hc
   have hh':h'=h∧hv'=hv:=by
    cases x with
    | func fid=>exact absurd rfl (hnf fid)
    | _=>simp only [looks,ho,hc] at hh;exact hh
   obtain ⟨rfl,rfl⟩:=hh'
   split
   ·refine T_useAll hs _ _ _ fun _ _=>T_mF hs fun _ _ _ => ?_
    split
    ·exact T_dynP hs fun _=>hF _
    ·exact T_dynH hs fun _ _=>hF _
   ·exact hs
 | makeMap t rs=>
  dsimp only
  have hh':h'=h∧hv'=hv:=by
   simp only [looks,ho] at hh
   exact hh
  obtain ⟨rfl,rfl⟩:=hh'
  split
  ·exact hF _
  ·exact hs
 | lookup t x y ok=>
  dsimp only
  split
  ·rename_i kt et m i _q1 e1 _q2
   split
   ·split
    ·refine T_mA hs fun cs=>T_mMl' hs (fun id ea => ?_) fun es=>T_fndS hs fun r => ?_
     ·simp only [looks,ho] at hh
      rw [e1,ea] at hh
      exact (hh.2 id (by simp)).1
     ·split
      ·exact hF _
      ·exact T_zeroK hs fun v=>hF _
    ·exact hs
   ·refine T_mI hs fun n=>T_mMl' hs (fun id ea => ?_) fun es=>T_fnd' hs fun r => ?_
    ·simp only [looks,ho] at hh
     rw [e1,ea] at hh
     exact (hh.2 id (by simp)).1
    ·split
     ·exact hF _
     ·exact T_zeroK hs fun v=>hF _
   ·exact hs
  ·exact hs
 | mapEntry t x y=>
  dsimp only
  split
  ·rename_i kt et m i _q1 e1 _q2
   split
   ·refine T_mA hs fun cs=>T_mM' hs (fun id ea => ?_) fun id es=>T_chk' hs (T_fndS hs fun r => ?_)
    ·simp only [looks,ho] at hh
     rw [e1,ea] at hh
     exact (hh.2 id (by simp)).1
    ·split
     ·exact hF _
     ·exact T_zeroK hs fun v=>hF _
   ·exact hs
  ·exact hs
 | entryStore t x y z=>
  dsimp only
  split
  ·rename_i kt et m i _q1 e1 _q2
   refine T_mI hs fun n=>T_use hs fun v u=>T_mM' hs (fun id ea => ?_) fun id es=>T_ix' hs fun j=>hF _
   simp only [looks,ho] at hh
   rw [e1,ea] at hh
   exact (hh.2 id (by simp)).1
  ·exact hs
 | mapUpdate t x y z=>
  dsimp only
  split
  ·rename_i kt et m i _q1 e1 _q2
   split
   ·split
    ·refine T_mA hs fun cs=>T_use hs fun v u=>T_mM' hs (fun id ea => ?_) fun id es=>T_fndS hs fun r=>hF _
     simp only [looks,ho] at hh
     rw [e1,ea] at hh
     exact (hh.2 id (by simp)).1
    ·exact hs
   ·refine T_mI hs fun n=>T_use hs fun v u=>T_mMd' hs (fun id ea => ?_) fun id d es=>T_fnd' hs fun r=>hF _
    simp only [looks,ho] at hh
    rw [e1,ea] at hh
    exact (hh.2 id (by simp)).1
   ·exact hs
  ·exact hs
 | _=>exact hs
end parts
end
end Go.Vm
