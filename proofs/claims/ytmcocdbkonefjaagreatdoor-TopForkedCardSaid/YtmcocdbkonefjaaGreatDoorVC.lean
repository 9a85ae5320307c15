/- Part of a proof: Vm22, Vm23, Vm24, Vm25, Vm26, Vm27, Vm28, VmE, VmS. -/
import Derived.Test.YtmcocdbkonefjaaGreatDoorVB
import Derived.Deep.Upon
import Derived.Laws.IdiomStrings
import Derived.DeepKeys3
set_option linter.unusedSimpArgs false
set_option linter.unusedVariables false
set_option linter.unusedSectionVars false
namespace Go.Vm
open Go
section
variable {C:Cx} {N:Ann} {nt:NT} {g0 g:Gh} {w0 w:World} {f:Fr} {s:St} {a:Act} {o:Oper}
variable {K:Upd→Res} {R:Res} {G:FuncId→List AV→List HO→Res}
theorem setLocs_not:∀(us:List (Nat×LOv)) (loc:Nat→LOv) (k:Nat),(us.any fun p=>p.1 == k)=false→setLocs loc us k=loc k
 | [],_,_,_=>rfl
 | (j,x)::us,loc,k,h=>by
  simp only [List.any_cons,Bool.or_eq_false_iff,beq_eq_false_iff_ne] at h
  have hb:Nat.beq k j=false:=by
   rw [Bool.eq_false_iff]
   exact fun e=>h.1 (Nat.eq_of_beq_eq_true e).symm
  simp only [setLocs,hb,cond_false]
  exact setLocs_not us loc k h.2
theorem Core.putBox (hc:Core g w f s) {k ver md:Nat} {cs:List HV} (hl:s.loc k=⟨ver, .box md cs⟩) {l:List HV} {us:List Value} {off:Nat} (hlen:us.length=l.length) (hle:off+l.length≤cs.length)
  (hnew:∀(j:Nat) (x:HV),l[j]? = some x→∃u,us[j]? = some u∧HVR g w (.bcell k (off+j)) x u) :
  ∃old tt,w.heap[f.be k]? = some (.cells old tt (0,0))∧old.size=cs.length ∧
   Core g (w.setRow (f.be k) (setV old.toList off us).toArray) f (s.withLocs [(k,⟨ver, .box (md+1) (setR cs off l)⟩)]) ∧
   Stp g w f s g (w.setRow (f.be k) (setV old.toList off us).toArray) f (s.withLocs [(k,⟨ver, .box (md+1) (setR cs off l)⟩)]):=by
 have hb:=hc.loc k
 unfold LR at hb
 rw [hl] at hb
 obtain ⟨old,tt,h1,h2,hch,h3⟩:=BoxR.put hb (fun i=>by simp) hlen hle hnew
 have hother:∀b,b=f.be k→∀ow:Own,ow ≠ .box k→g.ow b≠some ow:=by
  intro b e ow hne he
  rw [e,hb.ow] at he
  exact hne (Option.some.inj he).symm
 refine ⟨old,tt,h1,h2,⟨hc.heap.chg hch rfl fun b hb ow ho=>hother b hb ow (fun e=>by rw [e] at ho;exact ho),fun i => ?_,fun b i hx=>Nat.lt_of_lt_of_le (hc.wf b i hx) hch.size⟩,
  ⟨hch.mono fun b _ e=>by rw [e,hb.ow];simp,fun i => ?_,fun id => .keep rfl rfl fun cs0 hid j => ?_⟩⟩
 ·rw [withLocs_loc]
  by_cases e:i=k
  ·subst e
   rw [if_pos rfl]
   exact h3
  ·rw [if_neg e]
   refine (hc.loc i).chg hch fun b hb' ow ho=>hother b hb' ow fun e' => ?_
   rw [e'] at ho
   simp only [Own.site,Option.some.injEq] at ho
   exact e ho.symm
 ·by_cases e:i=k
  ·subst e
   right
   rw [withLocs_loc,if_pos rfl,hl]
   refine ⟨rfl,rfl,rfl,fun m' cs' e => ?_,fun c' ex' e=>by cases e⟩
   cases e
   exact ⟨md,cs,rfl,by omega,fun e=>by omega⟩
  ·refine SiteStp.same (by rw [withLocs_loc,if_neg e]) rfl rfl fun m cs' hb' j => ?_
   have hli:=hc.loc i
   unfold LR at hli
   rw [hb'] at hli
   have hne:f.be i≠f.be k:=by
    intro e2
    have:=hli.ow
    rw [e2,hb.ow] at this
    simp only [Option.some.injEq,Own.box.injEq] at this
    exact e this.symm
   simp only [World.cell?,setRow_other w _ _ _ hne]
 ·have hne:g.io id≠f.be k:=by
   intro e2
   have:=(hc.heap.obj id cs0 hid).ow
   rw [e2,hb.ow] at this
   simp at this
  simp only [World.cell?,setRow_other w _ _ _ hne]
def St.setO (s:St) (id:Nat) (x:HO):St := { s with h:=s.h.set id x,hv:=fun i=>bif Nat.beq id i then s.hv i+1 else s.hv i }
theorem setO_hv_ne {s:St} {id j:Nat} {x:HO} (h:id≠j):(s.setO id x).hv j=s.hv j:=by
 have:Nat.beq id j=false:=by
  rw [Bool.eq_false_iff]
  exact fun e=>h (Nat.eq_of_beq_eq_true e)
 simp [St.setO,this]
theorem setO_hv_eq {s:St} {id:Nat} {x:HO} : (s.setO id x).hv id=s.hv id+1:=by simp [St.setO]
theorem setO_h {s:St} {id:Nat} {x:HO} : (s.setO id x).h=s.h.set id x:=rfl
theorem on_dl (us:List (Nat×LOv)) (id:Nat) (x:HO) (s:St):Upd.on { dst:=none,locs:=us,dl:=[(id,x)] } none s=(s.withLocs us).setO id x:=by
 simp only [Upd.on,St.put,Upd.hvOf,setH,pushH,Option.getD_none,St.setO,St.withLocs,hasId,St.mk.injEq,true_and]
 funext i
 cases Nat.beq id i<;>rfl
theorem Core.putObj (hc:Core g w f s) {id:Nat} {cs:List HV} (hl:s.h[id]? = some (.cells cs)) {l:List HV} {us:List Value} {off:Nat} (hlen:us.length=l.length) (hle:off+l.length≤cs.length)
  (hnew:∀(j:Nat) (x:HV),l[j]? = some x→∃u,us[j]? = some u∧HVR g w (.cell id (off+j)) x u) :
  ∃old tt,w.heap[g.io id]? = some (.cells old tt (0,0))∧old.size=cs.length ∧
   Core g (w.setRow (g.io id) (setV old.toList off us).toArray) f (s.setO id (.cells (setR cs off l))) ∧
   Stp g w f s g (w.setRow (g.io id) (setV old.toList off us).toArray) f (s.setO id (.cells (setR cs off l))):=by
 have hb:=hc.heap.obj id cs hl
 have hid:id<s.h.length:=(List.getElem?_eq_some_iff.1 hl).1
 obtain ⟨old,tt,h1,h2,hch,h3⟩:=BoxR.put hb (fun i=>by simp) hlen hle hnew
 have hother:∀b,b=g.io id→∀ow:Own,ow ≠ .obj id→g.ow b≠some ow:=by
  intro b e ow hne he
  rw [e,hb.ow] at he
  exact hne (Option.some.inj he).symm
 refine ⟨old,tt,h1,h2,⟨⟨by simp [St.setO,hc.heap.len],fun j hj=>Nat.lt_of_lt_of_le (hc.heap.lt j hj) hch.size,fun j cs' hj => ?_,fun j es' hj => ?_,fun j t' n' xs' hj => ?_⟩,fun i=>(hc.loc i).chg hch fun b hb' ow ho=>hother b hb' ow fun e'=>(by rw [e'] at ho;cases ho),fun b i hx=>Nat.lt_of_lt_of_le (hc.wf b i hx) hch.size⟩,
  ⟨hch.mono fun b _ e=>by rw [e,hb.ow];simp,fun i => ?_,fun j => ?_⟩⟩
 ·rw [setO_h,List.getElem?_set] at hj
  by_cases e:id=j
  ·subst e
   rw [if_pos rfl,if_pos hid] at hj
   cases hj
   exact h3
  ·rw [if_neg e] at hj
   exact (hc.heap.obj j cs' hj).chgO hch (fun b hb'=>hother b hb' _ (by simp;exact fun e'=>e e'.symm)) (fun i b hb'=>hother b hb' _ (by simp))
 ·rw [setO_h,List.getElem?_set] at hj
  by_cases e:id=j
  ·subst e
   rw [if_pos rfl,if_pos hid] at hj
   cases hj
  ·rw [if_neg e] at hj
   exact (hc.heap.map j es' hj).chgO hch (fun b hb'=>hother b hb' _ (by simp;exact fun e'=>e e'.symm))
 ·rw [setO_h,List.getElem?_set] at hj
  by_cases e:id=j
  ·subst e
   rw [if_pos rfl,if_pos hid] at hj
   cases hj
  ·rw [if_neg e] at hj
   exact (hc.heap.arr j t' n' xs' hj).chgO hch (fun b hb'=>hother b hb' _ (by simp;exact fun e'=>e e'.symm))
 ·refine SiteStp.same rfl rfl rfl fun m cs' hb' j => ?_
  have hli:=hc.loc i
  unfold LR at hli
  rw [hb'] at hli
  have hne:f.be i≠g.io id:=by
   intro e2
   have:=hli.ow
   rw [e2,hb.ow] at this
   simp at this
  simp only [World.cell?,setRow_other w _ _ _ hne]
 ·by_cases e:id=j
  ·subst e
   exact .inl (by rw [setO_hv_eq];exact Nat.lt_succ_self _)
  ·refine .inr ⟨setO_hv_ne e,fun cs' hj=>⟨by rw [setO_h,List.getElem?_set,if_neg e];exact hj,fun i => ?_⟩⟩
   have hne:g.io j≠g.io id:=by
    intro e2
    have:=(hc.heap.obj j cs' hj).ow
    rw [e2,hb.ow] at this
    simp only [Option.some.injEq,Own.obj.injEq] at this
    exact e this
   simp only [World.cell?,setRow_other w _ _ _ hne]
theorem Core.putArrO (hc:Core g w f s) {id b:Nat} {t:TypeId} {n:Nat} {xs xs':List (List AV)} (hl:s.h[id]? = some (.arr t n xs)) (hb:(g.hdr id).ownBlock=some b) {old cur:Array Value} {tt:TypeId} (hrow:w.heap[b]? = some (.cells old tt (0,0))) (hs:cur.size=old.size)
  (hnew:Chg (· = b) g w g (w.setRow b cur)→SR g (w.setRow b cur) (.obj id) (.e t n xs') true (g.hdr id)) :
  Core g (w.setRow b cur) f (s.setO id (.arr t n xs'))∧Stp g w f s g (w.setRow b cur) f (s.setO id (.arr t n xs')):=by
 have h0:=hc.heap.arr id t n xs hl
 have hid:id<s.h.length:=(List.getElem?_eq_some_iff.1 hl).1
 have hown:=SR.owner h0.sr hb
 have hst:∀i,¬g.st b i:=by
  intro i hi
  obtain ⟨_,_,_,_,_,h5⟩:=h0.sr
  exact absurd ((h5 b hb).2 i |>.1 hi).1 (by simp)
 have hch:Chg (· = b) g w g (w.setRow b cur):=row_chg hrow hst hs
 have hother:∀b',b'=b→∀ow:Own,ow ≠ .obj id→g.ow b'≠some ow:=by
  intro b' e ow hne he
  rw [e,hown.1] at he
  exact hne (Option.some.inj he).symm
 have hset:∀(j:Nat) (x:HO),(s.setO id (.arr t n xs')).h[j]? = some x→(j=id∧x = .arr t n xs')∨(id≠j∧s.h[j]? = some x):=by
  intro j x hj
  rw [setO_h,List.getElem?_set] at hj
  by_cases e:id=j
  ·subst e
   rw [if_pos rfl,if_pos hid] at hj
   exact .inl ⟨rfl,(Option.some.inj hj).symm⟩
  ·rw [if_neg e] at hj
   exact .inr ⟨e,hj⟩
 refine ⟨⟨⟨by simp [St.setO,hc.heap.len],fun j hj=>Nat.lt_of_lt_of_le (hc.heap.lt j hj) hch.size,fun j cs' hj => ?_,fun j es' hj => ?_,fun j t' n' xs1 hj => ?_⟩,fun i=>(hc.loc i).chg hch fun b' hb' ow ho=>hother b' hb' ow fun e'=>(by rw [e'] at ho;cases ho),fun b' i hx=>Nat.lt_of_lt_of_le (hc.wf b' i hx) hch.size⟩,
  ⟨hch.mono fun b' _ e=>by rw [e,hown.1];simp,fun i => ?_,fun j => ?_⟩⟩
 ·rcases hset j _ hj with ⟨_,e⟩ | ⟨e,hj⟩
  ·cases e
  ·exact (hc.heap.obj j cs' hj).chgO hch (fun b' hb'=>hother b' hb' _ (by simp;exact fun e'=>e e'.symm)) (fun i b' hb'=>hother b' hb' _ (by simp))
 ·rcases hset j _ hj with ⟨_,e⟩ | ⟨e,hj⟩
  ·cases e
  ·exact (hc.heap.map j es' hj).chgO hch (fun b' hb'=>hother b' hb' _ (by simp;exact fun e'=>e e'.symm))
 ·rcases hset j _ hj with ⟨e1,e⟩ | ⟨e,hj⟩
  ·cases e
   rw [e1]
   exact ⟨hnew hch,h0.bl⟩
  ·exact (hc.heap.arr j t' n' xs1 hj).chgO hch (fun b' hb'=>hother b' hb' _ (by simp;exact fun e'=>e e'.symm))
 ·refine SiteStp.same rfl rfl rfl fun m cs' hb' j => ?_
  have hli:=hc.loc i
  unfold LR at hli
  rw [hb'] at hli
  have hne:f.be i≠b:=by
   intro e2
   have:=hli.ow
   rw [e2,hown.1] at this
   simp at this
  simp only [World.cell?,setRow_other w _ _ _ hne]
 ·by_cases e:id=j
  ·subst e
   exact .inl (by rw [setO_hv_eq];exact Nat.lt_succ_self _)
  ·refine .inr ⟨setO_hv_ne e,fun cs' hj=>⟨by rw [setO_h,List.getElem?_set,if_neg e];exact hj,fun i => ?_⟩⟩
   have hne:g.io j≠b:=by
    intro e2
    have:=(hc.heap.obj j cs' hj).ow
    rw [e2,hown.1] at this
    simp only [Option.some.injEq,Own.obj.injEq] at this
    exact e this
   simp only [World.cell?,setRow_other w _ _ _ hne]
theorem Core.putArr (hc:Core g w f s) {k ver b:Nat} {c c':SC} (hl:s.loc k=⟨ver, .arr c true⟩) (hb:(f.hd k).ownBlock=some b) {old cur:Array Value} {tt:TypeId} (hrow:w.heap[b]? = some (.cells old tt (0,0))) (hs:cur.size=old.size)
  (hlen:c'.len=c.len) (hw:c'.width=c.width) (hnew:Chg (· = b) g w g (w.setRow b cur)→SR g (w.setRow b cur) (.arr k) c' true (f.hd k)) :
  Core g (w.setRow b cur) f (s.withLocs [(k,⟨ver, .arr c' true⟩)])∧Stp g w f s g (w.setRow b cur) f (s.withLocs [(k,⟨ver, .arr c' true⟩)]):=by
 have h0:=hc.loc k
 unfold LR at h0
 rw [hl] at h0
 have hown:=SR.owner h0 hb
 have hst:∀i,¬g.st b i:=by
  intro i hi
  cases c with
  | e t n xs=>obtain ⟨_,_,_,_,_,h5⟩:=h0;exact absurd ((h5 b hb).2 i |>.1 hi).1 (by simp)
  | y t sb=>obtain ⟨_,h5⟩:=h0;exact absurd ((h5 b hb).2 i |>.1 hi).1 (by simp)
 have hch:Chg (· = b) g w g (w.setRow b cur):=row_chg hrow hst hs
 have hother:∀b',b'=b→∀ow:Own,ow ≠ .arr k→g.ow b'≠some ow:=by
  intro b' e ow hne he
  rw [e,hown.1] at he
  exact hne (Option.some.inj he).symm
 refine ⟨⟨hc.heap.chg hch rfl fun b' hb' ow ho=>hother b' hb' ow (fun e=>by rw [e] at ho;exact ho),fun i => ?_,fun b' i hx=>Nat.lt_of_lt_of_le (hc.wf b' i hx) hch.size⟩,
  ⟨hch.mono fun b' _ e=>by rw [e,hown.1];simp,fun i => ?_,fun id => .keep rfl rfl fun cs0 hid j => ?_⟩⟩
 ·rw [withLocs_loc]
  by_cases e:i=k
  ·subst e
   rw [if_pos rfl]
   exact hnew hch
  ·rw [if_neg e]
   refine (hc.loc i).chg hch fun b' hb' ow ho=>hother b' hb' ow fun e' => ?_
   rw [e'] at ho
   simp only [Own.site,Option.some.injEq] at ho
   exact e ho.symm
 ·by_cases e:i=k
  ·subst e
   right
   rw [withLocs_loc,if_pos rfl,hl]
   refine ⟨rfl,rfl,rfl,fun m' cs' e=>(by cases e),fun c1 ex' e => ?_⟩
   cases e
   exact ⟨c,true,rfl,hlen,hw⟩
  ·refine SiteStp.same (by rw [withLocs_loc,if_neg e]) rfl rfl fun m cs' hb' j => ?_
   have hli:=hc.loc i
   unfold LR at hli
   rw [hb'] at hli
   have hne:f.be i≠b:=by
    intro e2
    have:=hli.ow
    rw [e2,hown.1] at this
    simp at this
   simp only [World.cell?,setRow_other w _ _ _ hne]
 ·have hne:g.io id≠b:=by
   intro e2
   have:=(hc.heap.obj id cs0 hid).ow
   rw [e2,hown.1] at this
   simp at this
  simp only [World.cell?,setRow_other w _ _ _ hne]
end
end Go.Vm
namespace Go.Vm
open Go
section
variable {C:Cx} {N:Ann} {nt:NT} {g0 g:Gh} {w0 w:World} {f:Fr} {s:St} {a:Act} {o:Oper}
variable {K:Upd→Res} {R:Res} {G:FuncId→List AV→List HO→Res}
theorem OpS.toSkip (r:Rel C nt g0 w0 g w f s a) (hd:∀x,o.dst=some x→nt.ok x) {u:Upd} {g':Gh} {w':World} {f':Fr} (hk:K u=R)
  (hx:(execOp a.eval o).run C.P w = .ok .skip w') (he:u.dst=none)
  (hc:Core g' w' f' (Upd.on u none s)) (hst:Stp g w f s g' w' f' (Upd.on u none s)):OpS C nt g0 w0 s a w o K R:=by
 intro next Q hn _
 refine wp_skip' hx (hn u g' w' f' _ hk ?_)
 have:=r.to (e := .v .U) (u:=undef) hst hc rfl hd trivial
 simp only [Upd.on,he,Option.getD_none,St.put] at this ⊢
 cases h:o.dst<;>simp only [h] at this ⊢ <;> exact this
theorem setRA_mid:∀(l pre mid post:List AV) (off:Nat),off+l.length≤mid.length→setRA (pre++mid++post) (pre.length+off) l=pre++setRA mid off l++post
 | [],pre,mid,post,off,_=>rfl
 | x::l,pre,mid,post,off,h=>by
  simp only [List.length_cons] at h
  simp only [setRA]
  have e1:(pre++mid++post).set (pre.length+off) x=pre++mid.set off x++post:=by
   rw [List.append_assoc,List.set_append_right _ _ (by omega),show pre.length+off-pre.length=off by omega,List.set_append_left _ _ (by omega),List.append_assoc]
  rw [e1,show pre.length+off+1=pre.length+(off+1) by omega,setRA_mid l pre (mid.set off x) post (off+1) (by simp;omega)]
theorem setRA_len:∀(l cs:List AV) (off:Nat),(setRA cs off l).length=cs.length
 | [],_,_=>rfl
 | u::us,cs,off=>by simp [setRA,setRA_len us]
theorem flat_split {n:Nat} : ∀(i:Nat) (xs:List (List AV)),(∀x∈xs,x.length=n)→i<xs.length→xs.flatten=(xs.take i).flatten++xs.getD i []++(xs.drop (i+1)).flatten∧(xs.take i).flatten.length=i*n
 | _,[],_,hi=>by simp at hi
 | 0,x::xs,_,_=>by simp
 | i+1,x::xs,h,hi=>by
  obtain ⟨h1,h2⟩:=flat_split i xs (fun y hy=>h y (by simp [hy])) (by simpa using hi)
  refine ⟨?_,?_⟩
  ·simp only [List.flatten_cons,List.take_succ_cons,List.getD_cons_succ,List.drop_succ_cons,List.append_assoc] at h1 ⊢
   rw [h1]
  ·simp only [List.take_succ_cons,List.flatten_cons,List.length_append,h2,h x (by simp),Nat.succ_mul]
   omega
theorem setRA_flat' {n:Nat} {l:List AV} {xs:List (List AV)} (hx:∀x∈xs,x.length=n) {i off:Nat} (hi:i<xs.length) (hl:off+l.length≤n) :
  setRA xs.flatten (i*n+off) l=(xs.set i (setRA (xs.getD i []) off l)).flatten:=by
 obtain ⟨h1,h2⟩:=flat_split i xs hx hi
 have h3:(xs.getD i []).length=n:=getD_mem_len hx hi
 rw [h1,←h2,setRA_mid l _ _ _ off (by rw [h3];exact hl)]
 rw [List.set_eq_take_append_cons_drop,if_pos hi]
 simp
theorem setV_take:∀(us vs:List Value) (off k:Nat),off+us.length≤k→(setV vs off us).take k=setV (vs.take k) off us
 | [],_,_,_,_=>rfl
 | u::us,vs,off,k,h=>by
  simp only [List.length_cons] at h
  simp only [setV]
  rw [setV_take us _ _ k (by omega),List.take_set]
theorem HVR_VS:∀(l:List HV) (us:List Value) (co:Nat→Own),us.length=l.length→(∀(j:Nat) (x:HV),l[j]? = some x→∃v,us[j]? = some v∧HVR g w (co j) x v)→VS g w (l.map HV.toAV) us
 | [],us,_,hl,_=>by simp at hl;subst hl;simp [VS]
 | x::xs,[],_,hl,_=>by simp at hl
 | x::xs,u::us,co,hl,h=>by
  simp only [List.map_cons,VS]
  obtain ⟨u',hu',h0⟩:=h 0 x rfl
  simp at hu'
  subst hu'
  obtain ⟨v1,v2⟩:=h0.toV
  exact ⟨u,us,rfl,v1,v2,HVR_VS xs us (fun j=>co (j+1)) (by simpa using hl) fun i y hy=>by simpa using h (i+1) y (by simpa using hy)⟩
theorem setV_map_set {α:Type} (f:α→Value) (l:List α) (i:Nat) (x:α):setV (l.map f) i [f x]=(l.set i x).map f:=by
 simp [setV,List.map_set]
def PutH (C:Cx) (G:FuncId→List AV→List HO→Res) (g:Gh) (w:World) (f:Fr) (s:St) (t:TypeId) (v:Value) (ye:EV) (lye:LOv) (R:Res):Prop:=
 (aggT C.P t=false→szT C.P t=1)→∀(co:Nat→Own) (K':List HV→List (Nat×LOv)→Res),putK (stdAlg C.pure G) C t ye lye K'=R →
  ∃(l:List HV) (us:List Value) (u:List (Nat×LOv)) (g1:Gh),K' l u=R∧Core g1 w f (s.withLocs u)∧Stp g w f s g1 w f (s.withLocs u)∧v.cells=us.toArray∧us.length=szT C.P t∧us.length=l.length∧(∀v∈us,v.oneCell'=true) ∧
   ∀(j:Nat) (x:HV),l[j]? = some x→∃v,us[j]? = some v∧HVR g1 w (co j) x v
theorem OpS.storeG (r:Rel C nt g0 w0 g w f s a) (hd:∀x,o.dst=some x→nt.ok x) (hR:R ≠ .stuck) {t:TypeId} {x y:Operand} (ho:o.op = .store t x y) {ye:EV} {lye:LOv} (HP:PutH C G g w f s t (a.eval y) ye lye R)
  (h:storeK (stdAlg C.pure G) C t (evO C s x) ye (loO s (evO C s x)) lye s.h K=R):OpS C nt g0 w0 s a w o K R:=by
 unfold storeK at h
 dsimp only at h
 split at h
 ·exact absurd h.symm hR
 rename_i hok
 have hok':okT C.P t=true:=by
  cases hq:okT C.P t with
  | true=>rfl
  | false=>exact absurd (.inl hq) hok
 have hz:aggT C.P t=false→szT C.P t=1:=by
  intro ha
  by_cases e:szT C.P t=1
  ·exact e
  ·exact absurd (.inr ⟨ha,e⟩) hok
 have run:∀{b off:Nat} {old:Array Value} {tt:TypeId} {us:List Value},a.eval x = .pointer (some ⟨b,off,none⟩)→w.heap[b]? = some (.cells old tt (0,0))→(a.eval y).cells=us.toArray→us.length=szT C.P t →
   off+us.length≤old.size→(∀u∈us,u.oneCell'=true)→(execOp a.eval o).run C.P w = .ok .skip (w.setRow b (setV old.toList off us).toArray):=by
  intro b off old tt us hx hb hc hl hle h1
  have:=run_storeVar (C:=C) hok' hb hc hl hle h1
  simp [execOp,ho,Instr.storeAt,Instr.sureAddr,hx,this]
 split at h
 ·
  rename_i k ver off e1
  split at h
  ·rename_i ver' md cs e2
   split at h
   ·rename_i hver
    subst hver
    have hve:=r.ev x
    rw [e1] at hve e2
    simp only [loO,EV.site] at e2
    have hx:=hve.2 (by rw [e2]) md cs (by rw [e2])
    obtain ⟨hc,h1⟩:=chk_inv' h hR
    have hle:off+szT C.P t≤cs.length:=by simpa using hc
    obtain ⟨l,us,u,g1,h2,c1,s1,q1,q2,q3,q4,q5⟩:=HP hz (fun j => .bcell k (off+j)) _ h1
    split at h2
    ·exact absurd h2.symm hR
    ·rename_i hany
     have hany:(u.any fun p=>p.1 == k)=false:=(Bool.not_eq_true _).mp hany
     have hlk:(s.withLocs u).loc k=⟨ver, .box md cs⟩:=by
      show setLocs s.loc u k=_
      rw [setLocs_not u s.loc k hany,e2]
     obtain ⟨old,tt,p1,p2,p3,p4⟩:=c1.putBox hlk q3 (by rw [←q3,q2];exact hle) q5
     rw [←withLocs_cons] at p3 p4
     exact .toSkip r hd h2 (run hx p1 q1 q2 (by rw [p2,q2];exact hle) q4) rfl p3 (s1.trans r.core.heap.len p4)
   ·exact absurd h.symm hR
  ·exact absurd h.symm hR
 ·
  rename_i k ver i off e1
  split at h
  ·rename_i ver' t' n xs e2
   split at h
   ·rename_i hver
    obtain ⟨hver,hle⟩:=hver
    subst hver
    have hve:=r.ev x
    rw [e1] at hve e2
    simp only [loO,EV.site] at e2
    obtain ⟨hi,b,hb,hx⟩:=hve.2 (by rw [e2]) _ true (by rw [e2])
    obtain ⟨l,us,u,g1,h2,c1,s1,q1,q2,q3,q4,q5⟩:=HP hz (fun j => .bcell k 0) _ h
    split at h2
    ·exact absurd h2.symm hR
    ·rename_i hany
     have hany:(u.any fun p=>p.1 == k)=false:=(Bool.not_eq_true _).mp hany
     have hlk:(s.withLocs u).loc k=⟨ver, .arr (.e t' n xs) true⟩:=by
      show setLocs s.loc u k=_
      rw [setLocs_not u s.loc k hany,e2]
     have hlr:=c1.loc k
     unfold LR at hlr
     rw [hlk] at hlr
     obtain ⟨vals,h3,h4,h5,h6,h7⟩:=hlr
     simp only [SC.len,SC.width] at hi hx
     have hvl:=h3.1
     rcases h3.2 with ⟨he,_⟩ | ⟨b',cap,cur,he,_,hrow,hcap,hmx,hsz,htk⟩
     ·rw [he] at hb;simp [Value.ownBlock] at hb
     ·have hbb:b'=b:=by rw [he] at hb;simpa [Value.ownBlock] using hb
      subst hbb
      have hin:i*n+n≤xs.length*n:=by
       have:=Nat.mul_le_mul_right n (show i+1≤xs.length from hi)
       rw [Nat.succ_mul] at this;exact this
      have hcn:xs.length*n≤cap*n:=Nat.mul_le_mul_right n hcap
      have hll:l.length≤n-off:=by rw [←q3,q2];omega
      have key:=c1.putArr hlk hb (c' := .e t' n (xs.set i (setRA (exp n (xs.getD i [])) off (l.map HV.toAV)))) (cur:=(setV cur.toList (i*n+off) us).toArray) hrow (by simp [setV_len]) (by simp [SC.len]) rfl (fun hch=>by
       refine ⟨setV vals (i*n+off) us,⟨by simp [setV_len,hvl], .inr ⟨b',cap,_,?_,Nat.zero_le _,setRow_heap w b' _ _ _ _ hrow,?_,hmx,by simp [setV_len,hsz],?_⟩⟩,h4,fun z hz => ?_,?_,?_⟩
       ·rw [List.length_set];exact he
       ·rw [List.length_set];exact hcap
       ·rw [List.length_set]
        rw [setV_take us _ _ _ (by rw [q2];omega),htk]
       ·rcases List.mem_or_eq_of_mem_set hz with hz | hz
        ·exact h5 z hz
        ·rw [hz,setRA_len,exp_eq (getD_mem_len h5 hi)];exact getD_mem_len h5 hi
       ·rw [exp_eq (getD_mem_len h5 hi),←setRA_flat' h5 hi (by rw [List.length_map];omega)]
        exact VS_setR _ us _ _ vals (VS.later hch.later _ _ (HVR_VS l us _ q3 q5)) (VS.later hch.later _ _ h6)
       ·rw [List.length_set]
        exact h7)
      obtain ⟨p3,p4⟩:=key
      rw [←withLocs_cons] at p3 p4
      exact .toSkip r hd h2 (run hx hrow q1 q2 (by rw [hsz,q2];omega) q4) rfl p3 (s1.trans r.core.heap.len p4)
   ·exact absurd h.symm hR
  ·rename_i ver' t' sb e2
   split at h
   ·rename_i hver
    obtain ⟨hver,hoff⟩:=hver
    subst hver
    subst hoff
    have hve:=r.ev x
    rw [e1] at hve e2
    simp only [loO,EV.site] at e2
    obtain ⟨hi,b,hb,hx⟩:=hve.2 (by rw [e2]) _ true (by rw [e2])
    obtain ⟨l,us,u,g1,h2,c1,s1,q1,q2,q3,q4,q5⟩:=HP hz (fun j => .bcell k 0) _ h
    split at h2
    ·rename_i av
     split at h2
     ·exact absurd h2.symm hR
     rename_i hany
     have hany:(u.any fun p=>p.1 == k)=false:=(Bool.not_eq_true _).mp hany
     have hlk:(s.withLocs u).loc k=⟨ver, .arr (.y t' sb) true⟩:=by
      show setLocs s.loc u k=_
      rw [setLocs_not u s.loc k hany,e2]
     obtain ⟨m,hm,h2⟩:=mI_inv h2 hR
     subst hm
     obtain ⟨uv,hu0,hu1⟩:=q5 0 _ rfl
     obtain ⟨hu2,hu3⟩:=V_I' hu1.1
     have hus:us=[.int .u8 m]:=by
      match us,q3,hu0 with
      | [z],_,hu0=>simp at hu0;rw [hu0,hu2]
     subst hus
     have hlr:=c1.loc k
     unfold LR at hlr
     rw [hlk] at hlr
     obtain ⟨h3,h7⟩:=hlr
     simp only [SC.len,SC.width,Nat.mul_one,Nat.add_zero] at hi hx
     rcases h3.2 with ⟨he,_⟩ | ⟨b',cap,cur,he,_,hrow,hcap,hmx,hsz,htk⟩
     ·rw [he] at hb;simp [Value.ownBlock] at hb
     ·have hbb:b'=b:=by rw [he] at hb;simpa [Value.ownBlock] using hb
      subst hbb
      have key:=c1.putArr hlk hb (c' := .y t' (sb.set i (UInt8.ofNat m.toNat))) (cur:=(setV cur.toList i [.int .u8 m]).toArray) hrow (by simp [setV_len]) (by simp [SC.len]) rfl (fun hch=>by
       refine ⟨⟨by simp, .inr ⟨b',cap,_,?_,Nat.zero_le _,setRow_heap w b' _ _ _ _ hrow,?_,hmx,by simp [setV_len,hsz],?_⟩⟩,?_⟩
       ·rw [List.length_set];exact he
       ·rw [List.length_set];exact hcap
       ·rw [List.length_set]
        show List.take _ (setV cur.toList i [.int .u8 m])=_
        rw [setV_take _ _ _ _ (by simp;omega),htk,←byte_back hu3,setV_map_set]
       ·rw [List.length_set]
        exact h7)
      obtain ⟨p3,p4⟩:=key
      rw [←withLocs_cons] at p3 p4
      refine .toSkip r hd h2 (run hx hrow q1 q2 ?_ q4) rfl p3 (s1.trans r.core.heap.len p4)
      simp only [List.length_singleton]
      omega
    ·exact absurd h2.symm hR
   ·exact absurd h.symm hR
  ·exact absurd h.symm hR
 ·
  rename_i c e1
  obtain ⟨id,off,rfl,h0⟩:=mP_inv h hR
  obtain ⟨hlt,hx⟩:=V_P' (r.evv e1)
  obtain ⟨l,us,u,g1,h2,c1,s1,q1,q2,q3,q4,q5⟩:=HP hz (fun j => .cell id (off+j)) _ h0
  split at h2
  ·rename_i t' n xs e2
   split at h2
   ·rename_i hin
    obtain ⟨hi,hn,hle⟩:=hin
    have har0:=r.core.heap.arr id _ _ _ (arrAt_some e2)
    have hio:g1.io id=g.io id:=s1.chg.later.io id hlt
    have hhd:g1.hdr id=g.hdr id:=s1.chg.later.hdr id hlt
    have hl1:(s.withLocs u).h[id]? = some (.arr t' n xs):=arrAt_some e2
    have har:=c1.heap.arr id _ _ _ hl1
    obtain ⟨vals,h3,h4,h5,h6,h7⟩:=har.sr
    have hvl:=h3.1
    have hxl:0<xs.length:=Nat.lt_of_le_of_lt (Nat.zero_le _) hi
    have hoff:off=off / n*n+off % n:=by rw [Nat.mul_comm];exact (Nat.div_add_mod off n).symm
    rcases h3.2 with ⟨_,he0⟩ | ⟨b',cap,cur,he,_,hrow,hcap,hmx,hsz,htk⟩
    ·omega
    ·have hb:(g1.hdr id).ownBlock=some b':=by rw [he];rfl
     have hbb:b'=g1.io id:=har.bl b' hb
     have hin:off / n*n+n≤xs.length*n:=by
      have:=Nat.mul_le_mul_right n (show off / n+1≤xs.length from hi)
      rw [Nat.succ_mul] at this;exact this
     have hcn:xs.length*n≤cap*n:=Nat.mul_le_mul_right n hcap
     have hll:l.length≤n-off % n:=by rw [←q3,q2];omega
     rw [hoff,←hio,←hbb] at hx
     have key:=c1.putArrO hl1 hb (xs':=xs.set (off / n) (setRA (exp n (xs.getD (off / n) [])) (off % n) (l.map HV.toAV))) (cur:=(setV cur.toList (off / n*n+off % n) us).toArray) hrow (by simp [setV_len]) (fun hch=>by
      refine ⟨setV vals (off / n*n+off % n) us,⟨by simp [setV_len,hvl], .inr ⟨b',cap,_,?_,Nat.zero_le _,setRow_heap w b' _ _ _ _ hrow,?_,hmx,by simp [setV_len,hsz],?_⟩⟩,h4,fun z hz => ?_,?_,?_⟩
      ·rw [List.length_set];exact he
      ·rw [List.length_set];exact hcap
      ·rw [List.length_set]
       rw [setV_take us _ _ _ (by rw [q2];omega),htk]
      ·rcases List.mem_or_eq_of_mem_set hz with hz | hz
       ·exact h5 z hz
       ·rw [hz,setRA_len,exp_eq (getD_mem_len h5 hi)];exact getD_mem_len h5 hi
      ·rw [exp_eq (getD_mem_len h5 hi),←setRA_flat' h5 hi (by rw [List.length_map];omega)]
       exact VS_setR _ us _ _ vals (VS.later hch.later _ _ (HVR_VS l us _ q3 q5)) (VS.later hch.later _ _ h6)
      ·rw [List.length_set]
       exact h7)
     obtain ⟨p3,p4⟩:=key
     exact .toSkip r hd h2 (run hx hrow q1 q2 (by rw [hsz,q2];omega) q4) rfl (by rw [on_dl];exact p3) (by rw [on_dl];exact s1.trans r.core.heap.len p4)
   ·exact absurd h2.symm hR
  obtain ⟨cs,hcs,h2⟩:=mO_inv h2 hR
  obtain ⟨hc,h2⟩:=chk_inv' h2 hR
  have hle:off+szT C.P t≤cs.length:=by simpa using hc
  obtain ⟨old,tt,p1,p2,p3,p4⟩:=c1.putObj (id:=id) (cs:=cs) (off:=off) hcs q3 (by rw [←q3,q2];exact hle) q5
  have hio:g1.io id=g.io id:=s1.chg.later.io id hlt
  rw [hio] at p1 p3 p4
  exact .toSkip r hd h2 (run hx p1 q1 q2 (by rw [p2,q2];exact hle) q4) rfl (by rw [on_dl];exact p3) (by rw [on_dl];exact s1.trans r.core.heap.len p4)
 ·exact absurd h.symm hR
theorem Core.handO (hc:Core g w f s) {k ver:Nat} {t:TypeId} {n:Nat} {x0:List AV} {xs:List (List AV)} (hl:s.loc k=⟨ver, .arr (.e t n (x0::xs)) true⟩) :
  ∃g',Core g' w f { s with loc:=setLocs s.loc [(k,⟨ver+1, .no⟩)],h:=s.h++[.arr t n (x0::xs)] } ∧
   Stp g w f s g' w f { s with loc:=setLocs s.loc [(k,⟨ver+1, .no⟩)],h:=s.h++[.arr t n (x0::xs)] } ∧ V g' w (.W s.h.length) (f.hd k):=by
 have hlen:=hc.heap.len
 have h0:=hc.loc k
 unfold LR at h0
 rw [hl] at h0
 have h0':SR g w (.arr k) (.e t n (x0::xs)) true (f.hd k):=h0
 obtain ⟨vals,h3,h4,h5,h6,h7⟩:=h0'
 rcases h3.2 with ⟨_,he0⟩ | ⟨b,cap,cur,he,hr1,hrow,hr2⟩
 ·simp at he0
 have hb:(f.hd k).ownBlock=some b:=by rw [he];rfl
 have hlt:b<w.heap.size:=(Array.getElem?_eq_some_iff.1 hrow).1
 have hown:=(h7 b hb).1
 let g1:Gh:=(g.own b (.obj g.n)).new b (f.hd k)
 have hix:∀i,i<g.n→g1.ix i=g.ix i:=fun i hi=>Gh.new_ix_old (g:=g.own b (.obj g.n)) hi
 have how:∀b',b'≠b→g1.ow b'=g.ow b':=fun b' hne=>if_neg hne
 have howb:g1.ow b=some (.obj g.n):=if_pos rfl
 have hlat:Later g w g1 w:=⟨Nat.le_succ _,hix,fun _ _ h=>h,fun _ _ _=>rfl,fun _ _ _ _ _ h=>h⟩
 have hch:Chg (· = b) g w g1 w:=⟨hlat,Nat.le_refl _,fun _ _ _=>rfl,fun b' _ hne=>how b' hne,fun _ _ _ _ h=>h,rfl,rfl,rfl⟩
 have hother:∀b',b'=b→∀ow:Own,ow ≠ .arr k→g.ow b'≠some ow:=by
  intro b' e ow hne he
  rw [e,hown] at he
  exact hne (Option.some.inj he).symm
 have old:∀(i:Nat) (x:HO),(s.h++[HO.arr t n (x0::xs)])[i]? = some x→(i<g.n∧s.h[i]? = some x)∨(i=g.n∧x = .arr t n (x0::xs)):=by
  intro i x hi
  rcases Nat.lt_or_ge i s.h.length with e | e
  ·rw [List.getElem?_append_left e] at hi
   exact .inl ⟨hlen▸e,hi⟩
  ·rw [List.getElem?_append_right e] at hi
   cases e2:i-s.h.length with
   | zero=>rw [e2] at hi;exact .inr ⟨by omega,by simpa using hi.symm⟩
   | succ m=>rw [e2] at hi;simp at hi
 refine ⟨g1,⟨⟨?_,fun i hi => ?_,fun i cs hi => ?_,fun i es hi => ?_,fun i t' n' xs' hi => ?_⟩,fun i => ?_,hc.wf⟩,⟨hch.mono fun b' _ e=>by rw [e,hown];simp,fun i => ?_,fun i => ?_⟩,?_⟩
 ·show (s.h++[HO.arr t n (x0::xs)]).length=g.n+1
  rw [List.length_append,hlen];rfl
 ·by_cases e:i=g.n
  ·rw [e,show g1.io g.n=b from Gh.new_io (g:=g.own b (.obj g.n))];exact hlt
  ·have hi':i<g.n:=by have:i<g.n+1:=hi;omega
   rw [show g1.io i=g.io i from congrArg Prod.fst (hix i hi')]
   exact hc.heap.lt i hi'
 ·rcases old i _ hi with ⟨e,hi⟩ | ⟨_,e⟩
  ·rw [show g1.io i=g.io i from congrArg Prod.fst (hix i e)]
   exact (hc.heap.obj i cs hi).chgO hch (fun b' hb'=>hother b' hb' _ (by simp)) (fun j b' hb'=>hother b' hb' _ (by simp))
  ·cases e
 ·rcases old i _ hi with ⟨e,hi⟩ | ⟨_,e⟩
  ·rw [show g1.io i=g.io i from congrArg Prod.fst (hix i e)]
   exact (hc.heap.map i es hi).chgO hch (fun b' hb'=>hother b' hb' _ (by simp))
  ·cases e
 ·rcases old i _ hi with ⟨e,hi⟩ | ⟨e1,e⟩
  ·rw [show g1.io i=g.io i from congrArg Prod.fst (hix i e),show g1.hdr i=g.hdr i from congrArg Prod.snd (hix i e)]
   exact (hc.heap.arr i t' n' xs' hi).chgO hch (fun b' hb'=>hother b' hb' _ (by simp))
  ·cases e
   rw [e1,show g1.io g.n=b from Gh.new_io (g:=g.own b (.obj g.n)),show g1.hdr g.n=f.hd k from Gh.new_hdr (g:=g.own b (.obj g.n))]
   refine ⟨⟨vals,h3,h4,h5,VS.later hlat _ _ h6,fun b' hb' => ?_⟩,fun b' hb' => ?_⟩
   ·rw [hb] at hb'
    cases hb'
    exact ⟨howb,(h7 b hb).2⟩
   ·rw [hb] at hb'
    exact (Option.some.inj hb').symm
 ·show LR g1 w f.be f.hd i (setLocs s.loc [(k,⟨ver+1, .no⟩)] i)
  rw [setLocs_one]
  by_cases e:i=k
  ·rw [if_pos e];trivial
  ·rw [if_neg e]
   refine (hc.loc i).chg hch fun b' hb' ow ho=>hother b' hb' ow fun e' => ?_
   rw [e'] at ho
   simp only [Own.site,Option.some.injEq] at ho
   exact e ho.symm
 ·by_cases e:i=k
  ·left
   show (s.loc i).ver<(setLocs s.loc [(k,⟨ver+1, .no⟩)] i).ver
   rw [setLocs_one,if_pos e,e,hl]
   exact Nat.lt_succ_self _
  ·refine SiteStp.same ?_ rfl rfl fun m cs' hb' j=>rfl
   show setLocs s.loc [(k,⟨ver+1, .no⟩)] i=_
   rw [setLocs_one,if_neg e]
 ·refine .inr ⟨rfl,fun cs hi=>⟨?_,fun _=>rfl⟩⟩
  show (s.h++_)[i]? = _
  rw [List.getElem?_append_left (List.getElem?_eq_some_iff.1 hi).1]
  exact hi
 ·simp only [V]
  refine ⟨by rw [hlen];exact Nat.lt_succ_self _,?_,by rw [he];rfl⟩
  rw [hlen]
  exact (Gh.new_hdr (g:=g.own b (.obj g.n))).symm
theorem OpS.store (r:Rel C nt g0 w0 g w f s a) (hd:∀x,o.dst=some x→nt.ok x) (hR:R ≠ .stuck) {t:TypeId} {x y:Operand} (ho:o.op = .store t x y)
  (h:opH C N G o s K R):OpS C nt g0 w0 s a w o K R:=by
 simp only [opH,opF,ho,Op.operands,List.map_cons,List.map_nil,List.getD_cons_zero,List.getD_cons_succ] at h
 have old:storeK (stdAlg C.pure G) C t (evO C s x) (evO C s y) (loO s (evO C s x)) (loO s (evO C s y)) s.h K=R→OpS C nt g0 w0 s a w o K R:=fun h=>
  .storeG r hd hR ho (fun hz co K' h'=>putK_inv r hR hz co h') h
 split at h
 ·split at h
  ·rename_i k ver ver' t' n x0 xs e1 e2
   split at h
   ·rename_i hv
    obtain ⟨hv,hne⟩:=hv
    subst hv
    have hve:=r.ev y
    rw [e1] at hve e2
    simp only [loO,EV.site] at e2
    have hy:a.eval y=f.hd k:=hve.2 (by rw [e2]) _ true (by rw [e2])
    obtain ⟨g1,c1,s1,v1⟩:=r.core.handO e2
    have r1:Rel C nt g0 w0 g1 w f { s with loc:=setLocs s.loc [(k,⟨ver+1, .no⟩)],h:=s.h++[.arr t' n (x0::xs)] } a:=by
     have:=r.to (d:=none) (e := .v .U) (u:=undef) s1 c1 rfl (fun _ e=>by cases e) trivial
     exact this
    have hlo:loO { s with loc:=setLocs s.loc [(k,⟨ver+1, .no⟩)],h:=s.h++[.arr t' n (x0::xs)] } (evO C s x)=loO s (evO C s x):=by
     unfold loO
     split
     ·rename_i k' e
      show setLocs s.loc [(k,⟨ver+1, .no⟩)] k'=s.loc k'
      rw [setLocs_one,if_neg]
      intro e'
      rw [e'] at e
      exact hne e
     ·rfl
    rw [←hlo] at h
    have h3:=OpS.storeG (o:=o) (s := { s with loc:=setLocs s.loc [(k,⟨ver+1, .no⟩)],h:=s.h++[.arr t' n (x0::xs)] }) r1 hd hR ho (fun hz co K' h' => ?_) h
    ·intro next Q hn hp
     refine h3 next Q (fun u g' w' f' a' hk hrel => ?_) hp
     dsimp only at hk
     split at hk
     ·rename_i e3 e4
      refine hn _ g' w' f' a' hk ?_
      have:Upd.on { dst:=u.dst,locs:=u.locs++[(k,⟨ver+1, .no⟩)],dl:=u.dl,push:=[.arr t' n (x0::xs)] } o.dst s=u.on o.dst { s with loc:=setLocs s.loc [(k,⟨ver+1, .no⟩)],h:=s.h++[.arr t' n (x0::xs)] } := by
       simp only [Upd.on,e3,e4,pushH,Option.getD_none,Upd.hvOf]
       congr 1
       congr 1
       funext i
       exact setLocs_append s.loc _ _ i
      rw [this]
      exact hrel
     ·exact absurd hk.symm hR
    ·unfold putK at h'
     split at h'
     ·rename_i hag
      exact absurd (show R=Res.stuck from h'.symm) hR
     ·rename_i hag
      have hz:=hz (by simpa using hag)
      have h'':m1 (.W s.h.length) (K' [.a (.W s.h.length)] [])=R:=h'
      obtain ⟨h2,h3⟩:=m1_inv h'' hR
      rw [←hy] at v1
      have h1c:=h3 _ _ _ v1
      have one:∀v:Value,v.oneCell'=true→v.cells=[v].toArray:=by
       intro v h1
       revert h1
       cases v<;>simp [Value.oneCell',Value.cells]
      refine ⟨_,[a.eval y],[],g1,h2,c1,Stp.refl _ _ _ _,one _ h1c,hz.symm,rfl,fun v hv=>by simp at hv;subst hv;exact h1c,fun j x hj => ?_⟩
      cases j with
      | zero=>simp only [List.getElem?_cons_zero,Option.some.injEq] at hj;subst hj;exact ⟨_,rfl,v1,h1c⟩
      | succ j=>simp at hj
   ·exact absurd h.symm hR
  ·exact old h
 ·exact old h
end
end Go.Vm
namespace Go.Vm
open Go
section
variable {C:Cx} {N:Ann} {nt:NT} {g0 g:Gh} {w0 w:World} {f:Fr} {s:St} {a:Act} {o:Oper}
variable {K:Upd→Res} {R:Res} {G:FuncId→List AV→List HO→Res}
def SCV (g:Gh) (w:World):SC→List Value→Prop
 | .e _ n xs,vals=>(∀x∈xs,x.length=n)∧VS g w xs.flatten vals
 | .y _ sb,vals=>vals=sb.map fun x=>Value.int .u8 x.toNat
theorem SR_iff {ow:Own} {c:SC} {ex:Bool} {u:Value} : SR g w ow c ex u↔∃vals,w.ownsRow 0 c.elem c.width u c.len vals∧0<c.width∧SCV g w c vals∧OwnB g ow ex (c.len*c.width) u:=by
 cases c with
 | e t n xs=>
  constructor
  ·rintro ⟨vals,h1,h2,h3,h4,h5⟩
   exact ⟨vals,h1,h2,⟨h3,h4⟩,h5⟩
  ·rintro ⟨vals,h1,h2,⟨h3,h4⟩,h5⟩
   exact ⟨vals,h1,h2,h3,h4,h5⟩
 | y t sb=>
  constructor
  ·rintro ⟨h1,h5⟩
   exact ⟨_,h1,Nat.one_pos,rfl,by simpa [SC.len,SC.width] using h5⟩
  ·rintro ⟨vals,h1,h2,h3,h5⟩
   simp only [SCV] at h3
   subst h3
   exact ⟨h1,by simpa [SC.len,SC.width] using h5⟩
theorem SCV.later {g':Gh} {w':World} (hl:Later g w g' w') {c:SC} {vals:List Value} (h:SCV g w c vals):SCV g' w' c vals:=by
 cases c with
 | e t n xs=>exact ⟨h.1,VS.later hl _ _ h.2⟩
 | y t sb=>exact h
theorem SCV.length {c:SC} {vals:List Value} (h:SCV g w c vals):vals.length=c.len*c.width:=by
 cases c with
 | e t n xs=>
  rw [VS.length _ _ h.2]
  have:∀(l:List (List AV)),(∀x∈l,x.length=n)→l.flatten.length=l.length*n:=by
   intro l hl
   induction l with
   | nil=>simp
   | cons x l ih=>
    simp only [List.flatten_cons,List.length_append,List.length_cons,Nat.succ_mul]
    rw [ih (fun y hy=>hl y (by simp [hy])),hl x (by simp)]
    omega
  exact this xs h.1
 | y t sb=>simp only [SCV] at h;subst h;simp [SC.len,SC.width]
theorem SCV.one {c:SC} {vals:List Value} (h:SCV g w c vals):∀u∈vals,u.oneCell'=true:=by
 cases c with
 | e t n xs=>exact VS_one _ _ h.2
 | y t sb=>
  simp only [SCV] at h;subst h
  intro u hu
  obtain ⟨x,_,rfl⟩:=List.mem_map.1 hu
  rfl
def SC.same:SC→SC→Prop
 | .e _ n _, .e _ m _=>n=m
 | .y _ _, .y _ _=>True
 | _,_=>False
theorem SC.app_facts {c z:SC} (h:c.same z):(c.app z).len=c.len+z.len∧(c.app z).width=c.width∧(c.app z).elem=c.elem:=by
 cases c<;>cases z<;>simp_all [SC.same,SC.app,SC.len,SC.width,SC.elem]
theorem SCV.app {c z:SC} {v1 v2:List Value} (h:c.same z) (h1:SCV g w c v1) (h2:SCV g w z v2):SCV g w (c.app z) (v1++v2):=by
 cases c with
 | e t n xs=>
  cases z with
  | e t' m ys=>
   simp only [SC.same] at h
   subst h
   refine ⟨fun x hx=>(List.mem_append.1 hx).elim (h1.1 x) (h2.1 x),?_⟩
   rw [List.flatten_append]
   exact VS_app _ _ _ _ h1.2 h2.2
  | y t' s=>exact h.elim
 | y t sb=>
  cases z with
  | e t' m ys=>exact h.elim
  | y t' s'=>simp only [SCV] at h1 h2;subst h1;subst h2;simp [SC.app,SCV]
theorem SC.app_nil {c z:SC} (h:c.same z) (h0:z.len=0):c.app z=c:=by
 cases c<;>cases z<;>simp_all [SC.same,SC.app,SC.len]
def Gh.fresh (g:Gh) (b len:Nat) (ow:Own) (ex:Bool):Gh := { g with ow:=fun x=>if x=b then some ow else g.ow x,st:=fun b' i=>g.st b' i∨(b'=b∧ex=false∧i<len) }
theorem fresh_chg (hwf:∀b i,g.st b i→b<w.heap.size) (ob:Obj) (len:Nat) (ow:Own) (ex:Bool):Chg (fun _=>False) g w (g.fresh w.heap.size len ow ex) (w.drew.alloc ob) where
 later:=⟨Nat.le_refl _,fun _ _=>rfl,fun _ _ h => .inl h,fun b i h=>by
  have:=hwf b i h
  simp only [World.cell?,heap_alloc_old w.drew ob this]
  rfl,fun b i _ h _ ⟨c,t,e⟩=>⟨c,t,(heap_alloc_old w.drew ob (hwf b i h)).trans e⟩⟩
 size:=by simp
 blk b hb _:=heap_alloc_old w.drew ob hb
 ow b hb _:=by simp only [Gh.fresh];rw [if_neg (by omega)]
 st b i hb _ h:=by
  rcases h with h | h
  ·exact h
  ·omega
 os:=rfl
 tape:=rfl
 out:=rfl
theorem SR.append {ow:Own} {c z:SC} {ex:Bool} {u x:Value} {t tx ty e:TypeId} {i:TypeInfo} {zv:Value} {news:List Value} (h:SR g w ow c ex u) (hwf:∀b i,g.st b i→b<w.heap.size)
  (ht:C.P.underlying t=some (.slice e)) (hi:C.P.info? e=some i) (hz:i.zero=some zv) (hzs:zv.cells.size=i.size) (he:c.elem=e) (hw:c.width=i.size) (hsm:c.same z)
  (hsrc:Src C.P i.size tx x z.len news w) (hnews:SCV g w z news) (hb1:c.len+z.len≤140737488355328) (hb2:(c.len+z.len)*i.bytes≤140737488355328) :
  ∃u' g' w',(Builtin.append_ #[t,tx] ty #[u,x]).run C.P w = .ok u' w'∧Chg (fun b=>g.ow b=some ow) g w g' w'∧SR g' w' ow (c.app z) ex u'∧g'.n=g.n∧g'.ix=g.ix ∧
   (∀b i,g'.st b i→b<w'.heap.size)∧(∀b,b<w.heap.size→g'.ow b=g.ow b):=by
 obtain ⟨a1,a2,a3⟩:=SC.app_facts hsm
 obtain ⟨vals,h1,h2,h3,h4⟩:=SR_iff.1 h
 have hnl:news.length=z.len*c.width:=by rw [hsrc.newsLen,hw]
 by_cases h0:z.len=0
 ·
  have hn0:news=[]:=List.eq_nil_of_length_eq_zero (by rw [hnl,h0,Nat.zero_mul])
  obtain ⟨ad,cap,hu,hle⟩:=ownsRow_len h1
  subst hu
  rw [h0,hn0] at hsrc
  refine ⟨_,g,w,run_append_nothing w t tx ty e i ht hi ad c.len cap hle.1 x hsrc,Chg.refl _ _ _,?_,rfl,rfl,hwf,fun _ _=>rfl⟩
  rw [SC.app_nil hsm h0]
  exact h
 ·have hpos:0<z.len:=by omega
  have hvl:vals.length=c.len*c.width:=h1.1
  have grow:∀(ad:Option Addr) (cap:Nat),u = .slice ad c.len cap→cap<c.len+z.len→(Builtin.firstCells i.size c.len u).run C.P w.drew = .ok vals.toArray w.drew →
    ∃u' g' w',(Builtin.append_ #[t,tx] ty #[u,x]).run C.P w = .ok u' w'∧Chg (fun b=>g.ow b=some ow) g w g' w'∧SR g' w' ow (c.app z) ex u'∧g'.n=g.n∧g'.ix=g.ix ∧
     (∀b i,g'.st b i→b<w'.heap.size)∧(∀b,b<w.heap.size→g'.ow b=g.ow b):=by
   intro ad cap hu hcap hold
   subst hu
   have hrun:=run_append_grow_src (P:=C.P) w t tx ty e i zv ht hi hz ad c.len cap vals hold x z.len news hsrc hcap (by omega) (growslice_fits hcap hb2)
   have hge:=grownCap_ge w (c.len+z.len) cap e
   have hcm:=grownCap_le_maxLen w (c.len+z.len) cap e (by unfold maxLen;omega)
   have hch:=fresh_chg hwf (.cells ((vals++news).toArray++Builtin.zeroCells zv.cells (grownCap w (c.len+z.len) cap e-(c.len+z.len))) e) ((c.len+z.len)*c.width) ow ex
   refine ⟨_,_,_,hrun,hch.mono fun _ _ hf=>hf.elim,SR_iff.2 ⟨vals++news,⟨?_, .inr ⟨w.heap.size,_,(vals++news).toArray++Builtin.zeroCells zv.cells (grownCap w (c.len+z.len) cap e-(c.len+z.len)),by rw [a1],Nat.zero_le _,?_,?_,hcm,?_,?_⟩⟩,?_,?_,?_⟩,rfl,rfl,fun b j hx => ?_,fun b hb => ?_⟩
   ·rw [List.length_append,hvl,hnl,a1,a2,Nat.add_mul]
   ·rw [a3,he];exact heap_alloc_new w.drew _
   ·rw [a1];exact hge
   ·rw [a2]
    simp only [Array.size_append,List.size_toArray,List.length_append,size_zeroCells,hzs,hvl,hnl,←hw,←Nat.add_mul]
    congr 1
    omega
   ·rw [a1,a2]
    simp only [Array.toList_append]
    exact List.take_left' (by simp [hvl,hnl,Nat.add_mul])
   ·rw [a2];exact h2
   ·exact (h3.app hsm hnews).later hch.later
   ·intro b hb
    simp only [Value.ownBlock,Option.some.injEq] at hb
    subst hb
    refine ⟨by simp [Gh.fresh],fun j => ?_⟩
    rw [a1,a2]
    constructor
    ·rintro (hx | hx)
     ·exact absurd (hwf _ _ hx) (by omega)
     ·exact hx.2
    ·intro hx
     exact .inr ⟨rfl,hx⟩
   ·rcases hx with hx | hx
    ·have:=hwf _ _ hx
     simp
     omega
    ·simp
     omega
   ·simp only [Gh.fresh]
    rw [if_neg (by omega)]
  rcases h1.2 with ⟨hu,hc0⟩ | ⟨b,cap,cur,hu,_,hrow,hle,hmx,hsz,htk⟩
  ·have hv0:vals=[]:=List.eq_nil_of_length_eq_zero (by rw [hvl,hc0,Nat.zero_mul])
   refine grow none 0 (by rw [hu,hc0]) (by omega) ?_
   rw [hu,hv0,hc0]
   exact run_firstCells_none _ _ _ _ _
  ·by_cases hroom:c.len+z.len≤cap
   ·
    have hown:=h4 b (by rw [hu];rfl)
    have hfit:c.len*c.width+news.length≤cur.size:=by rw [hnl,hsz,←Nat.add_mul];exact Nat.mul_le_mul_right _ hroom
    have hst:=run_storeCells_at (P:=C.P) b (c.len*c.width) e news 0 cur w (by rw [hrow,he]) (by simpa using hfit) (hnews.one)
    simp only [Nat.add_zero] at hst
    have hrun:(Builtin.append_ #[t,tx] ty #[u,x]).run C.P w = .ok (.slice (some ⟨b,0,none⟩) (c.len+z.len) cap) (w.setRow b (cur.toList.take (c.len*c.width)++news++cur.toList.drop (c.len*c.width+news.length)).toArray):=by
     rw [hu]
     rw [hw] at hst ⊢
     rcases hsrc.kind with ⟨e',hk⟩ | hk<;>simp [Builtin.append_,run_underlying ht,run_underlying hk,sizeOf,typeInfo,hi,hsrc.len,hroom,hsrc.cells,add_off,hst]
    rw [htk] at hrun
    generalize hcur':(vals++news++cur.toList.drop (c.len*c.width+news.length)).toArray=cur' at hrun
    have hs':cur'.size=cur.size:=by
     rw [←hcur']
     simp only [List.size_toArray,List.length_append,List.length_drop,Array.length_toList,hvl]
     omega
    let g':Gh := { g with st:=fun b' j=>g.st b' j∨(b'=b∧ex=false∧j<(c.len+z.len)*c.width) }
    have hcell:∀j,j<c.len*c.width→cur'[j]? = cur[j]? := by
     intro j hj
     rw [←hcur',←htk]
     rw [List.getElem?_toArray,List.append_assoc,List.getElem?_append_left (by rw [htk,hvl];exact hj),List.getElem?_take_of_lt hj]
     simp
    have hch:Chg (fun b=>g.ow b=some ow) g w g' (w.setRow b cur'):=by
     refine ⟨⟨Nat.le_refl _,fun _ _=>rfl,fun _ _ h => .inl h,fun b' j hx => ?_,fun b' j _ _ _ ⟨c',t',e'⟩ => ?_⟩,by simp [World.setRow],fun b' _ hne=>setRow_other w b b' cur' (fun e=>hne (by rw [e];exact hown.1)),fun _ _ _=>rfl,fun b' j _ hne hx => ?_,rfl,rfl,rfl⟩
     ·by_cases e:b'=b
      ·subst e
       simp only [World.cell?,hrow,setRow_heap w b' cur _ _ _ hrow]
       rw [hcell j ((hown.2 j).1 hx).2]
      ·simp only [World.cell?,setRow_other w b b' cur' e]
     ·by_cases e:b'=b
      ·subst e
       rw [hrow] at e'
       cases e'
       exact ⟨_,_,setRow_heap w b' cur _ _ _ hrow⟩
      ·exact ⟨c',t',(setRow_other w b b' cur' e).trans e'⟩
     ·rcases hx with hx | hx
      ·exact hx
      ·exact absurd (by rw [hx.1];exact hown.1) hne
    refine ⟨_,g',_,hrun,hch,SR_iff.2 ⟨vals++news,⟨?_, .inr ⟨b,cap,cur',?_,Nat.zero_le _,?_,?_,hmx,?_,?_⟩⟩,?_,?_,?_⟩,rfl,rfl,fun b' j hx => ?_,fun _ _=>rfl⟩
    ·rw [List.length_append,hvl,hnl,a1,a2,Nat.add_mul]
    ·rw [a1]
    ·rw [setRow_heap w b cur cur' _ _ hrow,a3]
    ·rw [a1];exact hroom
    ·rw [a2,hs',hsz]
    ·rw [a1,a2,←hcur']
     exact List.take_left' (by simp [hvl,hnl,Nat.add_mul])
    ·rw [a2];exact h2
    ·exact (h3.app hsm hnews).later hch.later
    ·intro b' hb'
     simp only [Value.ownBlock,Option.some.injEq] at hb'
     subst hb'
     refine ⟨hown.1,fun j => ?_⟩
     rw [a1,a2]
     constructor
     ·rintro (hx | hx)
      ·have:=(hown.2 j).1 hx
       exact ⟨this.1,Nat.lt_of_lt_of_le this.2 (Nat.mul_le_mul_right _ (by omega))⟩
      ·exact hx.2
     ·intro hx
      exact .inr ⟨rfl,hx⟩
    ·have hbs:(w.setRow b cur').heap.size=w.heap.size:=by simp [World.setRow]
     rw [hbs]
     rcases hx with hx | hx
     ·exact hwf _ _ hx
     ·rw [hx.1]
      exact (Array.getElem?_eq_some_iff.1 hrow).1
   ·refine grow (some ⟨b,0,none⟩) cap hu (by omega) ?_
    rw [hu]
    refine run_firstCells_some _ _ _ _ _ _ _ (by rw [hvl,hw]) fun j v hv => ?_
    rw [add_off,Nat.zero_add]
    have hlt:j<vals.length:=(List.getElem?_eq_some_iff.1 hv).1
    rw [←htk] at hv
    rw [hvl] at hlt
    rw [List.getElem?_take_of_lt hlt] at hv
    show World.cell? w _=_
    simp only [World.cell?,hrow]
    simpa using hv
end
end Go.Vm
namespace Go.Vm
open Go
section
variable {C:Cx} {N:Ann} {nt:NT} {g0 g:Gh} {w0 w:World} {f:Fr} {s:St} {a:Act} {o:Oper}
variable {K:Upd→Res} {R:Res} {G:FuncId→List AV→List HO→Res}
theorem Core.newSlice (hc:Core g w f s) (k ver:Nat) (hv:(s.loc k).ver<ver) {c:SC} {ex:Bool} {u1:Value} {g1:Gh} {w1:World} (hch:Chg (fun b=>g.ow b=some (.arr k)) g w g1 w1) (hn:g1.n=g.n) (hwf:∀b i,g1.st b i→b<w1.heap.size)
  (hs:SR g1 w1 (.arr k) c ex u1) :
  Core g1 w1 (f.setHd k u1) (s.withLocs [(k,⟨ver, .arr c ex⟩)])∧Stp g w f s g1 w1 (f.setHd k u1) (s.withLocs [(k,⟨ver, .arr c ex⟩)])∧VE g1 w1 (f.setHd k u1) (s.withLocs [(k,⟨ver, .arr c ex⟩)]) (.ls k ver) u1:=by
 refine ⟨⟨hc.heap.chg hch hn fun b hb ow ho he => ?_,fun i => ?_,hwf⟩,⟨hch.mono fun b _ e=>by rw [e];simp,fun i => ?_,fun id => .keep rfl rfl fun cs0 hid j => ?_⟩,?_,fun _ c' ex' e => ?_⟩
 ·rw [hb] at he;cases he;exact ho
 ·rw [withLocs_loc]
  by_cases e:i=k
  ·subst e
   rw [if_pos rfl]
   show SR g1 w1 (.arr i) c ex ((f.setHd i u1).hd i)
   simp only [Fr.setHd,if_true]
   exact hs
  ·rw [if_neg e]
   refine ((hc.loc i).chg hch fun b hb ow ho he => ?_).fr rfl (by simp [Fr.setHd,e])
   rw [hb] at he
   cases he
   simp only [Own.site,Option.some.injEq] at ho
   exact e ho.symm
 ·by_cases e:i=k
  ·subst e
   left
   rw [withLocs_loc,if_pos rfl]
   exact hv
  ·refine SiteStp.same (by rw [withLocs_loc,if_neg e]) rfl (by simp [Fr.setHd,e]) fun m cs' hb j => ?_
   have hl:=hc.loc i
   unfold LR at hl
   rw [hb] at hl
   have hlt:=hl.lt
   have:=hch.blk _ hlt (by rw [hl.ow];simp)
   simp only [World.cell?,this]
 ·have hb:=hc.heap.obj id cs0 hid
  have:=hch.blk _ hb.lt (by rw [hb.ow];simp)
  simp only [World.cell?,this]
 ·rw [withLocs_loc,if_pos rfl]
  exact Nat.le_refl _
 ·simp [Fr.setHd]
theorem BoxR.drop {B:Nat→Prop} {g':Gh} {w':World} {ow:Own} {co:Nat→Own} {b off:Nat} {cs:List HV} (hs:BoxR g w ow co b cs) (hch:Chg B g w g' w') (hn:∀b,B b→g.ow b≠some ow) (hcc:∀i b,i≠off→B b→g.ow b≠some (co i)) :
  BoxR g' w' ow co b (cs.set off (.a .U)):=by
 have hb:¬B b:=fun x=>hn b x hs.ow
 obtain ⟨arr,t,h1,h2,h3⟩:=hs.row
 refine ⟨(hch.ow b hs.lt hb).trans hs.ow,fun i x=>hs.st i (hch.st b i hs.lt hb x),arr,t,by rw [hch.blk b hs.lt hb];exact h1,by simpa using h2,fun i x hx => ?_⟩
 rw [List.getElem?_set] at hx
 by_cases e:off=i
 ·subst e
  rw [if_pos rfl] at hx
  split at hx
  ·rename_i hlt
   cases hx
   obtain ⟨u,hu,hr⟩:=h3 off _ (List.getElem?_eq_getElem hlt)
   exact ⟨u,hu, .inl ⟨trivial,(HVC.toV hr).2⟩⟩
  ·cases hx
 ·rw [if_neg e] at hx
  obtain ⟨u,hu,hr⟩:=h3 i x hx
  exact ⟨u,hu,HVC.chgO hch hr (hcc i · (fun e'=>e e'.symm))⟩
theorem SR.appendTo {ow ow':Own} {c z:SC} {ex:Bool} {u x:Value} {t tx ty e:TypeId} {i:TypeInfo} {zv:Value} {news:List Value} (h:SR g w ow c ex u) (hwf:∀b i,g.st b i→b<w.heap.size)
  (ht:C.P.underlying t=some (.slice e)) (hi:C.P.info? e=some i) (hz:i.zero=some zv) (hzs:zv.cells.size=i.size) (he:c.elem=e) (hw:c.width=i.size) (hsm:c.same z)
  (hsrc:Src C.P i.size tx x z.len news w) (hnews:SCV g w z news) (hb1:c.len+z.len≤140737488355328) (hb2:(c.len+z.len)*i.bytes≤140737488355328) :
  ∃u' g' w',(Builtin.append_ #[t,tx] ty #[u,x]).run C.P w = .ok u' w'∧Chg (fun b=>g.ow b=some ow) g w g' w'∧SR g' w' ow' (c.app z) false u'∧g'.n=g.n∧(∀b i,g'.st b i→b<w'.heap.size):=by
 obtain ⟨u',g1,w1,h1,h2,h3,h4,h5,h6,h7⟩:=SR.append (ty:=ty) h hwf ht hi hz hzs he hw hsm hsrc hnews hb1 hb2
 obtain ⟨g2,k1,k2,k3,k4,k5,k6⟩:=SR.give (o':=ow') h3
 refine ⟨u',g2,w1,h1,h2.trans k1 fun b hb hB => ?_,k2,k3.trans h4,fun b i hx=>(k5 b i hx).elim (h6 b i) id⟩
 rw [←h7 b hb]
 exact hB
theorem SR.appendEx {ow ow':Own} {c z:SC} {ex ex':Bool} {u x:Value} {t tx ty e:TypeId} {i:TypeInfo} {zv:Value} {news:List Value} (h:SR g w ow c ex u) (hx:ex'=true→ex=true) (hwf:∀b i,g.st b i→b<w.heap.size)
  (ht:C.P.underlying t=some (.slice e)) (hi:C.P.info? e=some i) (hz:i.zero=some zv) (hzs:zv.cells.size=i.size) (he:c.elem=e) (hw:c.width=i.size) (hsm:c.same z)
  (hsrc:Src C.P i.size tx x z.len news w) (hnews:SCV g w z news) (hb1:c.len+z.len≤140737488355328) (hb2:(c.len+z.len)*i.bytes≤140737488355328) :
  ∃u' g' w',(Builtin.append_ #[t,tx] ty #[u,x]).run C.P w = .ok u' w'∧Chg (fun b=>g.ow b=some ow) g w g' w'∧SR g' w' ow' (c.app z) ex' u'∧g'.n=g.n∧(∀b i,g'.st b i→b<w'.heap.size):=by
 cases ex' with
 | false=>exact SR.appendTo h hwf ht hi hz hzs he hw hsm hsrc hnews hb1 hb2
 | true=>
  cases hx rfl
  obtain ⟨u',g1,w1,h1,h2,h3,h4,h5,h6,h7⟩:=SR.append (ty:=ty) h hwf ht hi hz hzs he hw hsm hsrc hnews hb1 hb2
  obtain ⟨g2,k1,k2,k3,k4,k5⟩:=SR.pass (o':=ow') h3
  refine ⟨u',g2,w1,h1,h2.trans k1 fun b hb hB => ?_,k2,k3.trans h4,fun b i hx=>h6 b i (by rw [←k5];exact hx)⟩
  rw [←h7 b hb]
  exact hB
theorem VR_vals {n b:Nat} : ∀(xs:List (List AV)) (ofs:Nat),VR g w n b ofs xs→∃vs:List Value,vs.length=xs.length*n∧(∀j v,vs[j]? = some v→w.cell? ⟨b,ofs+j,none⟩=some v)∧(∀x∈xs,x.length=n)∧VS g w xs.flatten vs
 | [],ofs,_=>⟨[],by simp,fun j v hv=>(by simp at hv),fun x hx=>(by cases hx),by simp [VS]⟩
 | x::xs,ofs,h=>by
  simp only [VR] at h
  obtain ⟨hx,hc,hr⟩:=h
  obtain ⟨v1,a1,a2,a3⟩:=VC_vals x ofs hc
  obtain ⟨v2,b1,b2,b3,b4⟩:=VR_vals xs (ofs+n) hr
  refine ⟨v1++v2,?_,fun j v hv => ?_,fun y hy => ?_,?_⟩
  ·simp only [List.length_append,a1,b1,hx,List.length_cons,Nat.succ_mul];omega
  ·rcases Nat.lt_or_ge j v1.length with hj | hj
   ·rw [List.getElem?_append_left hj] at hv
    exact a2 j v hv
   ·rw [List.getElem?_append_right hj] at hv
    have:=b2 _ _ hv
    rw [a1,hx] at this
    rw [a1,hx] at hj
    rw [show ofs+j=ofs+n+(j-n) by omega]
    exact this
  ·rcases List.mem_cons.1 hy with rfl | hy
   ·exact hx
   ·exact b3 y hy
  ·simp only [List.flatten_cons]
   exact VS_app _ _ _ _ a3 b4
theorem VY_vals {b:Nat} : ∀(xs:List UInt8) (ofs:Nat),VY g w b ofs xs→∀(j:Nat) (v:Value),(xs.map fun x=>Value.int .u8 x.toNat)[j]? = some v→w.cell? ⟨b,ofs+j,none⟩=some v
 | [],_,_,j,v,hv=>by simp at hv
 | x::xs,ofs,h,j,v,hv=>by
  cases j with
  | zero=>
   simp only [List.map_cons,List.getElem?_cons_zero,Option.some.injEq] at hv
   rw [←hv]
   exact h.2.1
  | succ j=>
   have:=VY_vals xs (ofs+1) h.2.2 j v (by simpa using hv)
   rw [show ofs+(j+1)=ofs+1+j by omega]
   exact this
theorem Src.mk' {size:Nat} {tx:TypeId} (hk:(∃e',C.P.underlying tx=some (.slice e'))∨C.P.underlying tx=some .string) {ad:Option Addr} {n c:Nat} {news:List Value} (hl:news.length=n*size)
  (hc:n=0∨∃b o,ad=some ⟨b,o,none⟩∧∀j u,news[j]? = some u→w.cell? ⟨b,o+j,none⟩=some u) (h1:∀u∈news,u.oneCell'=true):Src C.P size tx (.slice ad n c) n news w:=by
 have cells:∀w':World,(∀a:Addr,w'.cell? a=w.cell? a)→(Builtin.firstCells size n (.slice ad n c)).run C.P w' = .ok news.toArray w':=by
  intro w' hw
  rcases hc with rfl | ⟨b,ofs,rfl,hcell⟩
  ·have:news=[]:=List.eq_nil_of_length_eq_zero (by simpa using hl)
   subst this
   cases ad with
   | none=>exact run_firstCells_none _ _ _ _ _
   | some ad=>exact run_firstCells_some _ _ _ _ _ _ _ (by simp) (fun j v hv=>by simp at hv)
  ·exact run_firstCells_some _ _ _ _ _ _ _ hl fun j v hv=>by rw [add_off,hw];exact hcell j v hv
 exact ⟨hk,fun _=>rfl,cells w fun _=>rfl,cells w.drew fun _=>rfl,hl,h1⟩
def fromK (c:SC) (strSrc:Bool) (K':SC→Res) (av:AV):Res:=match c with
 | .e t n _=>mL n av fun xs=>K' (.e t n xs)
 | .y t _=>if strSrc then mS av fun b=>K' (.y t b) else mY av fun b=>K' (.y t b)
theorem srcK_inv (r:Rel C nt g0 w0 g w f s a) (hR:R ≠ .stuck) {c:SC} {y:Operand} {strSrc:Bool} {K':SC→Res} {tx:TypeId} (hk:(∃e',C.P.underlying tx=some (.slice e'))∨C.P.underlying tx=some .string)
  (hs:strSrc=true→C.P.underlying tx=some .string) (h:srcK (stdAlg C.pure G) c (evO C s y) (loO s (evO C s y)) strSrc K'=R) :
  ∃z news,K' z=R∧c.same z∧Src C.P c.width tx (a.eval y) z.len news w∧SCV g w z news:=by
 have fromAV:∀(av:AV) (u:Value),V g w av u→fromK c strSrc K' av=R →
   ∃z news,K' z=R∧c.same z∧Src C.P c.width tx u z.len news w∧SCV g w z news:=by
  clear h
  intro av u hv h
  unfold fromK at h
  cases c with
  | e t n cs=>
   obtain ⟨xs,rfl,h1⟩:=mL_inv h hR
   obtain ⟨ad,len,cap,rfl,rfl,hb,hr⟩:=V_L' hv
   rcases hr with rfl | ⟨b,ofs,rfl,hr⟩
   ·exact ⟨_,[],h1,rfl,Src.mk' hk (by simp) (.inl rfl) (fun u hu=>by cases hu),fun x hx=>(by cases hx),by simp [VS]⟩
   ·obtain ⟨vs,q1,q2,q3,q4⟩:=VR_vals xs ofs hr
    exact ⟨_,vs,h1,rfl,Src.mk' hk q1 (.inr ⟨b,ofs,rfl,q2⟩) (VS_one _ _ q4),q3,q4⟩
  | y t cs=>
   simp only at h
   split at h
   ·rename_i hst
    obtain ⟨b,rfl,h1⟩:=mS_inv h hR
    obtain ⟨rfl,_⟩:=V_S' hv
    have:=Src.ofString (P:=C.P) w (hs hst) ⟨b.toArray⟩
    refine ⟨_,byteCells ⟨b.toArray⟩,h1,trivial,?_,?_⟩
    ·exact this
    ·simp [SCV,byteCells]
   ·obtain ⟨b,rfl,h1⟩:=mY_inv h hR
    obtain ⟨ad,len,cap,rfl,rfl,hb,hr⟩:=V_Y' hv
    have h1c:∀u∈b.map fun x=>Value.int .u8 (x.toNat:Int),u.oneCell'=true:=by
     intro u hu
     obtain ⟨x,_,rfl⟩:=List.mem_map.1 hu
     rfl
    rcases hr with rfl | ⟨bb,ofs,rfl,hr⟩
    ·exact ⟨_,[],h1,trivial,Src.mk' hk (by simp [SC.len]) (.inl rfl) (fun u hu=>by cases hu),rfl⟩
    ·exact ⟨_,_,h1,trivial,Src.mk' hk (by simp [SC.len,SC.width]) (.inr ⟨bb,ofs,rfl,VY_vals b ofs hr⟩) h1c,rfl⟩
 have hy:=r.ev y
 unfold srcK at h
 dsimp only at h
 split at h
 ·rename_i e1
  rw [e1] at hy
  have hy':a.eval y = .slice none 0 0:=hy
  rw [hy']
  cases c with
  | e t n cs=>exact ⟨_,[],h,rfl,Src.mk' hk (by simp [SC.len]) (.inl rfl) (fun u hu=>by cases hu),fun x hx=>(by cases hx),by simp [VS]⟩
  | y t cs=>exact ⟨_,[],h,trivial,Src.mk' hk (by simp [SC.len]) (.inl rfl) (fun u hu=>by cases hu),rfl⟩
 ·rename_i k ver e1
  split at h
  ·rename_i ver' c' ex e2
   split at h
   ·rename_i hver
    subst hver
    rw [e1] at hy e2
    simp only [loO,EV.site] at e2
    have hu:=hy.2 (by rw [e2]) c' ex (by rw [e2])
    have hlr:=r.core.loc k
    unfold LR at hlr
    rw [e2] at hlr
    obtain ⟨vals,q1,q2,q3,q4⟩:=SR_iff.1 hlr
    rw [hu]
    have key:c.same c'→K' (match c,c' with | .e t _ _, .e _ n xs => .e t n xs | .y t _, .y _ sb => .y t sb | c,_=>c)=R→∃z news,K' z=R∧c.same z∧Src C.P c.width tx (f.hd k) z.len news w∧SCV g w z news:=by
     intro hsm hk'
     have hw:c.width=c'.width:=by
      cases c<;>cases c'<;>simp_all [SC.same,SC.width]
     have hsrc:Src C.P c.width tx (f.hd k) c'.len vals w:=by
      rw [hw]
      rcases q1.2 with ⟨hn,h0⟩ | ⟨b,cap,cur,hn,_,_⟩
      ·rw [hn,h0]
       have:vals=[]:=List.eq_nil_of_length_eq_zero (by rw [q1.1,h0,Nat.zero_mul])
       subst this
       exact Src.mk' hk (by simp) (.inl rfl) (fun u hu=>by cases hu)
      ·rw [hn]
       refine Src.mk' hk q1.1 (.inr ⟨b,0,rfl,fun j u hj => ?_⟩) (SCV.one q3)
       have:=q1.cells (g:=b) (by rw [hn];rfl) j u hj
       rw [Addr.add_zero_off] at this
       simpa using this
     refine ⟨_,vals,hk',?_,?_,?_⟩
     ·cases c<;>cases c'<;>simp_all [SC.same]
     ·cases c<;>cases c'<;>first | exact hsrc | exact hsm.elim
     ·cases c<;>cases c'<;>first | exact q3 | exact hsm.elim
    cases c with
    | e t n cs=>
     obtain ⟨xs,hx,h1⟩:=mL_inv h hR
     cases c' with
     | e t' m ys=>simp only [SC.toAV,AV.L.injEq] at hx;obtain ⟨rfl,rfl⟩:=hx;exact key rfl h1
     | y t' sb=>simp [SC.toAV] at hx
    | y t cs=>
     simp only at h
     split at h
     ·obtain ⟨b,hx,h1⟩:=mS_inv h hR
      cases c'<;>simp [SC.toAV] at hx
     ·obtain ⟨b,hx,h1⟩:=mY_inv h hR
      cases c' with
      | e t' m ys=>simp [SC.toAV] at hx
      | y t' sb=>simp only [SC.toAV,AV.Y.injEq] at hx;subst hx;exact key trivial h1
   ·exact absurd h.symm hR
  ·exact absurd h.symm hR
 ·rename_i av e1
  rw [e1] at hy
  exact fromAV av _ hy h
 ·rename_i e1
  rw [e1] at hy
  exact fromAV _ _ hy.1 h
 ·rename_i e1
  rw [e1] at hy
  exact fromAV _ _ hy.1 h
 ·exact absurd h.symm hR
end
end Go.Vm
namespace Go.Vm
open Go
section
variable {C:Cx} {N:Ann} {nt:NT} {g0 g:Gh} {w0 w:World} {f:Fr} {s:St} {a:Act} {o:Oper}
variable {K:Upd→Res} {R:Res} {G:FuncId→List AV→List HO→Res}
theorem withLocs_pair (s:St) (d k:Nat) (x y:LOv) (i:Nat):(s.withLocs [(d,x),(k,y)]).loc i=if i=d then x else if i=k then y else s.loc i:=by
 rw [withLocs_cons,withLocs_loc,withLocs_loc]
theorem Core.boxToArr (hc:Core g w f s) {d k dver ver md off:Nat} {cs:List HV} (hv:(s.loc d).ver<dver) (hdk:k≠d) (hl:s.loc k=⟨ver, .box md cs⟩) {c':SC} {u1:Value} {g1:Gh} {w1:World}
  (hch:Chg (fun b=>g.ow b=some (.bcell k off)) g w g1 w1) (hn:g1.n=g.n) (hwf:∀b i,g1.st b i→b<w1.heap.size) {ex:Bool} (hs:SR g1 w1 (.arr d) c' ex u1) :
  Core g1 w1 (f.setHd d u1) (s.withLocs [(d,⟨dver, .arr c' ex⟩),(k,⟨ver, .box (md+1) (cs.set off (.a .U))⟩)]) ∧
  Stp g w f s g1 w1 (f.setHd d u1) (s.withLocs [(d,⟨dver, .arr c' ex⟩),(k,⟨ver, .box (md+1) (cs.set off (.a .U))⟩)]) ∧
  VE g1 w1 (f.setHd d u1) (s.withLocs [(d,⟨dver, .arr c' ex⟩),(k,⟨ver, .box (md+1) (cs.set off (.a .U))⟩)]) (.ls d dver) u1:=by
 have hk:=hc.loc k
 unfold LR at hk
 rw [hl] at hk
 refine ⟨⟨hc.heap.chg hch hn fun b hb ow ho he => ?_,fun i => ?_,hwf⟩,⟨hch.mono fun b _ e=>by rw [e];simp,fun i => ?_,fun id => .keep rfl rfl fun cs0 hid j => ?_⟩,?_,fun _ c' ex' e => ?_⟩
 ·rw [hb] at he;cases he;exact ho
 ·rw [withLocs_pair]
  by_cases e:i=d
  ·subst e
   rw [if_pos rfl]
   show SR g1 w1 (.arr i) c' ex ((f.setHd i u1).hd i)
   simp only [Fr.setHd,if_true]
   exact hs
  ·rw [if_neg e]
   by_cases e2:i=k
   ·subst e2
    rw [if_pos rfl]
    refine LR.fr (be:=f.be) (hd:=f.hd) ?_ rfl (by simp [Fr.setHd,e])
    exact BoxR.drop hk hch (fun b hb=>by rw [hb];simp) (fun j b hj hb=>by rw [hb];simp;exact fun e=>hj e.symm)
   ·rw [if_neg e2]
    refine ((hc.loc i).chg hch fun b hb ow ho he => ?_).fr rfl (by simp [Fr.setHd,e])
    rw [hb] at he
    cases he
    simp only [Own.site,Option.some.injEq] at ho
    exact e2 ho.symm
 ·by_cases e:i=d
  ·subst e
   left
   rw [withLocs_pair,if_pos rfl]
   exact hv
  ·have blk:∀m cs',(s.loc i).lo = .box m cs'→∀j,w1.cell? ⟨f.be i,j,none⟩=w.cell? ⟨f.be i,j,none⟩:=by
    intro m cs' hb j
    have hli:=hc.loc i
    unfold LR at hli
    rw [hb] at hli
    have:=hch.blk _ hli.lt (by rw [hli.ow];simp)
    simp only [World.cell?,this]
   by_cases e2:i=k
   ·subst e2
    right
    rw [withLocs_pair,if_neg e,if_pos rfl,hl]
    refine ⟨rfl,rfl,by simp [Fr.setHd,e],fun m' cs' e => ?_,fun c' ex' e=>by cases e⟩
    cases e
    exact ⟨md,cs,rfl,by omega,fun e=>by omega⟩
   ·exact SiteStp.same (by rw [withLocs_pair,if_neg e,if_neg e2]) rfl (by simp [Fr.setHd,e]) blk
 ·have hb:=hc.heap.obj id cs0 hid
  have:=hch.blk _ hb.lt (by rw [hb.ow];simp)
  simp only [World.cell?,this]
 ·rw [withLocs_pair,if_pos rfl]
  exact Nat.le_refl _
 ·simp [Fr.setHd]
theorem Core.objToArr (hc:Core g w f s) {d dver id off:Nat} {cs:List HV} (hv:(s.loc d).ver<dver) (hl:s.h[id]? = some (.cells cs)) {c':SC} {u1:Value} {g1:Gh} {w1:World}
  (hch:Chg (fun b=>g.ow b=some (.cell id off)) g w g1 w1) (hn:g1.n=g.n) (hwf:∀b i,g1.st b i→b<w1.heap.size) {ex:Bool} (hs:SR g1 w1 (.arr d) c' ex u1) {s':St}
  (hs':s'=(s.withLocs [(d,⟨dver, .arr c' ex⟩)]).setO id (.cells (cs.set off (.a .U)))) :
  Core g1 w1 (f.setHd d u1) s'∧Stp g w f s g1 w1 (f.setHd d u1) s'∧VE g1 w1 (f.setHd d u1) s' (.ls d dver) u1:=by
 subst hs'
 have hlt:id<s.h.length:=(List.getElem?_eq_some_iff.1 hl).1
 have hidn:id<g.n:=by rw [←hc.heap.len];exact hlt
 refine ⟨⟨⟨by rw [hn,←hc.heap.len];simp [St.setO,St.withLocs],fun j hj => ?_,fun j cs' hj => ?_,fun j es' hj => ?_,fun j t' n' xs' hj => ?_⟩,fun i => ?_,hwf⟩,⟨hch.mono fun b _ e=>by rw [e];simp,fun i => ?_,fun j => ?_⟩,?_,fun _ c' ex' e => ?_⟩
 ·rw [hn] at hj
  rw [hch.later.io j hj]
  exact Nat.lt_of_lt_of_le (hc.heap.lt j hj) hch.size
 ·rw [setO_h,show (s.withLocs [(d,⟨dver, .arr c' ex⟩)]).h=s.h from rfl,List.getElem?_set] at hj
  by_cases e:id=j
  ·subst e
   rw [if_pos rfl,if_pos hlt] at hj
   cases hj
   rw [hch.later.io id hidn]
   exact BoxR.drop (hc.heap.obj id cs hl) hch (fun b hb=>by rw [hb];simp) (fun j b hj hb=>by rw [hb];simp;exact fun e=>hj e.symm)
  ·rw [if_neg e] at hj
   have hjn:j<g.n:=by rw [←hc.heap.len];exact (List.getElem?_eq_some_iff.1 hj).1
   rw [hch.later.io j hjn]
   exact (hc.heap.obj j cs' hj).chgO hch (fun b hb=>by rw [hb];simp) (fun i b hb=>by rw [hb];simp;exact fun e'=>absurd e' e)
 ·rw [setO_h,show (s.withLocs [(d,⟨dver, .arr c' ex⟩)]).h=s.h from rfl,List.getElem?_set] at hj
  by_cases e:id=j
  ·subst e
   rw [if_pos rfl,if_pos hlt] at hj
   cases hj
  ·rw [if_neg e] at hj
   have hjn:j<g.n:=by rw [←hc.heap.len];exact (List.getElem?_eq_some_iff.1 hj).1
   rw [hch.later.io j hjn]
   exact (hc.heap.map j es' hj).chgO hch (fun b hb=>by rw [hb];simp)
 ·rw [setO_h,show (s.withLocs [(d,⟨dver, .arr c' ex⟩)]).h=s.h from rfl,List.getElem?_set] at hj
  by_cases e:id=j
  ·subst e
   rw [if_pos rfl,if_pos hlt] at hj
   cases hj
  ·rw [if_neg e] at hj
   have hjn:j<g.n:=by rw [←hc.heap.len];exact (List.getElem?_eq_some_iff.1 hj).1
   rw [hch.later.io j hjn,hch.later.hdr j hjn]
   exact (hc.heap.arr j t' n' xs' hj).chgO hch (fun b hb=>by rw [hb];simp)
 ·show LR g1 w1 _ _ i ((s.withLocs [(d,_)]).loc i)
  rw [withLocs_loc]
  by_cases e:i=d
  ·subst e
   rw [if_pos rfl]
   show SR g1 w1 (.arr i) c' ex ((f.setHd i u1).hd i)
   simp only [Fr.setHd,if_true]
   exact hs
  ·rw [if_neg e]
   refine ((hc.loc i).chg hch fun b hb ow ho he => ?_).fr rfl (by simp [Fr.setHd,e])
   rw [hb] at he
   cases he
   cases ho
 ·by_cases e:i=d
  ·subst e
   left
   show _<((s.withLocs [(i,_)]).loc i).ver
   rw [withLocs_loc,if_pos rfl]
   exact hv
  ·refine SiteStp.same (by show (s.withLocs [(d,_)]).loc i=_;rw [withLocs_loc,if_neg e]) rfl (by simp [Fr.setHd,e]) fun m cs' hb j => ?_
   have hli:=hc.loc i
   unfold LR at hli
   rw [hb] at hli
   have:=hch.blk _ hli.lt (by rw [hli.ow];simp)
   simp only [World.cell?,this]
 ·by_cases e:id=j
  ·subst e
   exact .inl (by rw [setO_hv_eq];exact Nat.lt_succ_self _)
  ·refine .inr ⟨setO_hv_ne e,fun cs' hj=>⟨by rw [setO_h,show (s.withLocs [(d,⟨dver, .arr c' ex⟩)]).h=s.h from rfl,List.getElem?_set,if_neg e];exact hj,fun i => ?_⟩⟩
   have hb:=hc.heap.obj j cs' hj
   have:=hch.blk _ hb.lt (by rw [hb.ow];simp)
   simp only [World.cell?,this]
 ·show _≤((s.withLocs [(d,_)]).loc d).ver
  rw [withLocs_loc,if_pos rfl]
  exact Nat.le_refl _
 ·simp [Fr.setHd]
theorem Core.wToArr (hc:Core g w f s) {d dver id:Nat} {tt:TypeId} {nn:Nat} {xs:List (List AV)} (hv:(s.loc d).ver<dver) (hl:s.h[id]? = some (.arr tt nn xs)) {c':SC} {u1:Value} {g1:Gh} {w1:World}
  (hch:Chg (fun b=>g.ow b=some (.obj id)) g w g1 w1) (hn:g1.n=g.n) (hwf:∀b i,g1.st b i→b<w1.heap.size) {ex:Bool} (hs:SR g1 w1 (.arr d) c' ex u1) {s':St}
  (hs':s'=(s.withLocs [(d,⟨dver, .arr c' ex⟩)]).setO id .no) :
  Core g1 w1 (f.setHd d u1) s'∧Stp g w f s g1 w1 (f.setHd d u1) s'∧VE g1 w1 (f.setHd d u1) s' (.ls d dver) u1:=by
 subst hs'
 have hlt:id<s.h.length:=(List.getElem?_eq_some_iff.1 hl).1
 have hidn:id<g.n:=by rw [←hc.heap.len];exact hlt
 refine ⟨⟨⟨by rw [hn,←hc.heap.len];simp [St.setO,St.withLocs],fun j hj => ?_,fun j cs' hj => ?_,fun j es' hj => ?_,fun j t' n' xs' hj => ?_⟩,fun i => ?_,hwf⟩,⟨hch.mono fun b _ e=>by rw [e];simp,fun i => ?_,fun j => ?_⟩,?_,fun _ c' ex' e => ?_⟩
 ·rw [hn] at hj
  rw [hch.later.io j hj]
  exact Nat.lt_of_lt_of_le (hc.heap.lt j hj) hch.size
 ·rw [setO_h,show (s.withLocs [(d,⟨dver, .arr c' ex⟩)]).h=s.h from rfl,List.getElem?_set] at hj
  by_cases e:id=j
  ·subst e
   rw [if_pos rfl,if_pos hlt] at hj
   cases hj
  ·rw [if_neg e] at hj
   have hjn:j<g.n:=by rw [←hc.heap.len];exact (List.getElem?_eq_some_iff.1 hj).1
   rw [hch.later.io j hjn]
   exact (hc.heap.obj j cs' hj).chgO hch (fun b hb=>by rw [hb];simp;exact e) (fun i b hb=>by rw [hb];simp)
 ·rw [setO_h,show (s.withLocs [(d,⟨dver, .arr c' ex⟩)]).h=s.h from rfl,List.getElem?_set] at hj
  by_cases e:id=j
  ·subst e
   rw [if_pos rfl,if_pos hlt] at hj
   cases hj
  ·rw [if_neg e] at hj
   have hjn:j<g.n:=by rw [←hc.heap.len];exact (List.getElem?_eq_some_iff.1 hj).1
   rw [hch.later.io j hjn]
   exact (hc.heap.map j es' hj).chgO hch (fun b hb=>by rw [hb];simp;exact e)
 ·rw [setO_h,show (s.withLocs [(d,⟨dver, .arr c' ex⟩)]).h=s.h from rfl,List.getElem?_set] at hj
  by_cases e:id=j
  ·subst e
   rw [if_pos rfl,if_pos hlt] at hj
   cases hj
  ·rw [if_neg e] at hj
   have hjn:j<g.n:=by rw [←hc.heap.len];exact (List.getElem?_eq_some_iff.1 hj).1
   rw [hch.later.io j hjn,hch.later.hdr j hjn]
   exact (hc.heap.arr j t' n' xs' hj).chgO hch (fun b hb=>by rw [hb];simp;exact e)
 ·show LR g1 w1 _ _ i ((s.withLocs [(d,_)]).loc i)
  rw [withLocs_loc]
  by_cases e:i=d
  ·subst e
   rw [if_pos rfl]
   show SR g1 w1 (.arr i) c' ex ((f.setHd i u1).hd i)
   simp only [Fr.setHd,if_true]
   exact hs
  ·rw [if_neg e]
   refine ((hc.loc i).chg hch fun b hb ow ho he => ?_).fr rfl (by simp [Fr.setHd,e])
   rw [hb] at he
   cases he
   cases ho
 ·by_cases e:i=d
  ·subst e
   left
   show _<((s.withLocs [(i,_)]).loc i).ver
   rw [withLocs_loc,if_pos rfl]
   exact hv
  ·refine SiteStp.same (by show (s.withLocs [(d,_)]).loc i=_;rw [withLocs_loc,if_neg e]) rfl (by simp [Fr.setHd,e]) fun m cs' hb j => ?_
   have hli:=hc.loc i
   unfold LR at hli
   rw [hb] at hli
   have:=hch.blk _ hli.lt (by rw [hli.ow];simp)
   simp only [World.cell?,this]
 ·by_cases e:id=j
  ·subst e
   exact .inl (by rw [setO_hv_eq];exact Nat.lt_succ_self _)
  ·refine .inr ⟨setO_hv_ne e,fun cs' hj=>⟨by rw [setO_h,show (s.withLocs [(d,⟨dver, .arr c' ex⟩)]).h=s.h from rfl,List.getElem?_set,if_neg e];exact hj,fun i => ?_⟩⟩
   have hb:=hc.heap.obj j cs' hj
   have:=hch.blk _ hb.lt (by rw [hb.ow];simp;exact fun e'=>e e'.symm)
   simp only [World.cell?,this]
 ·show _≤((s.withLocs [(d,_)]).loc d).ver
  rw [withLocs_loc,if_pos rfl]
  exact Nat.le_refl _
 ·simp [Fr.setHd]
theorem OpS.append (hC:OkC C) (r:Rel C nt g0 w0 g w f s a) (hd:∀x,o.dst=some x→nt.ok x) (hR:R ≠ .stuck) {c:Call} (ho:o.op = .call c) (hc:c.callee = .builtin .append)
  (h:opH C N G o s K R):OpS C nt g0 w0 s a w o K R:=by
 simp only [opH,opF,ho,hc,Op.operands,Call.operands,Array.empty_append] at h
 split at h
 ·rename_i x y t tx hargs htys
  simp only [hargs,List.map_cons,List.map_nil,List.getD_cons_zero,List.getD_cons_succ] at h
  have hrun:∀u' w',(Builtin.append_ #[t,tx] o.type #[a.eval x,a.eval y]).run C.P w = .ok u' w'→(execOp a.eval o).run C.P w = .ok (.value u') w':=by
   intro u' w' hr
   have e1:c.argTypes = #[t,tx]:=by apply Array.toList_inj.1;rw [htys]
   have e2:c.args.map a.eval = #[a.eval x,a.eval y]:=by apply Array.toList_inj.1;rw [Array.toList_map,hargs];rfl
   rw [run_builtin ho hc,e1,e2]
   simp only [Go.builtin,Sem.run_bind,hr,Result.andThen_ok,Sem.run_pure]
  have body:∀(st:Bool),((∃e',C.P.underlying tx=some (.slice e'))∨C.P.underlying tx=some .string)→(st=true→C.P.underlying tx=some .string) →
    appendK (stdAlg C.pure G) C (o.dst.getD 0) (s.loc (o.dst.getD 0)) t st (N.mutA (o.dst.getD 0)) (evO C s x) (evO C s y) (loO s (evO C s x)) (loO s (evO C s y)) s.h s.hv K=R→OpS C nt g0 w0 s a w o K R:=by
   intro st hk hst h
   unfold appendK at h
   split at h
   ·rename_i e hu
    have hut:=und_some hu (by simp)
    dsimp only at h
    have fin:∀(cc:SC) (ex:Bool) (ow:Own) (u:Value) (K':SC→Res),SR g w ow cc ex u →
      (if cc.elem=e∧cc.width=szT C.P e∧zeroOK C.P e=true∧szT C.P e≠0 then
       srcK (stdAlg C.pure G) cc (evO C s y) (loO s (evO C s y)) st fun z=>(stdAlg C.pure G).chk (decide (cc.len+z.len≤C.bound∧(cc.len+z.len)*byT C.P e≤C.bound)) (K' (cc.app z)) else (stdAlg C.pure G).stuck)=R →
      ∃(z:SC) (news:List Value) (i:TypeInfo) (zv:Value),K' (cc.app z)=R∧C.P.info? e=some i∧i.zero=some zv∧zv.cells.size=i.size∧cc.elem=e∧cc.width=i.size∧cc.same z∧Src C.P i.size tx (a.eval y) z.len news w∧SCV g w z news ∧
       cc.len+z.len≤140737488355328∧(cc.len+z.len)*i.bytes≤140737488355328:=by
     intro cc ex ow u K' hsr h
     split at h
     ·rename_i hcc
      obtain ⟨b1,b2,b3,b4⟩:=hcc
      obtain ⟨z,news,h1,h2,h3,h4⟩:=srcK_inv r hR hk hst h
      obtain ⟨hb,h5⟩:=chk_inv' h1 hR
      have hb:cc.len+z.len≤C.bound∧(cc.len+z.len)*byT C.P e≤C.bound:=by simpa using hb
      obtain ⟨i,zv,hi,hz,hl,hl2,_⟩:=zeroOK_inv (g:=g) (w:=w) b3
      have hsz:szT C.P e=i.size:=szT_of hi
      have hby:byT C.P e=i.bytes:=byT_of hi
      have:=hC.bound
      rw [hby] at hb
      rw [hsz] at b2
      rw [b2] at h3
      exact ⟨z,news,i,zv,h5,hi,hz,by omega,b1,b2,h2,h3,h4,by omega,by omega⟩
     ·exact absurd h.symm hR
    have newS:∀(k ver:Nat) (cc:SC) (ex:Bool) (u:Value),(s.loc k).ver<ver→a.eval x=u→SR g w (.arr k) cc ex u→∀(z:SC) (news:List Value) (i:TypeInfo) (zv:Value),K { dst:=some (.ls k ver),locs:=[(k,⟨ver, .arr (cc.app z) ex⟩)] } = R →
      C.P.info? e=some i→i.zero=some zv→zv.cells.size=i.size→cc.elem=e→cc.width=i.size→cc.same z→Src C.P i.size tx (a.eval y) z.len news w→SCV g w z news →
       cc.len+z.len≤140737488355328→(cc.len+z.len)*i.bytes≤140737488355328→OpS C nt g0 w0 s a w o K R:=by
     intro k ver cc ex u hver hx hsr z news i zv hk' hi hz hzs he hw hsm hsrc hnews hb1 hb2
     obtain ⟨u',g1,w1,k1,k2,k3,k4,k5,k6,k7⟩:=SR.append (ty:=o.type) hsr r.core.wf hut hi hz hzs he hw hsm hsrc hnews hb1 hb2
     obtain ⟨d1,d2,d3⟩:=r.core.newSlice k ver hver k2 k4 k6 k3
     exact .to r hd hk' (hrun _ _ (by rw [hx];exact k1)) rfl d1 d2 d3
    have hx:=r.ev x
    split at h
    ·rename_i e1
     rw [e1] at hx
     have hx':a.eval x = .slice none 0 0:=hx
     have hsr:szT C.P e≠0→SR g w (.arr (o.dst.getD 0)) (emptySC C.P e) true (.slice none 0 0):=fun hz=>by
      have:=emptySC_ok (P:=C.P) (e:=e) (by simp;exact .inr (by simpa using Nat.pos_of_ne_zero hz))
      exact SR_empty _ _ this.1 this.2
     have hz:szT C.P e≠0:=by
      intro h0
      rw [if_neg (by simp [h0])] at h
      exact hR h.symm
     obtain ⟨z,news,i,zv,q0,q1,q2,q3,q4,q5,q6,q7,q8,q9,q10⟩:=fin _ true (.arr (o.dst.getD 0)) _ (fun c'=>K { dst:=some (.ls (o.dst.getD 0) ((s.loc (o.dst.getD 0)).ver+1)),locs:=[(o.dst.getD 0,⟨(s.loc (o.dst.getD 0)).ver+1, .arr c' true⟩)] }) (hsr hz) h
     exact newS _ _ _ _ _ (Nat.lt_succ_self _) hx' (hsr hz) z news i zv q0 q1 q2 q3 q4 q5 q6 q7 q8 q9 q10
    ·rename_i k ver e1
     split at h
     ·rename_i ver' cc ex e2
      split at h
      ·rename_i hver
       subst hver
       rw [e1] at hx e2
       simp only [loO,EV.site] at e2
       have hu:=hx.2 (by rw [e2]) cc ex (by rw [e2])
       have hlr:=r.core.loc k
       unfold LR at hlr
       rw [e2] at hlr
       obtain ⟨z,news,i,zv,q0,q1,q2,q3,q4,q5,q6,q7,q8,q9,q10⟩:=fin _ _ _ _ (fun c'=>K { dst:=some (.ls k (ver+1)),locs:=[(k,⟨ver+1, .arr c' ex⟩)] }) hlr h
       exact newS _ _ _ _ _ (by rw [e2];exact Nat.lt_succ_self _) hu hlr z news i zv q0 q1 q2 q3 q4 q5 q6 q7 q8 q9 q10
      ·exact absurd h.symm hR
     ·exact absurd h.symm hR
    ·rename_i k ver md off cc e1
     split at h
     ·rename_i ver' md' cs e2
      split at h
      ·rename_i hver
       obtain ⟨rfl,rfl,hkd⟩:=hver
       rw [e1] at hx e2
       simp only [loO,EV.site] at e2
       obtain ⟨_,_,hx2⟩:=hx
       obtain ⟨_,hx3⟩:=hx2 (by rw [e2]) md cs (by rw [e2])
       obtain ⟨hcs,hcell⟩:=hx3 rfl
       have hlr:=r.core.loc k
       unfold LR at hlr
       rw [e2] at hlr
       have hsr:SR g w (.bcell k off) cc false (a.eval x):=by
        obtain ⟨arr,tt,b1,b2,b3⟩:=hlr.row
        obtain ⟨uu,b4,b5⟩:=b3 off _ hcs
        have:uu=a.eval x:=by
         simp only [World.cell?,b1] at hcell
         simp only [Option.isSome_none,Bool.false_eq_true,if_false] at hcell
         rw [b4] at hcell
         exact Option.some.inj hcell
        rw [←this]
        exact b5.elim (fun h=>h) fun h=>by cases h.1
       obtain ⟨z,news,i,zv,q0,q1,q2,q3,q4,q5,q6,q7,q8,q9,q10⟩:=fin _ _ _ _ (fun c'=>K { dst:=some (.ls (o.dst.getD 0) ((s.loc (o.dst.getD 0)).ver+1)),locs:=[(o.dst.getD 0,⟨(s.loc (o.dst.getD 0)).ver+1, .arr c' (N.mutA (o.dst.getD 0)&&Nat.beq cc.len 0)⟩),(k,⟨ver, .box (md+1) (cs.set off (.a .U))⟩)] }) hsr h
       obtain ⟨u',g1,w1,k1,k2,k3,k4,k5⟩:=SR.appendEx (ow' := .arr (o.dst.getD 0)) (ty:=o.type) (ex':=N.mutA (o.dst.getD 0)&&Nat.beq cc.len 0) (ex:=Nat.beq cc.len 0) (by
        cases hz:Nat.beq cc.len 0 with
        | false=>exact hsr
        | true=>exact hsr.open (Nat.eq_of_beq_eq_true hz)) (fun h=>(Bool.and_eq_true _ _▸h).2) r.core.wf hut q1 q2 q3 q4 q5 q6 q7 q8 q9 q10
       obtain ⟨d1,d2,d3⟩:=r.core.boxToArr (d:=o.dst.getD 0) (Nat.lt_succ_self _) hkd e2 k2 k4 k5 k3
       exact .to r hd q0 (hrun _ _ k1) rfl d1 d2 d3
      ·exact absurd h.symm hR
     ·exact absurd h.symm hR
    ·rename_i id off hv' xh e1
     split at h
     ·rename_i hver
      subst hver
      rw [e1] at hx
      obtain ⟨_,_,hx2⟩:=hx
      obtain ⟨cs,hcs,hcx,hcell⟩:=hx2 rfl
      have go:∀cc:SC,xh = .g cc→(if cc.elem=e∧cc.width=szT C.P e∧zeroOK C.P e=true∧szT C.P e≠0 then
        srcK (stdAlg C.pure G) cc (evO C s y) (loO s (evO C s y)) st fun z=>(stdAlg C.pure G).chk (decide (cc.len+z.len≤C.bound∧(cc.len+z.len)*byT C.P e≤C.bound))
         ((fun c'=>(stdAlg C.pure G).mO s.h id fun cs=>K { dst:=some (.ls (o.dst.getD 0) ((s.loc (o.dst.getD 0)).ver+1)),locs:=[(o.dst.getD 0,⟨(s.loc (o.dst.getD 0)).ver+1, .arr c' (N.mutA (o.dst.getD 0)&&Nat.beq cc.len 0)⟩)],dl:=[(id, .cells (cs.set off (.a .U)))] }) (cc.app z)) else (stdAlg C.pure G).stuck)=R→OpS C nt g0 w0 s a w o K R:=by
       intro cc hxc h9
       subst hxc
       have hb:=r.core.heap.obj id cs hcs
       have hsr:SR g w (.cell id off) cc false (a.eval x):=by
        obtain ⟨arr,tt,b1,b2,b3⟩:=hb.row
        obtain ⟨uu,b4,b5⟩:=b3 off _ hcx
        have:uu=a.eval x:=by
         simp only [World.cell?,b1] at hcell
         simp only [Option.isSome_none,Bool.false_eq_true,if_false] at hcell
         rw [b4] at hcell
         exact Option.some.inj hcell
        rw [←this]
        exact b5.elim (fun h=>h) fun h=>by cases h.1
       obtain ⟨z,news,i,zv,q0,q1,q2,q3,q4,q5,q6,q7,q8,q9,q10⟩:=fin _ _ _ _ (fun c'=>(stdAlg C.pure G).mO s.h id fun cs=>K { dst:=some (.ls (o.dst.getD 0) ((s.loc (o.dst.getD 0)).ver+1)),locs:=[(o.dst.getD 0,⟨(s.loc (o.dst.getD 0)).ver+1, .arr c' (N.mutA (o.dst.getD 0)&&Nat.beq cc.len 0)⟩)],dl:=[(id, .cells (cs.set off (.a .U)))] }) hsr h9
       obtain ⟨cs2,hcs2,q0⟩:=mO_inv q0 hR
       rw [hcs] at hcs2
       cases hcs2
       obtain ⟨u',g1,w1,k1,k2,k3,k4,k5⟩:=SR.appendEx (ow' := .arr (o.dst.getD 0)) (ty:=o.type) (ex':=N.mutA (o.dst.getD 0)&&Nat.beq cc.len 0) (ex:=Nat.beq cc.len 0) (by
        cases hz:Nat.beq cc.len 0 with
        | false=>exact hsr
        | true=>exact hsr.open (Nat.eq_of_beq_eq_true hz)) (fun h=>(Bool.and_eq_true _ _▸h).2) r.core.wf hut q1 q2 q3 q4 q5 q6 q7 q8 q9 q10
       obtain ⟨d1,d2,d3⟩:=r.core.objToArr (d:=o.dst.getD 0) (Nat.lt_succ_self _) hcs k2 k4 k5 k3 (on_dl _ _ _ _)
       exact .to r hd q0 (hrun _ _ k1) rfl d1 d2 d3
      split at h
      ·obtain ⟨sb,hx',h1⟩:=mGy_inv h hR
       exact go _ hx' h1
      ·obtain ⟨xs,hx',h1⟩:=mGe_inv h hR
       exact go _ hx' h1
     ·exact absurd h.symm hR
    ·rename_i av e1
     rcases mW_inv h with ⟨id,rfl,h9⟩ | ⟨_,h9⟩
     ·split at h9
      ·rename_i t' n' xs e2
       have hv:=r.evv e1
       simp only [V] at hv
       have hcs:=arrAt_some e2
       have har:=r.core.heap.arr id _ _ _ hcs
       have hsr:SR g w (.obj id) (.e t' n' xs) true (a.eval x):=by rw [hv.2.1];exact har.sr
       obtain ⟨z,news,i,zv,q0,q1,q2,q3,q4,q5,q6,q7,q8,q9,q10⟩:=fin _ _ _ _ (fun c'=>K { dst:=some (.ls (o.dst.getD 0) ((s.loc (o.dst.getD 0)).ver+1)),locs:=[(o.dst.getD 0,⟨(s.loc (o.dst.getD 0)).ver+1, .arr c' true⟩)],dl:=[(id, .no)] }) hsr h9
       obtain ⟨u',g1,w1,k1,k2,k3,k4,k5⟩:=SR.appendEx (ow' := .arr (o.dst.getD 0)) (ty:=o.type) (ex':=true) hsr (fun h=>h) r.core.wf hut q1 q2 q3 q4 q5 q6 q7 q8 q9 q10
       obtain ⟨d1,d2,d3⟩:=r.core.wToArr (d:=o.dst.getD 0) (Nat.lt_succ_self _) hcs k2 k4 k5 k3 (on_dl _ _ _ _)
       exact .to r hd q0 (hrun _ _ k1) rfl d1 d2 d3
      ·exact absurd h9.symm hR
     ·exact absurd h9.symm hR
    ·exact absurd h.symm hR
   ·exact absurd h.symm hR
  split at h
  ·rename_i hu
   exact body true (.inr (und_some hu (by simp))) (fun _=>und_some hu (by simp)) h
  ·rename_i e hu
   exact body false (.inl ⟨e,und_some hu (by simp)⟩) (fun h=>by cases h) h
  ·exact absurd h.symm hR
 ·exact absurd h.symm hR
end
end Go.Vm
namespace Go.Vm
open Go
section
variable {C:Cx} {N:Ann} {nt:NT} {g0 g:Gh} {w0 w:World} {f:Fr} {s:St} {a:Act} {o:Oper}
variable {K:Upd→Res} {R:Res} {G:FuncId→List AV→List HO→Res}
theorem OpS.convert (hC:OkC C) (r:Rel C nt g0 w0 g w f s a) (hd:∀x,o.dst=some x→nt.ok x) (hR:R ≠ .stuck) {t d:TypeId} {x:Operand} (ho:o.op = .convert t d x)
  (h:opH C N G o s K R):OpS C nt g0 w0 s a w o K R:=by
 simp only [opH,opF,ho,Op.operands,List.map_cons,List.map_nil,List.getD_cons_zero,List.getD_cons_succ] at h
 split at h
 ·rename_i k1 k2 hu1 hu2
  obtain ⟨k,n,hx,_,_,h1⟩:=num_inv (r.ev x) h hR
  refine .val r hd h1 (u := .int k2 (k2.wrap n)) ?_ (V_I g w (wrap_within _ _))
  simp [execOp,ho,Go.convert,run_underlying (und_some hu1 (by simp)),run_underlying (und_some hu2 (by simp)),hx,Conv.intToInt]
 ·rename_i k1 hu1 hu2
  obtain ⟨k,n,hx,_,_,h1⟩:=num_inv (r.ev x) h hR
  obtain ⟨hb,h1⟩:=chk_inv' h1 hR
  obtain ⟨hb0,hb1⟩:=of_decide_eq_true hb
  refine .val r hd h1 (u := .string ⟨[UInt8.ofNat n.toNat].toArray⟩) ?_ (V_S g w (by simp))
  have e:Utf8.encode n=⟨[UInt8.ofNat n.toNat].toArray⟩:=by
   unfold Utf8.encode Utf8.valid
   have h1:((decide (0≤n)&&decide (n<55296))||(decide (57344≤n)&&decide (n≤1114111)))=true:=by simp;omega
   simp only [h1,if_true]
   rw [if_pos (by omega)]
  simp [execOp,ho,Go.convert,run_underlying (und_some hu1 (by simp)),run_underlying (und_some hu2 (by simp)),hx,Conv.intToString,e]
 ·rename_i hu1 hu2
  split at h
  ·rename_i av e1
   obtain ⟨m,rfl,h2⟩:=mS_inv h hR
   have hx:=r.evv e1
   have hx':=(V_S' hx).1
   refine .val r hd h2 (u:=a.eval x) ?_ hx
   simp [execOp,ho,Go.convert,run_underlying (und_some hu1 (by simp)),run_underlying (und_some hu2 (by simp)),hx']
  ·exact absurd h.symm hR
 ·rename_i e hu1 hu2
  split at h
  ·rename_i hb
   have hue:=und_some (byteT_und hb) (by simp)
   have fin:∀(ad:Option Addr) (len cap:Nat) (m:List UInt8),a.eval x = .slice ad len cap→(Conv.bytesToString (.slice ad len cap)).run C.P w = .ok (.string ⟨m.toArray⟩) w→m.length≤140737488355328→K { dst:=some (.v (.S m)) } = R→OpS C nt g0 w0 s a w o K R:=by
    intro ad len cap m hx hrun hle hk
    refine .val r hd hk (u := .string ⟨m.toArray⟩) ?_ (V_S g w hle)
    simp [execOp,ho,Go.convert,run_underlying (und_some hu1 (by simp)),run_underlying (und_some hu2 (by simp)),run_underlying hue,hx,hrun]
   have finV:∀av:AV,V g w av (a.eval x)→((stdAlg C.pure G).mY av fun s=>(stdAlg C.pure G).chk (decide (s.length≤C.bound)) (K { dst:=some (.v (.S s)) }))=R→OpS C nt g0 w0 s a w o K R:=by
    intro av hv h
    obtain ⟨m,rfl,h2⟩:=mY_inv h hR
    obtain ⟨h3,h4⟩:=chk_inv' h2 hR
    have hl:m.length≤C.bound:=by simpa using h3
    obtain ⟨ad,len,cap,hx,_⟩:=V_Y' hv
    have hr:=run_bytes_str (C:=C) hv
    rw [hx] at hr
    have:=hC.bound
    exact fin ad len cap m hx hr (by omega) h4
   split at h
   ·rename_i k ver ver' c ex e1 e2
    split at h
    ·rename_i hver
     subst hver
     obtain ⟨m,hm,h2⟩:=mY_inv h hR
     obtain ⟨h3,h4⟩:=chk_inv' h2 hR
     have hl:m.length≤C.bound:=by simpa using h3
     have hve:=r.ev x
     rw [e1] at hve e2
     simp only [loO,EV.site] at e2
     have hx:=hve.2 (by rw [e2]) c ex (by rw [e2])
     have hlr:=r.core.loc k
     unfold LR at hlr
     rw [e2] at hlr
     cases c with
     | e t n xs=>simp [SC.toAV] at hm
     | y t sb=>
      simp only [SC.toAV,AV.Y.injEq] at hm
      subst hm
      obtain ⟨hrow,_⟩:=hlr
      rw [←hx] at hrow
      have:=hC.bound
      rcases hrow.2 with ⟨e3,h0⟩ | ⟨b,cap,cur,e3,_,hblk,hle,_⟩
      ·refine fin none 0 0 sb e3 ?_ (by omega) h4
       rw [List.eq_nil_of_length_eq_zero h0]
       rfl
      ·refine fin _ _ cap sb e3 ?_ (by omega) h4
       have hl2:=run_loadCells_list (P:=C.P) w ⟨b,0,none⟩ ((sb.map fun x=>(x.toNat:Int)).map (Value.int .u8)) (fun j v hv=>by
        have:=hrow.cells (g:=b) (by rw [e3];rfl) j v (by simpa using hv)
        exact this)
       rw [List.length_map,List.length_map] at hl2
       rw [run_bytesToString w ⟨b,0,none⟩ sb.length cap _ hl2,bytes_push]
       simp
    ·exact absurd h.symm hR
   ·rename_i e1
    have hve:=r.ev x
    rw [e1] at hve
    exact fin none 0 0 [] hve rfl (by simp) h
   ·rename_i av e1
    exact finV _ (r.evv e1) h
   ·rename_i k ver m off z e1
    have hve:=r.ev x
    rw [e1] at hve
    exact finV _ hve.1 h
   ·rename_i id off hv z e1
    have hve:=r.ev x
    rw [e1] at hve
    exact finV _ hve.1 h
   ·exact absurd h.symm hR
  ·exact absurd h.symm hR
 ·rename_i e hu1 hu2
  split at h
  ·rename_i hb
   have hue:=und_some (byteT_und hb) (by simp)
   split at h
   ·rename_i av e1
    obtain ⟨m,rfl,h2⟩:=mS_inv h hR
    obtain ⟨hx,hm⟩:=V_S' (r.evv e1)
    have hrun:=run_bytes_of_string (P:=C.P) w t d e ⟨m.toArray⟩ (und_some hu1 (by simp)) (und_some hu2 (by simp)) hue
    have hch:=fresh_chg (g:=g) (w:=w) r.core.wf (.cells (bytesRow ⟨m.toArray⟩ (grownCap w m.length 0 e)) e ((bytesRow ⟨m.toArray⟩ (grownCap w m.length 0 e)).size,(bytesRow ⟨m.toArray⟩ (grownCap w m.length 0 e)).size+1)) m.length (.arr 0) false
    have hsz:(⟨m.toArray⟩:ByteArray).size=m.length:=rfl
    have hge:=grownCap_ge w m.length 0 e
    refine .to (u := { dst:=some (.v (.Y m)) }) r hd h2 (v := .slice (some ⟨w.heap.size,0,none⟩) m.length (grownCap w m.length 0 e)) ?_ rfl
     (f':=f) ⟨r.core.heap.chg hch rfl fun _ h=>h.elim,fun k=>(r.core.loc k).chg hch fun _ h=>h.elim,fun b i hx => ?_⟩ ⟨hch.mono fun _ _ h=>h.elim,fun k => ?_,fun id => .keep rfl rfl fun cs hid j => ?_⟩ ?_
    ·rw [hsz] at hrun
     simp [execOp,ho,hx,hrun]
    ·rcases hx with hx | hx
     ·have:=r.core.wf _ _ hx
      simp
      omega
     ·simp
      omega
    ·refine SiteStp.same rfl rfl rfl fun mm cs hb j => ?_
     have hl:=r.core.loc k
     unfold LR at hl
     rw [hb] at hl
     have:=hch.blk _ hl.lt id
     simp only [World.cell?,this]
    ·have:=hch.blk _ (r.core.heap.obj id cs hid).lt (fun h=>h)
     simp only [World.cell?,this]
    ·show V _ _ (.Y m) _
     simp only [V]
     refine ⟨_,_,_,rfl,rfl,⟨hge,by omega⟩, .inr ⟨w.heap.size,0,rfl,VY_of m 0 fun j x hj=>⟨?_,?_⟩⟩⟩
     ·have hn:=heap_alloc_new w.drew (.cells (bytesRow ⟨m.toArray⟩ (grownCap w m.length 0 e)) e ((bytesRow ⟨m.toArray⟩ (grownCap w m.length 0 e)).size,(bytesRow ⟨m.toArray⟩ (grownCap w m.length 0 e)).size+1))
      have hn':(w.drew.alloc (.cells (bytesRow ⟨m.toArray⟩ (grownCap w m.length 0 e)) e ((bytesRow ⟨m.toArray⟩ (grownCap w m.length 0 e)).size,(bytesRow ⟨m.toArray⟩ (grownCap w m.length 0 e)).size+1))).heap[w.heap.size]? = _:=hn
      simp only [World.cell?,hn',Option.isSome_none,Bool.false_eq_true,if_false,Nat.zero_add]
      have hlt:=(List.getElem?_eq_some_iff.1 hj).1
      unfold bytesRow
      rw [Array.getElem?_append_left (by simpa using hlt)]
      simp [hj]
     ·exact .inr ⟨rfl,rfl,by have:=(List.getElem?_eq_some_iff.1 hj).1;omega⟩
   ·exact absurd h.symm hR
  ·exact absurd h.symm hR
 ·exact absurd h.symm hR
end
end Go.Vm
namespace Go.Vm
open Go
section
variable {C:Cx} {N:Ann} {nt:NT} {g0 g:Gh} {w0 w:World} {f:Fr} {s:St} {a:Act} {o:Oper}
variable {K:Upd→Res} {R:Res} {G:FuncId→List AV→List HO→Res}
def Own.isHeap:Own→Bool
 | .obj _ | .cell _ _=>true
 | _=>false
theorem Own.isHeap_iff {o:Own} : o.isHeap=true↔o.heap:=by cases o<;>simp [Own.isHeap,Own.heap]
def GlobR (C:Cx) (g:Gh) (w:World):Prop:=∀gi cs,C.glob gi=some cs→GV g w gi cs
def Wf (g:Gh) (w:World):Prop:=∀b i,g.st b i→b<w.heap.size
def Post (g0:Gh) (w0:World) (R:Res):Ending→World→Prop
 | .returned u,w'=>∃v h' g',R = .ret v h'∧Chg (fun b=>g0.ow b≠none) g0 w0 g' w'∧HeapR g' w' h'∧V g' w' v u∧Wf g' w'
 | .panicked chain,w'=>∃v h' u g',R = .pan v h'∧chain=[{ v:=u,recovered:=false }]∧Chg (fun b=>g0.ow b≠none) g0 w0 g' w'∧HeapR g' w' h'∧V g' w' v u∧Wf g' w'
 | .outgrown,_=>False
def FreshR (e:TypeId) (w0:World) (g':Gh) (w':World) (v:AV) (u:Value):Prop:=
 ∃c ow,v=c.toAV∧c.elem=e∧SR g' w' ow c true u∧∀b,u.ownBlock=some b→w0.heap.size≤b
def PostP (fr:Option TypeId) (g0:Gh) (w0:World) (R:Res):Ending→World→Prop
 | .returned u,w'=>∃v h' g',R = .ret v h'∧Chg (fun _=>False) g0 w0 g' w'∧Wf g' w'∧match fr with
  | some e=>FreshR e w0 g' w' v u
  | none=>V g' w' v u
 | .panicked chain,w'=>∃v h' u g',R = .pan v h'∧chain=[{ v:=u,recovered:=false }]∧Chg (fun _=>False) g0 w0 g' w'∧V g' w' v u∧Wf g' w'
 | .outgrown,_=>False
def SoundF (C:Cx) (f:FuncId) (S:List AV→List HO→Res):Prop:=
 ∀(g:Gh) (w:World) (as:List AV) (vals:List Value) (h:List HO) (R:Res),S as h=R→R ≠ .stuck→HeapR g w h→VT g w as vals→Wf g w→GlobR C g w→(∀b o,g.ow b=some o→o.heap) →
  Callable C.P f∧Calls C.P f vals.toArray w (Post g w R)
def SoundP (C:Cx) (f:FuncId) (S:List AV→List HO→Res):Prop:=
 ∀(g:Gh) (w:World) (as:List AV) (vals:List Value) (R:Res),S as []=R→R ≠ .stuck→noPs as=true→g.n=0→VT g w as vals→Wf g w→GlobR C g w→(∀b,g.ow b=none) →
  Callable C.P f∧Calls C.P f vals.toArray w (PostP (C.fresh f) g w R)
def PostE (e:TypeId) (g:Gh) (w:World) (v:AV):Ending→World→Prop
 | .returned u,w'=>∃g',Chg (fun b=>g.ow b≠none) g w g' w'∧Wf g' w'∧∃c' ow',v=c'.toAV∧c'.elem=e∧SR g' w' ow' c' false u∧∀b,u.ownBlock=some b→w.heap.size≤b∨g.ow b≠none
 | _,_=>False
def SoundE (C:Cx) (f:FuncId) (S:List AV→List HO→Res):Prop:=
 ∀e,C.eats f=some e→∃k:Nat,∀(g:Gh) (w:World) (c:SC) (as:List AV) (u0:Value) (vals:List Value) (v:AV) (h:List HO),S (c.toAV::as) [.no] = .ret v h→noPs (c.toAV::as)=true→g.n=0 →
  c.elem=e→c.width=szT C.P e→c.isY=byteT C.P e→SR g w (.arr k) c false u0→VT g w as vals→Wf g w→GlobR C g w→(∀b o,g.ow b=some o→u0.ownBlock=some b) →
  Callable C.P f∧Calls C.P f (u0::vals).toArray w (PostE e g w v)
def Sound (C:Cx) (f:FuncId) (S:List AV→List HO→Res):Prop:=if C.pure f then SoundP C f S∧SoundE C f S else SoundF C f S
def Gh.mask (g:Gh):Gh := { g with ow:=fun b=>match g.ow b with
 | some o=>if o.isHeap then some o else none
 | none=>none }
def Gh.bare (g:Gh):Gh := { g with n:=0,ow:=fun _=>none }
theorem Later.sameV {g g':Gh} (w:World) (h1:g'.n=g.n) (h2:g'.ix=g.ix) (h3:g'.st=g.st):Later g w g' w:=
 ⟨by rw [h1];exact Nat.le_refl _,fun _ _=>by rw [h2],fun b o h=>by rw [h3];exact h,fun _ _ _=>rfl,fun _ _ _ _ _ h=>h⟩
theorem mask_heap {b:Nat} {o:Own} : g.mask.ow b=some o↔g.ow b=some o∧o.heap:=by
 simp only [Gh.mask]
 cases h:g.ow b with
 | none=>simp
 | some o'=>
  simp only
  split
  ·rename_i hh
   constructor
   ·intro e;cases e;exact ⟨rfl,Own.isHeap_iff.1 hh⟩
   ·intro e;exact e.1
  ·rename_i hh
   constructor
   ·intro e;cases e
   ·rintro ⟨e,e2⟩
    cases e
    exact absurd (Own.isHeap_iff.2 e2) hh
theorem OwnB.reown {g g':Gh} {o:Own} {ex:Bool} {len:Nat} {u:Value} (h:OwnB g o ex len u) (hst:g'.st=g.st) (how:∀b,g.ow b=some o→g'.ow b=some o):OwnB g' o ex len u:=by
 intro b hb
 obtain ⟨h1,h2⟩:=h b hb
 exact ⟨how b h1,fun i=>by rw [hst];exact h2 i⟩
theorem SR.reown {g g':Gh} {o:Own} {c:SC} {ex:Bool} {u:Value} (h:SR g w o c ex u) (h1:g'.n=g.n) (h2:g'.ix=g.ix) (hst:g'.st=g.st) (how:∀b,g.ow b=some o→g'.ow b=some o):SR g' w o c ex u:=by
 obtain ⟨vals,q1,q2,q3,q4⟩:=SR_iff.1 h
 exact SR_iff.2 ⟨vals,q1,q2,q3.later (Later.sameV w h1 h2 hst),q4.reown hst how⟩
theorem HVR.reown {g g':Gh} {o:Own} {x:HV} {u:Value} (h:HVR g w o x u) (h1:g'.n=g.n) (h2:g'.ix=g.ix) (hst:g'.st=g.st) (how:∀b,g.ow b=some o→g'.ow b=some o):HVR g' w o x u:=by
 cases x with
 | a v=>exact ⟨V.later (Later.sameV w h1 h2 hst) _ _ h.1,h.2⟩
 | g c=>exact SR.reown h h1 h2 hst how
 | z t=>exact h
theorem BoxR.reown {g g':Gh} {o:Own} {co:Nat→Own} {b:Nat} {cs:List HV} (h:BoxR g w o co b cs) (h1:g'.n=g.n) (h2:g'.ix=g.ix) (hst:g'.st=g.st) (how:∀b,g.ow b=some o→g'.ow b=some o) (hco:∀i b,g.ow b=some (co i)→g'.ow b=some (co i)):BoxR g' w o co b cs:=by
 obtain ⟨arr,t,p1,p2,p3⟩:=h.row
 refine ⟨how b h.ow,fun i=>by rw [hst];exact h.st i,arr,t,p1,p2,fun i x hx => ?_⟩
 obtain ⟨u,hu,hr⟩:=p3 i x hx
 exact ⟨u,hu,hr.imp (fun k=>k.reown h1 h2 hst (hco i)) id⟩
theorem MapR.reown {g g':Gh} {o:Own} {b:Nat} {es:List (AV×AV)} (h:MapR g w o b es) (h1:g'.n=g.n) (h2:g'.ix=g.ix) (hst:g'.st=g.st) (how:∀b,g.ow b=some o→g'.ow b=some o):MapR g' w o b es:=by
 obtain ⟨mes,t,p1,p2,p3⟩:=h.row
 exact ⟨how b h.ow,fun i=>by rw [hst];exact h.st i,mes,t,p1,p2.later (Later.sameV w h1 h2 hst),p3⟩
theorem HeapR.reown {g g':Gh} {hp:List HO} (h:HeapR g w hp) (h1:g'.n=g.n) (h2:g'.ix=g.ix) (hst:g'.st=g.st) (how:∀b (o:Own),o.heap→g.ow b=some o→g'.ow b=some o):HeapR g' w hp:=by
 refine ⟨h.len.trans h1.symm,fun id hid=>by rw [Gh.io_of h2];exact h.lt id (by omega),fun id cs hc => ?_,fun id es hc => ?_,fun id t n xs hc => ?_⟩
 ·rw [Gh.io_of h2]
  exact (h.obj id cs hc).reown h1 h2 hst (fun b=>how b _ trivial) (fun i b=>how b _ trivial)
 ·rw [Gh.io_of h2]
  exact (h.map id es hc).reown h1 h2 hst (fun b=>how b _ trivial)
 ·rw [Gh.io_of h2,Gh.hdr_of h2]
  exact ⟨(h.arr id t n xs hc).sr.reown h1 h2 hst (fun b=>how b _ trivial),(h.arr id t n xs hc).bl⟩
def Resolves (a:Act) (o:Oper) (P:Program) (f:FuncId) (vals:List Value):Prop:=∀w,(execOp a.eval o).run P w=(callFunc f vals.toArray).run P w
theorem run_call {f:FuncId} {vals:List Value} (hf:Callable C.P f) (hr:Resolves a o C.P f vals):(execOp a.eval o).run C.P w = .ok (.enter f vals.toArray) w:=by
 obtain ⟨fn,h1,h2,h3⟩:=hf
 have h4:fn.body≠none:=by cases e:fn.body<;>simp_all
 rw [hr]
 simp [callFunc,h1,h3,h4]
theorem wp_enter {P:Program} {next:Act→World→Prop} {Q:Exit→Act→World→Prop} {f:FuncId} {args:Array Value} {w':World}
  (h:(execOp a.eval o).run P w = .ok (.enter f args) w') (hn:Calls P f args w' fun
   | .returned v,w''=>next (a.put o.dst v) w''
   | .panicked chain,w''=>Q (.panic chain) a w''
   | .outgrown,_=>LetsOut Q):o.wp P a w next Q:=by
 unfold Oper.wp
 rw [h]
 exact hn
theorem noP_SC:∀(c:SC),noP c.toAV=true→∀g w vals,SCV g w c vals→∀g' w',Cells g w g' w'→SCV g' w' c vals:=by
 intro c hp g w vals h g' w' hc
 cases c with
 | e t n xs=>
  refine ⟨h.1,VS.noP hc _ _ ?_ h.2⟩
  simp only [SC.toAV,noP] at hp
  have:∀l:List (List AV),noPss l=true→noPs l.flatten=true:=by
   intro l
   induction l with
   | nil=>intro _;rfl
   | cons x l ih=>
    intro hl
    simp only [noPss,Bool.and_eq_true] at hl
    have app:∀(p q:List AV),noPs p=true→noPs q=true→noPs (p++q)=true:=by
     intro p
     induction p with
     | nil=>intro q _ hq;exact hq
     | cons y p ih=>intro q h1 h2;simp only [noPs,Bool.and_eq_true,List.cons_append] at h1 ⊢;exact ⟨h1.1,ih q h1.2 h2⟩
    exact app _ _ hl.1 (ih hl.2)
  exact this xs hp
 | y t sb=>exact h
def Gh.back (g1 g':Gh) (sz:Nat) (extra:Nat→Option Own):Gh := { g1 with st:=g'.st,ow:=fun b=>if b<sz then g1.ow b else extra b }
theorem back_chg {g1 g':Gh} {w':World} (hch:Chg (fun _=>False) g1.bare w g' w') (extra:Nat→Option Own):Chg (fun _=>False) g1 w (g1.back g' w.heap.size extra) w' where
 later:=⟨Nat.le_refl _,fun _ _=>rfl,hch.later.st,hch.later.cell,hch.later.nf⟩
 size:=hch.size
 blk:=hch.blk
 ow b hb _:=by simp only [Gh.back];rw [if_pos hb]
 st b i hb hn h:=hch.st b i hb hn h
 os:=hch.os
 tape:=hch.tape
 out:=hch.out
theorem Core.quiet {g2:Gh} {w':World} (hc:Core g w f s) (hch:Chg (fun _=>False) g w g2 w') (hn:g2.n=g.n) (hwf:Wf g2 w'):Core g2 w' f s∧Stp g w f s g2 w' f s:=by
 refine ⟨⟨hc.heap.chg hch hn fun _ h=>h.elim,fun k=>(hc.loc k).chg hch fun _ h=>h.elim,hwf⟩,⟨hch.mono fun _ _ h=>h.elim,fun k=>SiteStp.same rfl rfl rfl fun mm cs hb j => ?_,fun id => .keep rfl rfl fun cs hid j => ?_⟩⟩
 ·have hl:=hc.loc k
  unfold LR at hl
  rw [hb] at hl
  have:=hch.blk _ hl.lt id
  simp only [World.cell?,this]
 ·have:=hch.blk _ (hc.heap.obj id cs hid).lt (fun h=>h)
  simp only [World.cell?,this]
theorem Rel.upd (r:Rel C nt g0 w0 g w f s a) (hd:∀x,o.dst=some x→nt.ok x) {u:Upd} {v:Value} {g':Gh} {w':World} {f':Fr} {e:EV} (he:u.dst=some e)
  (hc:Core g' w' f' (Upd.on { u with dst:=none } none s)) (hst:Stp g w f s g' w' f' (Upd.on { u with dst:=none } none s)) (hv:VE g' w' f' (Upd.on { u with dst:=none } none s) e v):Rel C nt g0 w0 g' w' f' (u.on o.dst s) (a.put o.dst v):=by
 have:=r.to hst hc rfl hd hv
 simp only [Upd.on,he,Option.getD_some,St.put] at this ⊢
 cases h:o.dst<;>simp only [h] at this ⊢ <;> exact this
theorem PostP.val {fr:Option TypeId} {e:Ending} {w':World} (h:PostP fr g w R e w') (hn:∀b,g.ow b=none):PostP none g w R e w':=by
 cases fr with
 | none=>exact h
 | some t=>
  cases e with
  | outgrown=>exact h
  | panicked chain=>exact h
  | returned u=>
   obtain ⟨v,h',g',e1,hch,hwf,cc,ow,rfl,hel,hsr,hnew⟩:=h
   obtain ⟨g2,k1,k2,k3,k4,k5,k6⟩:=SR.give (o':=ow) hsr
   refine ⟨_,h',g2,e1,hch.trans k1 fun b hb hB => ?_,fun b i hx=>(k5 b i hx).elim (hwf b i) id,SR.toV k2⟩
   have:=hch.ow b hb id
   rw [hB,hn b] at this
   cases this
theorem OpS.pcallV (hC:OkC C) (r:Rel C nt g0 w0 g w f s a) (hd:∀x,o.dst=some x→nt.ok x) (hR:R ≠ .stuck) {fid:FuncId} (hG:Sound C fid (G fid)) (hp:C.pure fid=true)
  {as:List AV} {vals:List Value} {us:List (Nat×LOv)} {g1:Gh} (hf:FrzL s.loc us) (hc:Core g1 w f (s.withLocs us)) (hst:Stp g w f s g1 w f (s.withLocs us)) (hv:VT g1 w as vals)
  (hr:Resolves a o C.P fid vals)
  (h':pcall (G fid) as s.h (fun v=>K { dst:=some (.v v),locs:=us })=R):OpS C nt g0 w0 s a w o K R:=by
 intro next Q hn hpan
 have hlen:=r.core.heap.len
 unfold pcall at h'
 split at h'
 case h_2=>exact absurd h'.symm hR
 rename_i hnp
 have hcl:Cells g1 w g1.bare w:=⟨fun _ _ h=>h,fun _ _ _=>rfl,fun _ _ _ _ _ h=>h⟩
 have hvb:VT g1.bare w as vals:=VT.noP hcl as vals hnp hv
 have hgl:GlobR C g1.bare w:=fun gi cs hg=>
  GV.noP hcl gi cs (hC.glob gi cs hg) (GV.later hst.chg.later gi cs (r.glob gi cs hg))
 have hS:SoundP C fid (G fid):=by
  unfold Sound at hG
  rw [if_pos hp] at hG
  exact hG.1
 cases hres:G fid as [] with
 | stuck=>rw [hres] at h';exact absurd h'.symm hR
 | upd u=>rw [hres] at h';exact absurd h'.symm hR
 | ret v hh=>
  rw [hres] at h'
  simp only at h'
  split at h'
  case h_2=>exact absurd h'.symm hR
  rename_i hnv
  obtain ⟨hcb,hcalls⟩:=hS g1.bare w as vals _ hres (by simp) hnp rfl hvb hc.wf hgl (fun _=>rfl)
  refine wp_enter (run_call hcb hr) (hcalls.mono fun e w' hpost => ?_)
  have hpost:=hpost.val fun _=>rfl
  cases e with
  | outgrown=>exact hpost.elim
  | panicked chain=>obtain ⟨_,_,_,_,e1,_⟩:=hpost;cases e1
  | returned u=>
   obtain ⟨v',h1,g',e1,hch,hwf,hval⟩:=hpost
   cases e1
   have hch2:=back_chg hch (fun _=>none)
   obtain ⟨d1,d2⟩:=hc.quiet hch2 rfl hwf
   have hval2:V (g1.back g' w.heap.size fun _=>none) w' v u:=
    have hcl2:Cells g' w' (g1.back g' w.heap.size fun _=>none) w':=⟨fun _ _ h=>h,fun _ _ _=>rfl,fun _ _ _ _ _ h=>h⟩
    V.noP hcl2 v u hnv hval
   exact hn _ _ _ f _ h' (r.upd (u := { dst:=some (.v v),locs:=us }) hd rfl d1 (hst.trans hlen d2) hval2)
 | pan v hh=>
  rw [hres] at h'
  simp only at h'
  split at h'
  case h_2=>exact absurd h'.symm hR
  rename_i hnv
  obtain ⟨hcb,hcalls⟩:=hS g1.bare w as vals _ hres (by simp) hnp rfl hvb hc.wf hgl (fun _=>rfl)
  refine wp_enter (run_call hcb hr) (hcalls.mono fun e w' hpost => ?_)
  cases e with
  | outgrown=>exact hpost.elim
  | returned u=>obtain ⟨_,_,_,e1,_⟩:=hpost;cases e1
  | panicked chain=>
   obtain ⟨v',h1,u,g',e1,e2,hch,hval,hwf⟩:=hpost
   cases e1
   subst e2
   have hch2:=back_chg hch (fun _=>none)
   obtain ⟨d1,d2⟩:=hc.quiet hch2 rfl hwf
   have hval2:V (g1.back g' w.heap.size fun _=>none) w' v u:=
    have hcl2:Cells g' w' (g1.back g' w.heap.size fun _=>none) w':=⟨fun _ _ h=>h,fun _ _ _=>rfl,fun _ _ _ _ _ h=>h⟩
    V.noP hcl2 v u hnv hval
   have hs2:=hst.trans hlen d2
   exact hpan v s.h u _ w' h'.symm (r.ext.trans hs2.chg fun b hb hB hn=>hB ((r.ext.ow b hb (fun x=>x hn)).trans hn)) d1.heap hval2 d1.wf
theorem OpS.callF (r:Rel C nt g0 w0 g w f s a) (hd:∀x,o.dst=some x→nt.ok x) (hR:R ≠ .stuck) {fid:FuncId} (hG:Sound C fid (G fid)) (hp:C.pure fid=false)
  {as:List AV} {vals:List Value} {us:List (Nat×LOv)} {g1:Gh} (hf:FrzL s.loc us) (hc:Core g1 w f (s.withLocs us)) (hst:Stp g w f s g1 w f (s.withLocs us)) (hv:VT g1 w as vals)
  (hr:Resolves a o C.P fid vals)
  (h':bRes (G fid as s.h) (fun v h'=>K { dst:=some (.v v),locs:=us,heap:=some h' })=R):OpS C nt g0 w0 s a w o K R:=by
 intro next Q hn hpan
 have hlen:=r.core.heap.len
 have hlm:Later g1 w g1.mask w:=Later.sameV w rfl rfl rfl
 have hvm:VT g1.mask w as vals:=VT.later hlm _ _ hv
 have hgl:GlobR C g1.mask w:=fun gi cs hg=>GV.later hlm gi cs (GV.later hst.chg.later gi cs (r.glob gi cs hg))
 have hhm:HeapR g1.mask w s.h:=hc.heap.reown rfl rfl rfl fun b ow how hb=>mask_heap.2 ⟨hb,how⟩
 have hS:SoundF C fid (G fid):=by
  unfold Sound at hG
  rw [if_neg (by simp [hp])] at hG
  exact hG
 have hne:G fid as s.h ≠ .stuck:=by
  intro e
  rw [e] at h'
  exact hR h'.symm
 obtain ⟨hcb,hcalls⟩:=hS g1.mask w as vals s.h _ rfl hne hhm hvm hc.wf hgl (fun b ow hb=>(mask_heap.1 hb).2)
 have back:∀(g':Gh) (w':World) (h2:List HO),Chg (fun b=>g1.mask.ow b≠none) g1.mask w g' w'→HeapR g' w' h2→Wf g' w' →
   ∃g2,g2.n=g'.n∧g2.ix=g'.ix∧g2.st=g'.st∧Core g2 w' f { (s.withLocs us) with h:=h2,hv:=fun i=>s.hv i+1 } ∧ Stp g1 w f (s.withLocs us) g2 w' f { (s.withLocs us) with h:=h2,hv:=fun i=>s.hv i+1 } := by
  intro g' w' h2 hch hheap hwf
  have hnB:∀b,g1.mask.ow b≠none↔∃ow,g1.ow b=some ow∧ow.heap:=by
   intro b
   constructor
   ·intro h
    cases e:g1.mask.ow b with
    | none=>exact absurd e h
    | some ow=>exact ⟨ow,mask_heap.1 e⟩
   ·rintro ⟨ow,h⟩ h2
    rw [mask_heap.2 h] at h2
    cases h2
  let g2:Gh := { g' with ow:=fun b=>match g1.ow b with
   | some ow=>if ow.isHeap then g'.ow b else (if b<w.heap.size then some ow else g'.ow b)
   | none=>g'.ow b }
  have how2:∀b (ow:Own),ow.heap→g'.ow b=some ow→g2.ow b=some ow:=by
   intro b ow hh hb
   show (match g1.ow b with
    | some ow=>if ow.isHeap then g'.ow b else (if b<w.heap.size then some ow else g'.ow b)
    | none=>g'.ow b)=some ow
   split
   ·rename_i ow1 e1
    split
    ·exact hb
    ·rename_i hnh
     split
     ·rename_i hlt
      have:g1.mask.ow b=none:=by
       cases e:g1.mask.ow b with
       | none=>rfl
       | some ow3=>
        obtain ⟨e3,e4⟩:=mask_heap.1 e
        rw [e1] at e3
        cases e3
        exact absurd (Own.isHeap_iff.2 e4) hnh
      have h3:=hch.ow b hlt (fun x=>x this)
      rw [this,hb] at h3
      cases h3
     ·exact hb
   ·exact hb
  have hch2:Chg (fun b=>∃ow,g1.ow b=some ow∧ow.heap) g1 w g2 w':=by
   refine ⟨⟨hch.later.n,hch.later.ix,hch.later.st,hch.later.cell,hch.later.nf⟩,hch.size,fun b hb hn=>hch.blk b hb (fun x=>hn ((hnB b).1 x)),fun b hb hn => ?_,fun b i hb hn h=>hch.st b i hb (fun x=>hn ((hnB b).1 x)) h,hch.os,hch.tape,hch.out⟩
   show (match g1.ow b with
    | some ow=>if ow.isHeap then g'.ow b else (if b<w.heap.size then some ow else g'.ow b)
    | none=>g'.ow b)=g1.ow b
   split
   ·rename_i ow1 e1
    rw [if_neg (fun hh=>hn ⟨ow1,e1,Own.isHeap_iff.1 hh⟩),if_pos hb,e1]
   ·rename_i e1
    have:g1.mask.ow b=none:=by simp [Gh.mask,e1]
    have h3:=hch.ow b hb (fun x=>x this)
    rw [h3,this,e1]
  refine ⟨g2,rfl,rfl,rfl,⟨hheap.reown rfl rfl rfl how2,fun k => ?_,hwf⟩,⟨hch2.mono fun b _ e=>by obtain ⟨ow,e,_⟩:=e;rw [e];simp,fun k => ?_,fun _ => .inl (Nat.lt_succ_self _)⟩⟩
  ·refine (hc.loc k).chg hch2 ?_
   rintro b ⟨ow,e,hh⟩ ow2 ho2 e2
   rw [e] at e2
   cases e2
   cases ow<;>simp [Own.heap,Own.site] at hh ho2
  ·refine SiteStp.same rfl rfl rfl fun mm cs hb j => ?_
   have hl:=hc.loc k
   unfold LR at hl
   rw [hb] at hl
   have:=hch2.blk _ hl.lt (by rintro ⟨ow,e,hh⟩;rw [hl.ow] at e;cases e;exact hh)
   simp only [World.cell?,this]
 refine wp_enter (run_call hcb hr) (hcalls.mono fun e w' hpost => ?_)
 cases e with
 | outgrown=>exact hpost.elim
 | returned u=>
  obtain ⟨v,h2,g',e1,hch,hheap,hval,hwf⟩:=hpost
  rw [e1] at h'
  obtain ⟨g2,b1,b2,b3,d1,d2⟩:=back g' w' h2 hch hheap hwf
  have hval2:V g2 w' v u:=V.later (Later.sameV w' b1 b2 b3) v u hval
  exact hn _ _ _ f _ h' (r.upd (u := { dst:=some (.v v),locs:=us,heap:=some h2 }) hd rfl d1 (hst.trans hlen d2) hval2)
 | panicked chain=>
  obtain ⟨v,h2,u,g',e1,e2,hch,hheap,hval,hwf⟩:=hpost
  rw [e1] at h'
  subst e2
  obtain ⟨g2,b1,b2,b3,d1,d2⟩:=back g' w' h2 hch hheap hwf
  have hval2:V g2 w' v u:=V.later (Later.sameV w' b1 b2 b3) v u hval
  have hs2:=hst.trans hlen d2
  exact hpan v h2 u _ w' h'.symm (r.ext.trans hs2.chg fun b hb hB hn=>hB ((r.ext.ow b hb (fun x=>x hn)).trans hn)) d1.heap hval2 d1.wf
def Own.id:Own→Nat
 | .obj i | .cell i _=>i
 | _=>0
def Own.seen (l:List Nat) (o:Own):Prop:=o.heap∧o.id∈l
instance (l:List Nat) (o:Own):Decidable (o.seen l):=by unfold Own.seen;cases o<;>simp only [Own.heap]<;>infer_instance
def Gh.maskV (g:Gh) (l:List Nat):Gh := { g with ow:=fun b=>match g.ow b with
 | some o=>if o.seen l then some o else none
 | none=>none }
theorem maskV_ow {l:List Nat} {b:Nat} {o:Own} : (g.maskV l).ow b=some o↔g.ow b=some o∧o.seen l:=by
 simp only [Gh.maskV]
 cases h:g.ow b with
 | none=>simp
 | some o'=>
  simp only
  split
  ·rename_i hh
   constructor
   ·intro e;cases e;exact ⟨rfl,hh⟩
   ·intro e;exact e.1
  ·rename_i hh
   constructor
   ·intro e;cases e
   ·rintro ⟨e,e2⟩
    cases e
    exact absurd e2 hh
theorem any_beq {l:List Nat} {i:Nat} : l.any (Nat.beq i)=true↔i∈l:=by
 simp only [List.any_eq_true]
 constructor
 ·rintro ⟨x,hx,e⟩
  rw [Nat.eq_of_beq_eq_true e];exact hx
 ·intro h
  exact ⟨i,h,by simp⟩
theorem maskH_length (l:List Nat):∀(h:List HO) (k:Nat),(maskH l k h).length=h.length
 | [],_=>rfl
 | _::h,k=>by simp [maskH,maskH_length l h]
theorem maskH_get (l:List Nat):∀(h:List HO) (k i:Nat),(maskH l k h)[i]? = (h[i]?).map fun x=>bif l.any (Nat.beq (k+i)) then x else .no
 | [],_,_=>by simp [maskH]
 | x::h,k,0=>by simp [maskH]
 | x::h,k,i+1=>by
  simp only [maskH,List.getElem?_cons_succ,maskH_get l h]
  rw [show k+1+i=k+(i+1) by omega]
theorem maskH_some {l:List Nat} {h:List HO} {i:Nat} {x:HO} (hx:(maskH l 0 h)[i]? = some x) (hn:x ≠ .no):h[i]? = some x∧i∈l:=by
 rw [maskH_get] at hx
 simp only [Nat.zero_add] at hx
 cases e:h[i]? with
 | none=>rw [e] at hx;cases hx
 | some y=>
  rw [e] at hx
  simp only [Option.map_some,Option.some.injEq] at hx
  cases e2:l.any (Nat.beq i) with
  | false=>rw [e2] at hx;exact absurd hx.symm hn
  | true=>rw [e2] at hx;exact ⟨by rw [←hx];rfl,any_beq.1 e2⟩
theorem maskH_agree {l:List Nat} {h h':List HO} (e1:h'.length=h.length) (e2:∀i∈l,h'[i]? = h[i]?):maskH l 0 h'=maskH l 0 h:=by
 apply List.ext_getElem?
 intro i
 rw [maskH_get,maskH_get,Nat.zero_add]
 by_cases hi:i∈l
 ·rw [e2 i hi]
 ·have:l.any (Nat.beq i)=false:=by
   rw [Bool.eq_false_iff]
   exact fun e=>hi (any_beq.1 e)
  rw [this]
  rcases Nat.lt_or_ge i h.length with hl | hl
  ·rw [List.getElem?_eq_getElem hl,List.getElem?_eq_getElem (by omega)];rfl
  ·rw [List.getElem?_eq_none hl,List.getElem?_eq_none (by omega)]
theorem setH_length:∀(dl:List (Nat×HO)) (h:List HO),(setH h dl).length=h.length
 | [],_=>rfl
 | (i,x)::dl,h=>by simp [setH,setH_length dl]
theorem setH_get (f:Nat→HO):∀(l:List Nat) (h:List HO) (i:Nat),i<h.length→(setH h (l.map fun i=>(i,f i)))[i]? = if i∈l then some (f i) else h[i]?
 | [],_,_,_=>by simp [setH]
 | j::l,h,i,hi=>by
  simp only [List.map_cons,setH]
  rw [setH_get f l _ i (by simpa using hi)]
  by_cases h1:i∈l
  ·simp [h1]
  ·by_cases h2:i=j
   ·subst h2
    simp [h1,hi]
   ·have:¬j=i:=fun e=>h2 e.symm
    simp [h1,h2,this]
theorem hasId_iff {i:Nat} : ∀(dl:List (Nat×HO)),hasId i dl=true↔i∈dl.map (·.1)
 | []=>by simp [hasId]
 | (j,x)::dl=>by
  simp only [hasId,List.map_cons,List.mem_cons]
  cases e:Nat.beq j i with
  | true=>simp [(Nat.eq_of_beq_eq_true e).symm]
  | false=>
   have:¬i=j:=fun h=>by subst h;simp at e
   simp only [cond_false,this,false_or]
   exact hasId_iff dl
theorem hvOf_eq {u:Upd} (hu:u.heap=none) (hv:Nat→Nat) (i:Nat):u.hvOf hv i=if i∈u.dl.map (·.1) then hv i+1 else hv i:=by
 unfold Upd.hvOf
 rw [hu]
 cases e:u.dl with
 | nil=>simp
 | cons p r=>
  simp only
  cases e2:hasId i (p::r) with
  | true=>rw [if_pos ((hasId_iff _).1 e2)];rfl
  | false=>rw [if_neg (fun h=>by rw [(hasId_iff _).2 h] at e2;cases e2)];rfl
theorem OpS.callM (r:Rel C nt g0 w0 g w f s a) (hd:∀x,o.dst=some x→nt.ok x) (hR:R ≠ .stuck) {fid:FuncId} (hG:Sound C fid (G fid)) (hp:C.pure fid=false)
  {as:List AV} {vals:List Value} {us:List (Nat×LOv)} {g1:Gh} (hf:FrzL s.loc us) (hc:Core g1 w f (s.withLocs us)) (hst:Stp g w f s g1 w f (s.withLocs us)) (hv:VT g1 w as vals)
  (hr:Resolves a o C.P fid vals) {l:List Nat}
  (h':bRes (G fid as (maskH l 0 s.h)) (fun v h'=>chk (Nat.beq h'.length s.h.length) (K { dst:=some (.v v),locs:=us,dl:=l.map fun i=>(i,h'.getD i .no) }))=R):OpS C nt g0 w0 s a w o K R:=by
 intro next Q hn hpan
 have hlen:=r.core.heap.len
 have hlm:Later g1 w (g1.maskV l) w:=Later.sameV w rfl rfl rfl
 have hvm:VT (g1.maskV l) w as vals:=VT.later hlm _ _ hv
 have hgl:GlobR C (g1.maskV l) w:=fun gi cs hg=>GV.later hlm gi cs (GV.later hst.chg.later gi cs (r.glob gi cs hg))
 have hhm:HeapR (g1.maskV l) w (maskH l 0 s.h):=by
  have hh:=hc.heap
  refine ⟨by rw [maskH_length];exact hh.len,hh.lt,fun id cs hx => ?_,fun id es hx => ?_,fun id t9 n9 xs9 hx => ?_⟩
  ·obtain ⟨h1,h2⟩:=maskH_some hx (by simp)
   exact (hh.obj id cs h1).reown rfl rfl rfl (fun b hb=>maskV_ow.2 ⟨hb,trivial,h2⟩) (fun i b hb=>maskV_ow.2 ⟨hb,trivial,h2⟩)
  ·obtain ⟨h1,h2⟩:=maskH_some hx (by simp)
   exact (hh.map id es h1).reown rfl rfl rfl (fun b hb=>maskV_ow.2 ⟨hb,trivial,h2⟩)
  ·obtain ⟨h1,h2⟩:=maskH_some hx (by simp)
   exact ⟨(hh.arr id t9 n9 xs9 h1).sr.reown rfl rfl rfl (fun b hb=>maskV_ow.2 ⟨hb,trivial,h2⟩),(hh.arr id t9 n9 xs9 h1).bl⟩
 have hS:SoundF C fid (G fid):=by
  unfold Sound at hG
  rw [if_neg (by simp [hp])] at hG
  exact hG
 have hne:G fid as (maskH l 0 s.h) ≠ .stuck:=by
  intro e
  rw [e] at h'
  exact hR h'.symm
 obtain ⟨hcb,hcalls⟩:=hS (g1.maskV l) w as vals (maskH l 0 s.h) _ rfl hne hhm hvm hc.wf hgl (fun b ow hb=>(maskV_ow.1 hb).2.1)
 have back0:∀(g':Gh) (w':World),Chg (fun b=>(g1.maskV l).ow b≠none) (g1.maskV l) w g' w' →
   ∃g2:Gh,g2.n=g'.n∧g2.ix=g'.ix∧g2.st=g'.st∧(∀b (ow:Own),ow.heap→g'.ow b=some ow→g2.ow b=some ow)∧Chg (fun b=>∃ow,g1.ow b=some ow∧ow.seen l) g1 w g2 w':=by
  intro g' w' hch
  have hnB:∀b,(g1.maskV l).ow b≠none↔∃ow,g1.ow b=some ow∧ow.seen l:=by
   intro b
   constructor
   ·intro h
    cases e:(g1.maskV l).ow b with
    | none=>exact absurd e h
    | some ow=>exact ⟨ow,maskV_ow.1 e⟩
   ·rintro ⟨ow,h⟩ h2
    rw [maskV_ow.2 h] at h2
    cases h2
  let g2:Gh := { g' with ow:=fun b=>match g1.ow b with
   | some ow=>if ow.seen l then g'.ow b else (if b<w.heap.size then some ow else g'.ow b)
   | none=>g'.ow b }
  have how2:∀b (ow:Own),ow.heap→g'.ow b=some ow→g2.ow b=some ow:=by
   intro b ow hh hb
   show (match g1.ow b with
    | some ow=>if ow.seen l then g'.ow b else (if b<w.heap.size then some ow else g'.ow b)
    | none=>g'.ow b)=some ow
   split
   ·rename_i ow1 e1
    split
    ·exact hb
    ·rename_i hnh
     split
     ·rename_i hlt
      have:(g1.maskV l).ow b=none:=by
       cases e:(g1.maskV l).ow b with
       | none=>rfl
       | some ow3=>
        obtain ⟨e3,e4⟩:=maskV_ow.1 e
        rw [e1] at e3
        cases e3
        exact absurd e4 hnh
      have h3:=hch.ow b hlt (fun x=>x this)
      rw [this,hb] at h3
      cases h3
     ·exact hb
   ·exact hb
  have hch2:Chg (fun b=>∃ow,g1.ow b=some ow∧ow.seen l) g1 w g2 w':=by
   refine ⟨⟨hch.later.n,hch.later.ix,hch.later.st,hch.later.cell,hch.later.nf⟩,hch.size,fun b hb hn=>hch.blk b hb (fun x=>hn ((hnB b).1 x)),fun b hb hn => ?_,fun b i hb hn h=>hch.st b i hb (fun x=>hn ((hnB b).1 x)) h,hch.os,hch.tape,hch.out⟩
   show (match g1.ow b with
    | some ow=>if ow.seen l then g'.ow b else (if b<w.heap.size then some ow else g'.ow b)
    | none=>g'.ow b)=g1.ow b
   split
   ·rename_i ow1 e1
    rw [if_neg (fun hh=>hn ⟨ow1,e1,hh⟩),if_pos hb,e1]
   ·rename_i e1
    have:(g1.maskV l).ow b=none:=by simp [Gh.maskV,e1]
    have h3:=hch.ow b hb (fun x=>x this)
    rw [h3,this,e1]
  exact ⟨g2,rfl,rfl,rfl,how2,hch2⟩
 have back:∀(g':Gh) (w':World) (h2:List HO),Chg (fun b=>(g1.maskV l).ow b≠none) (g1.maskV l) w g' w'→HeapR g' w' h2→Wf g' w'→h2.length=s.h.length→∀s2:St,s2=Upd.on { dst:=none,locs:=us,dl:=l.map fun i=>(i,h2.getD i .no) } none s →
   ∃g2,g2.n=g'.n∧g2.ix=g'.ix∧g2.st=g'.st∧Core g2 w' f s2∧Stp g1 w f (s.withLocs us) g2 w' f s2:=by
  intro g' w' h2 hch hheap hwf hl2 s2 hs2
  obtain ⟨g2,z1,z2,z3,how2,hch2⟩:=back0 g' w' hch
  have hn2:g2.n=g1.n:=by
   rw [z1,←hheap.len,hl2,hc.heap.len.symm]
   rfl
  have hloc:s2.loc=(s.withLocs us).loc:=by rw [hs2];rfl
  have hh2:s2.h=setH s.h (l.map fun i=>(i,h2.getD i .no)):=by rw [hs2];rfl
  have hget:∀i,i<s.h.length→s2.h[i]? = if i∈l then some (h2.getD i .no) else s.h[i]? := fun i hi=>by rw [hh2];exact setH_get _ l s.h i hi
  have hlen2:s2.h.length=s.h.length:=by rw [hh2,setH_length]
  have hgd:∀i x,i<s.h.length→h2.getD i .no=x→h2[i]? = some x:=by
   intro i x hi e
   rw [List.getD_eq_getElem?_getD,List.getElem?_eq_getElem (by omega)] at e
   rw [List.getElem?_eq_getElem (by omega)]
   exact congrArg some e
  have hgn:s.h.length=g1.n:=hc.heap.len
  refine ⟨g2,z1,z2,z3,⟨⟨by rw [hlen2,hn2,hgn],fun id hid=>by rw [Gh.io_of z2];exact hheap.lt id (by omega),fun id cs hx => ?_,fun id es hx => ?_,fun id t9 n9 xs9 hx => ?_⟩,fun k => ?_,fun b i hx=>hwf b i (by rw [←z3];exact hx)⟩,⟨hch2.mono fun b _ e=>by obtain ⟨ow,e,_⟩:=e;rw [e];simp,fun k => ?_,fun id => ?_⟩⟩
  ·have hid:id<s.h.length:=by rw [←hlen2];exact (List.getElem?_eq_some_iff.1 hx).1
   rw [hget id hid] at hx
   split at hx
   ·simp only [Option.some.injEq] at hx
    exact Gh.io_of z2 id▸(hheap.obj id cs (hgd id _ hid hx)).reown (g':=g2) z1 z2 z3 (fun b=>how2 b _ trivial) (fun i b=>how2 b _ trivial)
   ·rename_i hni
    have:=(hc.heap.obj id cs hx).chgO hch2 (by rintro b ⟨ow,e,hh⟩ e2;rw [e] at e2;cases e2;exact hni hh.2) (by rintro i b ⟨ow,e,hh⟩ e2;rw [e] at e2;cases e2;exact hni hh.2)
    rw [show g2.io id=g1.io id from hch2.later.io id (by omega)]
    exact this
  ·have hid:id<s.h.length:=by rw [←hlen2];exact (List.getElem?_eq_some_iff.1 hx).1
   rw [hget id hid] at hx
   split at hx
   ·simp only [Option.some.injEq] at hx
    exact Gh.io_of z2 id▸(hheap.map id es (hgd id _ hid hx)).reown (g':=g2) z1 z2 z3 (fun b=>how2 b _ trivial)
   ·rename_i hni
    have:=(hc.heap.map id es hx).chgO hch2 (by rintro b ⟨ow,e,hh⟩ e2;rw [e] at e2;cases e2;exact hni hh.2)
    rw [show g2.io id=g1.io id from hch2.later.io id (by omega)]
    exact this
  ·have hid:id<s.h.length:=by rw [←hlen2];exact (List.getElem?_eq_some_iff.1 hx).1
   rw [hget id hid] at hx
   split at hx
   ·simp only [Option.some.injEq] at hx
    have har:=hheap.arr id t9 n9 xs9 (hgd id _ hid hx)
    rw [Gh.io_of z2,Gh.hdr_of z2]
    exact ⟨har.sr.reown (g':=g2) z1 z2 z3 (fun b=>how2 b _ trivial),har.bl⟩
   ·rename_i hni
    have:=(hc.heap.arr id t9 n9 xs9 hx).chgO hch2 (by rintro b ⟨ow,e,hh⟩ e2;rw [e] at e2;cases e2;exact hni hh.2)
    rw [show g2.io id=g1.io id from hch2.later.io id (by omega),show g2.hdr id=g1.hdr id from hch2.later.hdr id (by omega)]
    exact this
  ·rw [hloc]
   refine (hc.loc k).chg hch2 ?_
   rintro b ⟨ow,e,hh⟩ ow2 ho2 e2
   rw [e] at e2
   cases e2
   have:=hh.1
   cases ow<;>simp [Own.heap,Own.site] at this ho2
  ·refine SiteStp.same (by rw [hloc]) rfl rfl fun mm cs hb j => ?_
   have hl:=hc.loc k
   unfold LR at hl
   rw [hb] at hl
   have:=hch2.blk _ hl.lt (by rintro ⟨ow,e,hh⟩;rw [hl.ow] at e;cases e;exact hh.1)
   simp only [World.cell?,this]
  ·have hhv:s2.hv id=if id∈l then s.hv id+1 else s.hv id:=by
    rw [hs2]
    have e:∀u:Upd,(Upd.on u none s).hv=u.hvOf s.hv:=fun _=>rfl
    rw [e,hvOf_eq rfl]
    simp
   by_cases hi:id∈l
   ·rw [if_pos hi] at hhv
    exact .inl (by rw [hhv];exact Nat.lt_succ_self _)
   ·rw [if_neg hi] at hhv
    refine .inr ⟨hhv,fun cs hid => ?_⟩
    have hid':s.h[id]? = some (.cells cs):=hid
    have hlt:=(List.getElem?_eq_some_iff.1 hid').1
    refine ⟨by rw [hget id hlt,if_neg hi];exact hid',fun i => ?_⟩
    have hb:=hc.heap.obj id cs hid
    have:=hch2.blk _ hb.lt (by rintro ⟨ow,e,hh⟩;rw [hb.ow] at e;cases e;exact hi hh.2)
    simp only [World.cell?,this]
 refine wp_enter (run_call hcb hr) (hcalls.mono fun e w' hpost => ?_)
 cases e with
 | outgrown=>exact hpost.elim
 | returned u=>
  obtain ⟨v,h2,g',e1,hch,hheap,hval,hwf⟩:=hpost
  rw [e1] at h'
  have h'':chk (Nat.beq h2.length s.h.length) (K { dst:=some (.v v),locs:=us,dl:=l.map fun i=>(i,h2.getD i .no) })=R:=h'
  obtain ⟨hb,hk⟩:=chk_inv h'' hR
  obtain ⟨g2,b1,b2,b3,d1,d2⟩:=back g' w' h2 hch hheap hwf (Nat.eq_of_beq_eq_true hb) _ rfl
  have hval2:V g2 w' v u:=V.later (Later.sameV w' b1 b2 b3) v u hval
  exact hn _ _ _ f _ hk (r.upd (u := { dst:=some (.v v),locs:=us,dl:=l.map fun i=>(i,h2.getD i .no) }) hd rfl d1 (hst.trans hlen d2) hval2)
 | panicked chain=>
  obtain ⟨v,h2,u,g',e1,e2,hch,hheap,hval,hwf⟩:=hpost
  rw [e1] at h'
  subst e2
  obtain ⟨g2,z1,z2,z3,how2,hch2⟩:=back0 g' w' hch
  have hval2:V g2 w' v u:=V.later (Later.sameV w' z1 z2 z3) v u hval
  have hwf2:Wf g2 w':=fun b i hx=>hwf b i (by rw [←z3];exact hx)
  have hch3:=hst.chg.trans (hch2.mono (B':=fun b=>g1.ow b≠none) fun b _ e=>by obtain ⟨ow,e,_⟩:=e;rw [e];simp) fun b hb hB hn=>hB ((hst.chg.ow b hb (fun x=>x hn)).trans hn)
  exact hpan v h2 u _ w' h'.symm (r.ext.trans hch3 fun b hb hB hn=>hB ((r.ext.ow b hb (fun x=>x hn)).trans hn)) (hheap.reown z1 z2 z3 how2) hval2 hwf2
theorem OpS.callP (hC:OkC C) (r:Rel C nt g0 w0 g w f s a) (hd:∀x,o.dst=some x→nt.ok x) (hR:R ≠ .stuck) {fid:FuncId} (hG:Sound C fid (G fid)) (hp:C.pure fid=true)
  {as:List AV} {vals:List Value} {us:List (Nat×LOv)} {g1:Gh} (hf:FrzL s.loc us) (hc:Core g1 w f (s.withLocs us)) (hst:Stp g w f s g1 w f (s.withLocs us)) (hv:VT g1 w as vals)
  (hr:Resolves a o C.P fid vals)
  {vis:Option (List Nat)} (h:callK (stdAlg C.pure G) C o.dst (s.loc (o.dst.getD 0)) o.type fid as us vis s.h K=R):OpS C nt g0 w0 s a w o K R:=by
 intro next Q hn hpan
 have hlen:=r.core.heap.len
 unfold callK at h
 rw [if_pos hp] at h
 have h':pcall (G fid) as s.h (fun v=>match C.fresh fid with
   | some e=>(match o.dst with
    | some d=>if byteT C.P e then mY v fun sb=>K { dst:=some (.ls d ((s.loc (o.dst.getD 0)).ver+1)),locs:=(d,⟨(s.loc (o.dst.getD 0)).ver+1, .arr (.y e sb) true⟩)::us }
      else mL (szT C.P e) v fun xs=>K { dst:=some (.ls d ((s.loc (o.dst.getD 0)).ver+1)),locs:=(d,⟨(s.loc (o.dst.getD 0)).ver+1, .arr (.e e (szT C.P e) xs) true⟩)::us }
    | none => .stuck)
   | none=>K { dst:=some (.v v),locs:=us })=R:=h
 unfold pcall at h'
 split at h'
 case h_2=>exact absurd h'.symm hR
 rename_i hnp
 have hcl:Cells g1 w g1.bare w:=⟨fun _ _ h=>h,fun _ _ _=>rfl,fun _ _ _ _ _ h=>h⟩
 have hvb:VT g1.bare w as vals:=VT.noP hcl as vals hnp hv
 have hgl:GlobR C g1.bare w:=fun gi cs hg=>
  GV.noP hcl gi cs (hC.glob gi cs hg) (GV.later hst.chg.later gi cs (r.glob gi cs hg))
 have hS:SoundP C fid (G fid):=by
  unfold Sound at hG
  rw [if_pos hp] at hG
  exact hG.1
 cases hres:G fid as [] with
 | stuck=>rw [hres] at h';exact absurd h'.symm hR
 | upd u=>rw [hres] at h';exact absurd h'.symm hR
 | ret v hh=>
  rw [hres] at h'
  simp only at h'
  split at h'
  case h_2=>exact absurd h'.symm hR
  rename_i hnv
  obtain ⟨hcb,hcalls⟩:=hS g1.bare w as vals _ hres (by simp) hnp rfl hvb hc.wf hgl (fun _=>rfl)
  refine wp_enter (run_call hcb hr) (hcalls.mono fun e w' hpost => ?_)
  cases e with
  | outgrown=>exact hpost.elim
  | panicked chain=>obtain ⟨_,_,_,_,e1,_⟩:=hpost;cases e1
  | returned u=>
   obtain ⟨v',h1,g',e1,hch,hwf,hval⟩:=hpost
   cases e1
   cases hfr:C.fresh fid with
   | some e=>
    rw [hfr] at h' hval
    obtain ⟨cc,ow,hvc,hel,hsr,hnew⟩:=hval
    cases hdst:o.dst with
    | none=>rw [hdst] at h';exact absurd h'.symm hR
    | some d=>
     rw [hdst] at h'
     simp only [Option.getD_some] at h'
     obtain ⟨g2,hch2,hwf2,hsr2,hn2⟩:∃g2,Chg (fun _=>False) g1 w g2 w'∧Wf g2 w'∧SR g2 w' (.arr d) cc true u∧g2.n=g1.n:=by
      refine ⟨g1.back g' w.heap.size (fun b=>if u.ownBlock=some b then some (.arr d) else none),back_chg hch _,hwf,?_,rfl⟩
      obtain ⟨vals',q1,q2,q3,q4⟩:=SR_iff.1 hsr
      refine SR_iff.2 ⟨vals',q1,q2,noP_SC cc (by rw [←hvc];exact hnv) _ _ _ q3 _ _ ⟨fun _ _ h=>h,fun _ _ _=>rfl,fun _ _ _ _ _ h=>h⟩,fun b hb => ?_⟩
      refine ⟨?_,fun i=>(q4 b hb).2 i⟩
      have:=hnew b hb
      simp only [Gh.back]
      rw [if_neg (by omega),if_pos hb]
     have hver:=withLocs_ver hf d
     obtain ⟨d1,d2,d3⟩:=hc.newSlice d ((s.loc d).ver+1) (by rw [hver];exact Nat.lt_succ_self _) (hch2.mono (B':=fun b=>g1.ow b=some (.arr d)) fun _ _ h=>h.elim) hn2 hwf2 hsr2
     have fin:K { dst:=some (.ls d ((s.loc d).ver+1)),locs:=(d,⟨(s.loc d).ver+1, .arr cc true⟩)::us } = R→next (a.put (some d) u) w':=by
      intro hk
      rw [←withLocs_cons] at d1 d2 d3
      have hrel:=r.to (hst.trans hlen d2) d1 rfl hd d3
      rw [hdst] at hrel
      refine hn _ g2 w' (f.setHd d u) _ hk ?_
      rw [hdst]
      simp only [Upd.on,Option.getD_some,St.put] at hrel ⊢
      exact hrel
     split at h'
     ·obtain ⟨sb,hsb,hk⟩:=mY_inv h' hR
      rw [hsb] at hvc
      cases cc with
      | e t n xs=>simp [SC.toAV] at hvc
      | y t sb'=>
       simp only [SC.toAV,AV.Y.injEq] at hvc
       simp only [SC.elem] at hel
       subst hvc
       subst hel
       exact fin hk
     ·obtain ⟨xs,hsb,hk⟩:=mL_inv h' hR
      rw [hsb] at hvc
      cases cc with
      | y t sb'=>simp [SC.toAV] at hvc
      | e t n xs'=>
       simp only [SC.toAV,AV.L.injEq] at hvc
       simp only [SC.elem] at hel
       obtain ⟨e1,e2⟩:=hvc
       subst hel
       rw [e1,e2] at hk
       exact fin hk
   | none=>
    rw [hfr] at h' hval
    have hch2:=back_chg hch (fun _=>none)
    obtain ⟨d1,d2⟩:=hc.quiet hch2 rfl hwf
    have hval2:V (g1.back g' w.heap.size fun _=>none) w' v u:=
     have hcl2:Cells g' w' (g1.back g' w.heap.size fun _=>none) w':=⟨fun _ _ h=>h,fun _ _ _=>rfl,fun _ _ _ _ _ h=>h⟩
     V.noP hcl2 v u hnv hval
    exact hn _ _ _ f _ h' (r.upd (u := { dst:=some (.v v),locs:=us }) hd rfl d1 (hst.trans hlen d2) hval2)
 | pan v hh=>
  rw [hres] at h'
  simp only at h'
  split at h'
  case h_2=>exact absurd h'.symm hR
  rename_i hnv
  obtain ⟨hcb,hcalls⟩:=hS g1.bare w as vals _ hres (by simp) hnp rfl hvb hc.wf hgl (fun _=>rfl)
  refine wp_enter (run_call hcb hr) (hcalls.mono fun e w' hpost => ?_)
  cases e with
  | outgrown=>exact hpost.elim
  | returned u=>obtain ⟨_,_,_,e1,_⟩:=hpost;cases e1
  | panicked chain=>
   obtain ⟨v',h1,u,g',e1,e2,hch,hval,hwf⟩:=hpost
   cases e1
   subst e2
   have hch2:=back_chg hch (fun _=>none)
   obtain ⟨d1,d2⟩:=hc.quiet hch2 rfl hwf
   have hval2:V (g1.back g' w.heap.size fun _=>none) w' v u:=
     have hcl2:Cells g' w' (g1.back g' w.heap.size fun _=>none) w':=⟨fun _ _ h=>h,fun _ _ _=>rfl,fun _ _ _ _ _ h=>h⟩
     V.noP hcl2 v u hnv hval
   have hs2:=hst.trans hlen d2
   exact hpan v s.h u _ w' h'.symm (r.ext.trans hs2.chg fun b hb hB hn=>hB ((r.ext.ow b hb (fun x=>x hn)).trans hn)) d1.heap hval2 d1.wf
end
end Go.Vm
namespace Go.Vm
open Go
section
variable {C:Cx} {N:Ann} {nt:NT} {g0 g:Gh} {w0 w:World} {f:Fr} {s:St} {a:Act} {o:Oper}
variable {K:Upd→Res} {R:Res} {G:FuncId→List AV→List HO→Res}
def Gh.alone (g:Gh) (k:Nat) (u:Value):Gh := { g with n:=0,ow:=fun b=>if u.ownBlock=some b then some (.arr k) else none }
def Gh.backE (g g':Gh) (sz k:Nat) (u:Value):Gh := { g with st:=g'.st,ow:=fun b=>if b<sz then g.ow b else if u.ownBlock=some b then some (.arr k) else none }
theorem withLocs_twice (s:St) (k:Nat) (x y:LOv):(s.withLocs [(k,x)]).withLocs [(k,y)]=s.withLocs [(k,y)]:=by
 have:setLocs (setLocs s.loc [(k,x)]) [(k,y)]=setLocs s.loc [(k,y)]:=by
  funext i
  rw [setLocs_one,setLocs_one,setLocs_one]
  split<;>rfl
 simp only [St.withLocs,this]
theorem OpS.callE (hC:OkC C) (r:Rel C nt g0 w0 g w f s a) (hd:∀x,o.dst=some x→nt.ok x) (hR:R ≠ .stuck) {fid:FuncId} {e:TypeId} (hG:Sound C fid (G fid)) (he:C.eats fid=some e)
  {x:Operand} {vals:List Value} {as:List AV} {us:List (Nat×LOv)} {g1:Gh} (hf:FrzL s.loc us) (hc:Core g1 w f (s.withLocs us)) (hst:Stp g w f s g1 w f (s.withLocs us)) (hv:VT g1 w as vals)
  (hr:Resolves a o C.P fid (a.eval x::vals))
  (h:eatK (stdAlg C.pure G) C o.dst (s.loc (o.dst.getD 0)) fid e (evO C s x) (loO s (evO C s x)) as us K=R):OpS C nt g0 w0 s a w o K R:=by
 have hlen:=r.core.heap.len
 have key:∀(k ver:Nat) (c:SC) (us2:List (Nat×LOv)) (g2:Gh),Core g2 w f (s.withLocs us2)→Stp g w f s g2 w f (s.withLocs us2)→VT g2 w as vals→SR g2 w (.arr k) c false (a.eval x)→((s.withLocs us2).loc k).ver<ver →
   (∀y,(s.withLocs us2).withLocs [(k,y)]=(s.withLocs us).withLocs [(k,y)]) →
   (if (us.any fun p=>p.1 == k) then (stdAlg C.pure G).stuck else
    if C.pure fid=true∧c.elem=e∧c.width=szT C.P e∧szT C.P e≠0∧c.isY=byteT C.P e then (stdAlg C.pure G).ecall fid (c.toAV::as) fun v=>match c with
     | .y t _=>(stdAlg C.pure G).mY v fun sb=>K { dst:=some (.ls k ver),locs:=(k,⟨ver, .arr (.y t sb) false⟩)::us }
     | .e t n _=>(stdAlg C.pure G).mL n v fun xs=>K { dst:=some (.ls k ver),locs:=(k,⟨ver, .arr (.e t n xs) false⟩)::us }
    else (stdAlg C.pure G).stuck)=R→OpS C nt g0 w0 s a w o K R:=by
  intro k ver c us2 g2 hc2 hst2 hv2 hsr hver heq h next Q hn hpan
  split at h
  ·exact absurd h.symm hR
  split at h
  case isFalse=>exact absurd h.symm hR
  rename_i hcond
  obtain ⟨hp,hel,hw,hz,hbt⟩:=hcond
  have h':ecall (G fid) (c.toAV::as) _=R:=h
  unfold ecall at h'
  split at h'
  case h_2=>exact absurd h'.symm hR
  rename_i hnp
  cases hres:G fid (c.toAV::as) [.no] with
  | stuck=>rw [hres] at h';exact absurd h'.symm hR
  | upd u=>rw [hres] at h';exact absurd h'.symm hR
  | pan v hh=>rw [hres] at h';exact absurd h'.symm hR
  | ret v hh=>
   rw [hres] at h'
   simp only at h'
   split at h'
   case h_2=>exact absurd h'.symm hR
   rename_i hnv
   have hS:SoundE C fid (G fid):=by
    unfold Sound at hG
    rw [if_pos hp] at hG
    exact hG.2
   obtain ⟨k0,hS⟩:=hS e he
   have hnp':=hnp
   simp only [noPs,Bool.and_eq_true] at hnp'
   have hcl:Cells g2 w (g2.alone k0 (a.eval x)) w:=⟨fun _ _ h=>h,fun _ _ _=>rfl,fun _ _ _ _ _ h=>h⟩
   have hsrA:SR (g2.alone k0 (a.eval x)) w (.arr k0) c false (a.eval x):=by
    obtain ⟨vals',q1,q2,q3,q4⟩:=SR_iff.1 hsr
    refine SR_iff.2 ⟨vals',q1,q2,noP_SC c hnp'.1 _ _ _ q3 _ _ hcl,fun b hb=>⟨by simp only [Gh.alone];rw [if_pos hb],(q4 b hb).2⟩⟩
   obtain ⟨hcb,hcalls⟩:=hS (g2.alone k0 (a.eval x)) w c as (a.eval x) vals v hh hres hnp rfl hel hw hbt hsrA (VT.noP hcl as vals hnp'.2 hv2) hc2.wf
    (fun gi cs hg=>GV.noP hcl gi cs (hC.glob gi cs hg) (GV.later hst2.chg.later gi cs (r.glob gi cs hg)))
    (fun b ow hb=>by
     simp only [Gh.alone] at hb
     split at hb
     ·rename_i hb';exact hb'
     ·cases hb)
   refine wp_enter (run_call hcb hr) (hcalls.mono fun en w' hpost => ?_)
   cases en with
   | outgrown=>exact hpost.elim
   | panicked chain=>exact hpost.elim
   | returned u=>
    obtain ⟨g',hch,hwf,cc,ow,hvc,hcel,hsr',hnew⟩:=hpost
    have halone:∀b,(g2.alone k0 (a.eval x)).ow b≠none→g2.ow b=some (.arr k):=by
     intro b hb
     simp only [Gh.alone] at hb
     split at hb
     ·rename_i hb';exact (SR.owner hsr hb').1
     ·exact absurd rfl hb
    have hch3:Chg (fun b=>g2.ow b=some (.arr k)) g2 w (g2.backE g' w.heap.size k u) w':=by
     refine ⟨⟨Nat.le_refl _,fun _ _=>rfl,hch.later.st,hch.later.cell,hch.later.nf⟩,hch.size,fun b hb hn=>hch.blk b hb fun hx=>hn (halone b hx),fun b hb hn => ?_,fun b i hb hn hx=>hch.st b i hb (fun hx=>hn (halone b hx)) hx,hch.os,hch.tape,hch.out⟩
     simp only [Gh.backE];rw [if_pos hb]
    have hsr3:SR (g2.backE g' w.heap.size k u) w' (.arr k) cc false u:=by
     obtain ⟨vals',q1,q2,q3,q4⟩:=SR_iff.1 hsr'
     refine SR_iff.2 ⟨vals',q1,q2,noP_SC cc (by rw [←hvc];exact hnv) _ _ _ q3 _ _ ⟨fun _ _ h=>h,fun _ _ _=>rfl,fun _ _ _ _ _ h=>h⟩,fun b hb=>⟨?_,(q4 b hb).2⟩⟩
     simp only [Gh.backE]
     split
     ·rename_i hlt
      rcases hnew b hb with h1 | h1
      ·omega
      ·exact halone b h1
     ·simp [hb]
    obtain ⟨d1,d2,d3⟩:=hc2.newSlice k ver hver hch3 rfl hwf hsr3
    have fin:K { dst:=some (.ls k ver),locs:=(k,⟨ver, .arr cc false⟩)::us } = R→next (a.put o.dst u) w':=by
     intro hk
     rw [heq] at d1 d2 d3
     rw [←withLocs_cons] at d1 d2 d3
     have hrel:=r.to (hst2.trans hlen d2) d1 rfl hd d3
     refine hn _ (g2.backE g' w.heap.size k u) w' (f.setHd k u) _ hk ?_
     cases hdst:o.dst<;>simp only [hdst,Upd.on,Option.getD_some,St.put] at hrel ⊢ <;> exact hrel
    cases c with
    | y t sb0=>
     simp only at h'
     obtain ⟨sb,hsb,hk⟩:=mY_inv h' hR
     rw [hsb] at hvc
     cases cc with
     | e t n xs=>simp [SC.toAV] at hvc
     | y t' sb'=>
      simp only [SC.toAV,AV.Y.injEq] at hvc
      simp only [SC.elem] at hcel hel
      subst hvc
      rw [hcel,←hel] at fin
      exact fin hk
    | e t n xs0=>
     simp only at h'
     obtain ⟨xs,hsb,hk⟩:=mL_inv h' hR
     rw [hsb] at hvc
     cases cc with
     | y t' sb'=>simp [SC.toAV] at hvc
     | e t' n' xs'=>
      simp only [SC.toAV,AV.L.injEq] at hvc
      simp only [SC.elem] at hcel hel
      obtain ⟨e1,e2⟩:=hvc
      subst e1
      subst e2
      rw [hcel,←hel] at fin
      exact fin hk
 unfold eatK at h
 have hve:=r.ev x
 split at h
 ·
  rename_i q1 ex
  cases hdst:o.dst with
  | none=>rw [hdst] at h;exact absurd h.symm hR
  | some d=>
   rw [hdst] at h
   simp only [Option.getD_some] at h
   rw [ex] at hve
   have hu:a.eval x = .slice none 0 0:=hve
   have hz:szT C.P e≠0∨byteT C.P e=true:=by
    left
    intro hz
    split at h
    ·exact hR h.symm
    ·split at h
     ·rename_i hcond;exact hcond.2.2.2.1 hz
     ·exact hR h.symm
   have hem:=emptySC_ok (P:=C.P) (e:=e) (by
    rcases hz with hz | hz
    ·simp;exact .inr (Nat.pos_of_ne_zero hz)
    ·simp [hz])
   refine key d ((s.loc d).ver+1) (emptySC C.P e) us g1 hc hst hv (by rw [hu];exact SR_empty _ _ hem.1 hem.2) (by rw [withLocs_ver hf d];exact Nat.lt_succ_self _) (fun _=>rfl) h
 ·
  rename_i k ver ex
  rw [ex] at h hve
  simp only [loO,EV.site] at h
  cases hl:s.loc k with
  | mk ver' lo=>
   rw [hl] at h
   cases lo with
   | no=>exact absurd h.symm hR
   | box m cs=>exact absurd h.symm hR
   | arr c exx=>
    simp only at h
    split at h
    case isFalse=>exact absurd h.symm hR
    rename_i hvv
    subst hvv
    have hnk:k ∉ us.map (·.1):=by
     intro hm
     split at h
     ·exact hR h.symm
     ·rename_i hany
      apply hany
      obtain ⟨p,hp,hpk⟩:=List.mem_map.1 hm
      exact List.any_eq_true.2 ⟨p,hp,by simp [hpk]⟩
    have hu:a.eval x=f.hd k:=hve.2 (by rw [hl]) c exx (by rw [hl])
    have hlk:(s.withLocs us).loc k=⟨ver, .arr c exx⟩:=by
     show setLocs s.loc us k=_
     rw [setLocs_frz hf,if_neg hnk,hl]
    have hl0:=hc.loc k
    unfold LR at hl0
    rw [hlk] at hl0
    cases exx with
    | false=>exact key k (ver+1) c us g1 hc hst hv (by rw [hu];exact hl0) (by rw [hlk];exact Nat.lt_succ_self _) (fun _=>rfl) h
    | true=>
     obtain ⟨g2,z0,c2,s2,v2⟩:=hc.freeze hf hl
     have hlk2:(s.withLocs ((k,⟨ver, .arr c false⟩)::us)).loc k=⟨ver, .arr c false⟩:=by simp [St.withLocs,setLocs]
     have hl2:=c2.loc k
     unfold LR at hl2
     rw [hlk2] at hl2
     exact key k (ver+1) c ((k,⟨ver, .arr c false⟩)::us) g2 c2 (hst.trans hlen s2) (VT.later s2.chg.later _ _ hv) (by rw [hu];exact hl2) (by rw [hlk2];exact Nat.lt_succ_self _) (fun y=>by rw [withLocs_cons s k ⟨ver, .arr c false⟩ us,withLocs_twice]) h
 ·exact absurd h.symm hR
end
end Go.Vm
namespace Go.Vm
open Go
section
variable {P:Program} {w:World}
theorem check_leaf {t:TypeId} (h:simpleT P t=true) (em:Bool) (n:Nat) (v:Value):(Instr.checkKey em (n+1) t v).run P w = .ok () w:=by
 unfold simpleT at h
 split at h
 ·rename_i k e
  have hu:=und_some e (by simp)
  simp [Instr.checkKey,run_underlying hu]
 ·rename_i e
  have hu:=und_some e (by simp)
  simp [Instr.checkKey,run_underlying hu]
 ·rename_i e
  have hu:=und_some e (by simp)
  simp [Instr.checkKey,run_underlying hu]
 ·cases h
theorem simpleT_one {t:TypeId} (h:simpleT P t=true):aggT P t=false:=by
 unfold simpleT at h
 unfold aggT
 split at h<;>rename_i e<;>first | (rw [e]) | cases h
theorem check_simple1 {kt:TypeId} (h:simple1 P kt=true) (em:Bool) (n:Nat) (us:List Value) (hl:us.length=szT P kt):(Instr.checkKey em (n+2) kt (.agg us.toArray)).run P w = .ok () w:=by
 unfold simple1 at h
 split at h
 ·rename_i fs e
  have hu:=und_some e (by simp)
  have hf:∀f∈fs.toList,simpleT P f.type=true∧okT P f.type=true∧f.offset<us.length:=by
   intro f hm
   have:=List.all_eq_true.1 h f hm
   simp only [Bool.and_eq_true,decide_eq_true_eq] at this
   exact ⟨this.1.1,this.1.2,by omega⟩
  rw [Instr.checkKey]
  simp only [Sem.run_bind,run_underlying hu,Result.andThen_ok]
  rw [←Array.forIn_toList]
  generalize fs.toList=L at hf
  induction L with
  | nil=>simp
  | cons f L ih=>
   obtain ⟨h1,h2,h3⟩:=hf f (by simp)
   have hp:=run_part_one (P:=P) h2 (simpleT_one h1) w us f.offset (List.getElem?_eq_getElem h3)
   have ih:=ih (fun f hf'=>hf f (by simp [hf']))
   rw [List.forIn_cons]
   by_cases hn:f.name = "_"
   ·simp only [hn,ne_eq,not_true_eq_false,if_false,Sem.run_bind,Sem.run_pure,Result.andThen_ok]
    exact ih
   ·simp only [hn,ne_eq,not_false_eq_true,if_true,Sem.run_bind,Sem.run_pure,Result.andThen_ok,hp,check_leaf h1]
    exact ih
 ·cases h
theorem simple1_agg {t:TypeId} (h:simple1 P t=true):aggT P t=true:=by
 unfold simple1 at h
 unfold aggT
 split at h
 ·rename_i e;rw [e]
 ·cases h
theorem check_simple {kt:TypeId} (h:simpleK P kt=true) (em:Bool) (n:Nat) (us:List Value) (hl:us.length=szT P kt):(Instr.checkKey em (n+3) kt (.agg us.toArray)).run P w = .ok () w:=by
 unfold simpleK at h
 split at h
 ·rename_i fs e
  have hu:=und_some e (by simp)
  have hf:∀f∈fs.toList,okT P f.type=true∧f.offset<us.length∧(simpleT P f.type=true∨(simple1 P f.type=true∧f.offset+szT P f.type≤us.length)):=by
   intro f hm
   have:=List.all_eq_true.1 h f hm
   simp only [Bool.and_eq_true,Bool.or_eq_true,decide_eq_true_eq] at this
   refine ⟨this.1.1,by omega,this.2.imp id fun k=>⟨k.1,by omega⟩⟩
  rw [Instr.checkKey]
  simp only [Sem.run_bind,run_underlying hu,Result.andThen_ok]
  rw [←Array.forIn_toList]
  generalize fs.toList=L at hf
  induction L with
  | nil=>simp
  | cons f L ih=>
   obtain ⟨h1,h2,h3⟩:=hf f (by simp)
   have ih:=ih (fun f hf'=>hf f (by simp [hf']))
   rw [List.forIn_cons]
   by_cases hn:f.name = "_"
   ·simp only [hn,ne_eq,not_true_eq_false,if_false,Sem.run_bind,Sem.run_pure,Result.andThen_ok]
    exact ih
   ·rcases h3 with h3 | ⟨h3,h4⟩
    ·have hp:=run_part_one (P:=P) h1 (simpleT_one h3) w us f.offset (List.getElem?_eq_getElem h2)
     simp only [hn,ne_eq,not_false_eq_true,if_true,Sem.run_bind,Sem.run_pure,Result.andThen_ok,hp,check_leaf h3]
     exact ih
    ·have hp:=run_part_agg (P:=P) h1 (simple1_agg h3) w us f.offset
     have hc:=check_simple1 (w:=w) h3 em n ((us.drop f.offset).take (szT P f.type)) (by rw [List.length_take,List.length_drop];omega)
     simp only [hn,ne_eq,not_false_eq_true,if_true,Sem.run_bind,Sem.run_pure,Result.andThen_ok,hp,hc]
     exact ih
 ·cases h
end
section
variable {P:Program} {g:Gh} {w:World}
theorem ba_refl (b:ByteArray):(b == b)=true:=by
 cases b with
 | mk d=>
  show ByteArray.beq ⟨d⟩ ⟨d⟩=true
  unfold ByteArray.beq
  simp
theorem eqCells_val:∀(ks:List FK) (as bs:List AV) (us vs:List Value),VS g w as us→VS g w bs vs→eqCells ks as bs=some true→us=vs∧as=bs∧∀n,(us.zip us).all (fun (x,y)=>Instr.sameBits n x y)=true
 | [],[],[],us,vs,h1,h2,_=>by simp only [VS] at h1 h2;subst h1;subst h2;exact ⟨rfl,rfl,fun _=>rfl⟩
 | k::ks,a::as,b::bs,us,vs,h1,h2,he=>by
  simp only [VS] at h1 h2
  obtain ⟨u,us,rfl,hu,_,h1⟩:=h1
  obtain ⟨v,vs,rfl,hv,_,h2⟩:=h2
  cases k<;>cases a<;>(try (simp [eqCells] at he;done))<;>cases b<;>(try (simp [eqCells] at he;done))
  ·simp only [eqCells] at he
   split at he
   ·rename_i hk
    subst hk
    simp only [Option.map_eq_some_iff,Bool.and_eq_true,beq_iff_eq] at he
    obtain ⟨r,hr,hm,rfl⟩:=he
    subst hm
    obtain ⟨e1,e2,e3⟩:=eqCells_val ks as bs us vs h1 h2 hr
    have q1:=(V_I' hu).1
    have q2:=(V_I' hv).1
    subst q1;subst q2
    exact ⟨by rw [e1],by rw [e2],fun n=>by simp only [List.zip_cons_cons,List.all_cons,e3 n,Bool.and_true];cases n<;>simp [Instr.sameBits]⟩
   ·cases he
  ·simp only [eqCells,Option.map_eq_some_iff,Bool.and_eq_true,beq_iff_eq] at he
   obtain ⟨r,hr,hm,rfl⟩:=he
   subst hm
   obtain ⟨e1,e2,e3⟩:=eqCells_val ks as bs us vs h1 h2 hr
   have q1:=V_B' hu
   have q2:=V_B' hv
   subst q1;subst q2
   exact ⟨by rw [e1],by rw [e2],fun n=>by simp only [List.zip_cons_cons,List.all_cons,e3 n,Bool.and_true];cases n<;>simp [Instr.sameBits]⟩
  ·simp only [eqCells,Option.map_eq_some_iff,Bool.and_eq_true,beq_iff_eq] at he
   obtain ⟨r,hr,hm,rfl⟩:=he
   subst hm
   obtain ⟨e1,e2,e3⟩:=eqCells_val ks as bs us vs h1 h2 hr
   have q1:=(V_S' hu).1
   have q2:=(V_S' hv).1
   subst q1;subst q2
   exact ⟨by rw [e1],by rw [e2],fun n=>by simp only [List.zip_cons_cons,List.all_cons,e3 n,Bool.and_true];cases n<;>(simp only [Instr.sameBits];exact ba_refl _)⟩
 | [],_::_,_,_,_,_,_,he=>by simp [eqCells] at he
 | [],[],_::_,_,_,_,_,he=>by simp [eqCells] at he
 | k::_,[],_,_,_,_,_,he=>by cases k<;>simp [eqCells] at he
 | k::_,a::_,[],_,_,_,_,he=>by cases k<;>cases a<;>simp [eqCells] at he
theorem findAsking_of {kt:TypeId} {ks:List FK} (hk:flatK P 20 kt=some ks) (hag:aggT P kt=true) {cs:List AV} {us:List Value} (hv:VS g w cs us):∀(es:List (AV×AV)) (ms:List MapEntry) (i:Nat) (r:Option AV),ER g w es ms→findS ks cs es=some r →
  (r=none∧(Instr.findAsking kt (.agg us.toArray) ms i).run P w = .ok none w) ∨
  ∃v j e,r=some v∧(Instr.findAsking kt (.agg us.toArray) ms i).run P w = .ok (some (i+j,e.val)) w∧ms[j]? = some e∧e.key = .agg us.toArray∧V g w v e.val
 | [],_,i,r,h,hf=>by
  rw [show _=[] from h]
  simp only [findS,Option.some.injEq] at hf
  exact .inl ⟨hf.symm,rfl⟩
 | (a,v)::es,_,i,r,⟨e,ms,rfl,h1,h2,h3⟩,hf=>by
  cases a with
  | A cs'=>
   obtain ⟨us',hkey,hv'⟩:=V_A' h1
   have ok:=flatK_ok (g:=g) 20 kt ks hk
   simp only [findS] at hf
   split at hf
   ·rename_i he
    simp only [Option.some.injEq] at hf
    obtain ⟨q1,_,_⟩:=eqCells_val ks cs cs' us us' hv hv' he
    have hb:(Op.equal kt (.agg us.toArray) (.agg us'.toArray)).run P w = .ok true w:=(ok.2.2.2.2 w _ _ _ _ true hv hv' he 10000 (by omega)).1 hag
    have hkey':e.key = .agg us'.toArray:=hkey
    refine .inr ⟨v,0,e,hf.symm,?_,by simp,by rw [hkey',q1],h2⟩
    simp only [Instr.findAsking,hkey',Sem.run_bind,hb,Result.andThen_ok,if_true,Sem.run_pure,Nat.add_zero]
   ·rename_i he
    have hb:(Op.equal kt (.agg us.toArray) (.agg us'.toArray)).run P w = .ok false w:=(ok.2.2.2.2 w _ _ _ _ false hv hv' he 10000 (by omega)).1 hag
    have hkey':e.key = .agg us'.toArray:=hkey
    have step:(Instr.findAsking kt (.agg us.toArray) (e::ms) i).run P w=(Instr.findAsking kt (.agg us.toArray) ms (i+1)).run P w:=by
     simp only [Instr.findAsking,hkey',Sem.run_bind,hb,Result.andThen_ok,Bool.false_eq_true,if_false]
    rcases findAsking_of hk hag hv es ms (i+1) r h3 hf with ⟨q1,q2⟩ | ⟨v',j,e',q1,q2,q3,q4,q5⟩
    ·exact .inl ⟨q1,step.trans q2⟩
    ·exact .inr ⟨v',j+1,e',q1,by rw [step,q2,show i+1+j=i+(j+1) by omega],by simpa using q3,q4,q5⟩
   ·cases hf
  | _=>simp [findS] at hf
theorem sameBits_agg {us:List Value} (h:∀n,(us.zip us).all (fun (x,y)=>Instr.sameBits n x y)=true):(Instr.keyThatStays (.agg us.toArray) (.agg us.toArray)).run P w = .ok (.agg us.toArray) w:=by
 have:Instr.sameBits 10000 (.agg us.toArray) (.agg us.toArray)=true:=by
  simp only [Instr.sameBits,beq_self_eq_true,Bool.true_and]
  exact h 9999
 simp [Instr.keyThatStays,this]
end
end Go.Vm
