/- The engine, part 8: operations that turn the heap. -/
import Derived.Test.YtnhnipdanpcbeaaEng7
namespace Go.Proofs.Ytnhnipdanpcbeaa.Eng
open Go

theorem wp_value {P : Program} {o : Oper} {a : Act} {w w' : World} {K : Act → World → Prop} {Q : Exit → Act → World → Prop} {v : Value}
    (h : (execOp a.eval o).run P w = .ok (.value v) w') (hk : K (a.put o.dst v) w') : o.wp P a w K Q := by
  simp only [Oper.wp, h, Oper.upon]
  exact hk
theorem wp_skipd {P : Program} {o : Oper} {a : Act} {w w' : World} {K : Act → World → Prop} {Q : Exit → Act → World → Prop}
    (h : (execOp a.eval o).run P w = .ok .skip w') (hk : K (a.put o.dst undef) w') : o.wp P a w K Q := by
  simp only [Oper.wp, h, Oper.upon]
  exact hk

theorem setFrom_size : ∀ (vs : List Value) (cs : Array Value) (i : Nat), (setFrom cs i vs).size = cs.size
  | [], _, _ => rfl
  | v :: r, cs, i => by rw [setFrom, setFrom_size r]; simp
theorem setFrom_get : ∀ (vs : List Value) (cs : Array Value) (i j : Nat), i + vs.length ≤ cs.size →
    (setFrom cs i vs)[j]? = if i ≤ j ∧ j < i + vs.length then vs[j - i]? else cs[j]?
  | [], cs, i, j, _ => by
    rw [setFrom, if_neg]
    simp only [List.length_nil, Nat.add_zero]
    omega
  | v :: r, cs, i, j, h => by
    simp only [List.length_cons] at h
    rw [setFrom, setFrom_get r _ _ _ (by simp; omega)]
    by_cases e : j = i
    · subst e
      rw [if_neg (by omega), if_pos (by simp)]
      simp only [Nat.sub_self, List.getElem?_cons_zero, Array.getElem?_setIfInBounds_self]
      rw [if_pos (by omega)]
    · by_cases g : i + 1 ≤ j ∧ j < i + 1 + r.length
      · rw [if_pos g, if_pos (by simp; omega)]
        rw [show j - i = (j - (i + 1)) + 1 by omega, List.getElem?_cons_succ]
      · rw [if_neg g, if_neg (by simp; omega), Array.getElem?_setIfInBounds_ne (by omega)]
def frFree (fr : Nat × Nat) (m : Nat) : Prop := fr.2 ≤ fr.1 ∨ m ≤ fr.1
/-- w' is w, but for block b, which holds o. -/
def Only (w w' : World) (b : Nat) (o : Obj) : Prop :=
  w'.os = w.os ∧ w'.tape = w.tape ∧ w'.output = w.output ∧ w'.heap[b]? = some o ∧ ∀ c, c ≠ b → w'.heap[c]? = w.heap[c]?
theorem Sat.only {E w w' : World} {I : Imm} {Ms : List Seg} {k b : Nat} {o o' : Obj} (h : Sat E w I Ms) (hm : Ms[k]? = some [(b, o)]) (hw : Only w w' b o') : Sat E w' I (Ms.set k [(b, o')]) :=
  h.setObj hm hw.1 hw.2.1 hw.2.2.1 hw.2.2.2.1 hw.2.2.2.2
theorem run_storeCells {P : Program} {ad : Addr} {T : TypeId} {fr : Nat × Nat} (hsp : ad.spot = none) : ∀ (vs : List Value) (i : Nat) (cs : Array Value) (w : World),
    w.heap[ad.block]? = some (.cells cs T fr) → frFree fr cs.size → ad.off + i + vs.length ≤ cs.size → vs.all Value.oneCell' = true →
    ∃ w', (storeCells ad vs i).run P w = .ok () w' ∧ Only w w' ad.block (.cells (setFrom cs (ad.off + i) vs) T fr)
  | [], i, cs, w, h, _, _, _ => ⟨w, by simp [storeCells], rfl, rfl, rfl, h, fun _ _ => rfl⟩
  | v :: r, i, cs, w, h, hf, hl, ho => by
    simp only [List.length_cons] at hl
    simp only [List.all_cons, Bool.and_eq_true] at ho
    have hlt : ad.off + i < cs.size := by omega
    have hc : w.cell? (ad.add i) = some (cs[ad.off + i]'hlt) := cell?_of (by rw [add_block]; exact h) (add_spot hsp i) (by rw [add_off]; exact Array.getElem?_eq_getElem hlt)
    have hfz : w.frozen? (ad.add i) = false := by
      simp only [World.frozen?, add_block, h, add_off]
      rcases hf with hf | hf <;> simp <;> omega
    have hset : (w.setCell (ad.add i) v).heap[ad.block]? = some (.cells (cs.setIfInBounds (ad.off + i) v) T fr) := by
      simp only [World.setCell, add_block, Array.getElem?_modify, if_true, h, Option.map_some, add_spot hsp, add_off]
      rfl
    obtain ⟨w', hr, h1, h2, h3, h4, h5⟩ := run_storeCells (P := P) hsp r (i + 1) _ (w.setCell (ad.add i) v) hset (by simpa using hf) (by simp; omega) ho.2
    refine ⟨w', ?_, h1, h2, h3, ?_, fun c hc' => ?_⟩
    · simp only [storeCells, Sem.run_bind, run_store _ _ _ _ _ ho.1, hc, hfz, Bool.false_eq_true, if_false, Result.andThen_ok]
      exact hr
    · rw [h4, setFrom, Nat.add_assoc]
    · rw [h5 c hc']
      simp only [World.setCell, add_block, Array.getElem?_modify]
      rw [if_neg (fun e => hc' e.symm)]

section eff
variable {P : Program} {E : World} {n : Nat} {L : Fra} {I : Imm} {Ms : List Seg} {Q : Exit → Act → World → Prop} {K : Act → World → Prop} {o : Oper}

theorem eff_box {T : TypeId} {x : Operand} {v : Value} (hop : o.op = .box T x) (hd : dstOk n o.dst = true) (hv : opv L x = some v) (cs : Array Value) (hcs : v.cells = cs)
    (hn : ∀ g, At E n (fput L o.dst (.pointer (some ⟨g, 0, none⟩))) I ([(g, .cells cs T (0, 0))] :: Ms) K) : At E n L I Ms (fun a w => o.wp P a w K Q) := fun a w ha hs => by
  subst hcs
  refine wp_value (w' := { w with heap := w.heap.push (.cells v.cells T) }) (v := .pointer (some ⟨w.heap.size, 0, none⟩)) ?_ (hn w.heap.size _ _ (ha.put (dstOk_spec hd) _) (hs.push _))
  simp only [execOp, hop, opv_eval ha hv]
  refine run_v ?_
  simp [Instr.box, newVar, newRow]
theorem eff_alloc {T : TypeId} (hop : o.op = .alloc T) (hd : dstOk n o.dst = true) {i : TypeInfo} {z : Value} (hi : P.info? T = some i) (hz : i.zero = some z) (cs : Array Value) (hcs : z.cells = cs)
    (hn : ∀ g, At E n (fput L o.dst (.pointer (some ⟨g, 0, none⟩))) I ([(g, .cells cs T (0, 0))] :: Ms) K) : At E n L I Ms (fun a w => o.wp P a w K Q) := fun a w ha hs => by
  subst hcs
  refine wp_value (w' := { w with heap := w.heap.push (.cells z.cells T) }) (v := .pointer (some ⟨w.heap.size, 0, none⟩)) ?_ (hn w.heap.size _ _ (ha.put (dstOk_spec hd) _) (hs.push _))
  simp only [execOp, hop]
  refine run_v ?_
  simp [Instr.alloc, zeroValue, run_typeInfo' hi, hz, newVar, newRow]
/-- A store into a variable in memory. -/
theorem eff_store {t : TypeId} {x y : Operand} {ad : Addr} {v : Value} {cs : Array Value} {T : TypeId} {fr : Nat × Nat} (k : Nat) (hop : o.op = .store t x y) (hd : dstOk n o.dst = true)
    (hx : opv L x = some (.pointer (some ad))) (hv : opv L y = some v) (hm : Ms[k]? = some [(ad.block, .cells cs T fr)]) (hsp : ad.spot = none) (hf : frFree fr cs.size)
    (hsz : size? P t = some v.cells.size) (hb : ad.off + v.cells.size ≤ cs.size) (ho : v.cells.toList.all Value.oneCell' = true)
    (hn : At E n (fput L o.dst undef) I (Ms.set k [(ad.block, .cells (setFrom cs ad.off v.cells.toList) T fr)]) K) : At E n L I Ms (fun a w => o.wp P a w K Q) := fun a w ha hs => by
  have hblk := (hs.seg (List.mem_of_getElem? hm) (.head _)).1
  obtain ⟨w', hr, hw⟩ := run_storeCells (P := P) (fr := fr) hsp v.cells.toList 0 cs w hblk hf (by simpa using hb) ho
  refine wp_skipd (w' := w') ?_ (hn _ _ (ha.put (dstOk_spec hd) _) (hs.only hm hw))
  simp only [execOp, hop, opv_eval ha hx, opv_eval ha hv]
  simp [Instr.storeAt, Instr.sureAddr, storeVar, run_sizeOf' hsz, hr]
def callOk (P : Program) (f : FuncId) : Bool := match P.funcs[f]? with
  | some fn => !(fn.name == "runtime.NumGoroutine") && fn.body.isSome
  | none => false
theorem run_callFunc {f : FuncId} (h : callOk P f = true) (args : Array Value) (w : World) : (callFunc f args).run P w = .ok (.enter f args) w := by
  unfold callOk at h
  cases hf : P.funcs[f]? with
  | none => rw [hf] at h; cases h
  | some fn =>
    rw [hf] at h
    simp only [Bool.and_eq_true, Bool.not_eq_true'] at h
    have hb : fn.body.isNone = false := by cases hb : fn.body <;> simp_all
    simp only [callFunc, Sem.run_bind, run_program, Result.andThen_ok, hf, h.1, hb, Bool.false_eq_true, if_false, Sem.run_pure]
theorem eff_call {c : Call} {f : FuncId} {vs : List Value} {Mc Mr : List Seg} {post : Value → Imm → List Seg → Prop} (hop : o.op = .call c) (hcal : c.callee = .value (.func f)) (hok : callOk P f = true) (hd : dstOk n o.dst = true)
    (hv : opvs L c.args.toList = some vs) (hfn : Meets P f vs.toArray I Mc post) (hp : Ms.Perm (Mc ++ Mr))
    (hn : ∀ v J Mc', post v J Mc' → ImmLe I J → At E n (fput L o.dst v) J (Mc' ++ Mr) K) : At E n L I Ms (fun a w => o.wp P a w K Q) := fun a w ha hs => by
  have hargs : c.args.map a.eval = vs.toArray := by rw [← opvs_eval ha hv, ← Array.toList_map]
  have hrun : (execOp a.eval o).run P w = .ok (.enter f vs.toArray) w := by
    simp only [execOp, hop]
    simp [resolve, hcal, Act.eval, Deferred.ofValue, invoke, hargs, run_callFunc hok]
  simp only [Oper.wp, hrun, Oper.upon]
  refine (hfn E w Mr (hs.perm hp)).mono ?_
  rintro e w' ⟨v, J, Mc', rfl, hq, hi, hs'⟩
  exact hn v J Mc' hq hi _ _ (ha.put (dstOk_spec hd) _) hs'
theorem eff_callv {c : Call} {f : FuncId} {x : Operand} {first captured vs : List Value} {Mc Mr : List Seg} {post : Value → Imm → List Seg → Prop} (hop : o.op = .call c) (hcal : c.callee = .value x)
    (hx : opv L x = some (.func (.func f) first.toArray captured.toArray)) (hok : callOk P f = true) (hd : dstOk n o.dst = true)
    (hv : opvs L c.args.toList = some vs) (hfn : Meets P f (first ++ vs ++ captured).toArray I Mc post) (hp : Ms.Perm (Mc ++ Mr))
    (hn : ∀ v J Mc', post v J Mc' → ImmLe I J → At E n (fput L o.dst v) J (Mc' ++ Mr) K) : At E n L I Ms (fun a w => o.wp P a w K Q) := fun a w ha hs => by
  have hargs : c.args.map a.eval = vs.toArray := by rw [← opvs_eval ha hv, ← Array.toList_map]
  have hrun : (execOp a.eval o).run P w = .ok (.enter f (first ++ vs ++ captured).toArray) w := by
    simp only [execOp, hop]
    simp [resolve, hcal, opv_eval ha hx, Deferred.ofValue, invoke, hargs, run_callFunc hok]
  simp only [Oper.wp, hrun, Oper.upon]
  refine (hfn E w Mr (hs.perm hp)).mono ?_
  rintro e w' ⟨v, J, Mc', rfl, hq, hi, hs'⟩
  exact hn v J Mc' hq hi _ _ (ha.put (dstOk_spec hd) _) hs'
end eff
section heap2
variable {E : World} {n : Nat} {L : Fra} {I : Imm} {Ms : List Seg} {K : Act → World → Prop}
theorem at_freeze {k : Nat} {s : Seg} (hm : Ms[k]? = some s) {Mr : List Seg} (hr : Ms.eraseIdx k = Mr) (h : ∀ J, ImmLe I J → SegIn s J → At E n L J Mr K) : At E n L I Ms K := fun a w ha hs => by
  subst hr
  obtain ⟨J, h1, h2, h3⟩ := hs.freeze hm
  exact h J h1 h2 a w ha h3
theorem at_drop {k : Nat} {s : Seg} (hm : Ms[k]? = some s) {Mr : List Seg} (hr : Ms.eraseIdx k = Mr) (h : At E n L I Mr K) : At E n L I Ms K := fun a w ha hs => by
  subst hr
  exact h a w ha (hs.tail (perm_at hm))
end heap2
end Go.Proofs.Ytnhnipdanpcbeaa.Eng
