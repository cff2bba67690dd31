/- The engine, part 17: rows of the call's own, lent to a call that only reads. -/
import Derived.Test.YtnhnipdanpcbeaaEng16
import Derived.Laws.StructEq
namespace Go.Proofs.Ytnhnipdanpcbeaa.Eng
open Go

theorem SegIn.mono {s : Seg} {I J : Imm} (h : SegIn s I) (hi : ImmLe I J) : SegIn s J := fun b o m => hi _ _ (h b o m)
def Reads (P : Program) (f : FuncId) (vs : Array Value) (E : World) (I : Imm) (Ms Ms' : List Seg) (rv : Value) : Prop :=
  ∀ w, Sat E w I Ms → Calls P f vs w fun e w' => e = .returned rv ∧ Sat E w' I Ms'
theorem Reads.of_meets {P : Program} {f : FuncId} {vs : Array Value} {E : World} {I : Imm} {Ms Mc Mc' Mr : List Seg} {rv : Value} (h : Meets P f vs I Mc (fun v _ M => v = rv ∧ M = Mc')) (hp : Ms.Perm (Mc ++ Mr)) : Reads P f vs E I Ms (Mc' ++ Mr) rv := fun w hs =>
  (h E w Mr (hs.perm hp)).mono fun _ _ ⟨v, J, M, he, ⟨hv, hM⟩, hi, hs'⟩ => by
    subst hv hM
    exact ⟨he, hs'.le hi⟩
theorem Sat.thaw {E w w0 : World} {I J : Imm} {Ms M2 : List Seg} {k : Nat} {s : Seg} (h0 : Sat E w0 I Ms) (hm : Ms[k]? = some s) (hi : ImmLe I J) (hin : SegIn s J) (h : Sat E w J M2) : Sat E w I (s :: M2) := by
  have h1 := h0.perm (perm_at hm)
  have hnd := h1.nd
  simp only [List.flatten_cons, List.map_append] at hnd
  refine ⟨h.os, h.tape, h.output, fun b o hb => h.imm b o (hi _ _ hb), fun b o hb => ?_, ?_⟩
  · rw [List.flatten_cons, List.mem_append] at hb
    rcases hb with hb | hb
    · exact ⟨h.imm _ _ (hin _ _ hb), (h1.mt b o (by simp [hb])).2⟩
    · refine ⟨(h.mt b o hb).1, ?_⟩
      cases e : I b with
      | none => rfl
      | some u => have := hi _ _ e; rw [(h.mt b o hb).2] at this; cases this
  · simp only [List.flatten_cons, List.map_append]
    refine List.nodup_append.2 ⟨(List.nodup_append.1 hnd).1, h.nd, fun b hb c hc e => ?_⟩
    subst e
    obtain ⟨⟨b1, o1⟩, m1, rfl⟩ := List.mem_map.1 hb
    obtain ⟨⟨b2, o2⟩, m2, e2⟩ := List.mem_map.1 hc
    simp only at e2
    subst e2
    have := hin _ _ m1
    rw [(h.mt _ _ m2).2] at this
    cases this
theorem Reads.lend {P : Program} {f : FuncId} {vs : Array Value} {E : World} {I : Imm} {Ms M2 : List Seg} {rv : Value} {k : Nat} {s : Seg} (hm : Ms[k]? = some s)
    (h : ∀ J, ImmLe I J → SegIn s J → Reads P f vs E J (Ms.eraseIdx k) M2 rv) : Reads P f vs E I Ms (s :: M2) rv := fun w hs => by
  obtain ⟨J, h1, h2, h3⟩ := hs.freeze hm
  exact (h J h1 h2 w h3).mono fun _ _ ⟨he, hs'⟩ => ⟨he, hs.thaw hm h1 h2 hs'⟩
/-! ### structs that are compared -/
def partS (P : Program) (t : TypeId) (xs : Array Value) (off : Nat) : Option Value := match isAgg? P t, size? P t with
  | some false, _ => xs[off]?
  | some true, some m => some (.agg (xs.extract off (off + m)))
  | _, _ => none
def eqFs (P : Program) (eq : TypeId → Value → Value → Option Bool) : List Field → Array Value → Array Value → Option Bool
  | [], _, _ => some true
  | f :: r, xs, ys => match f.name == "_", partS P f.type xs f.offset, partS P f.type ys f.offset with
    | false, some a, some b => match eq f.type a b, eqFs P eq r xs ys with
      | some c, some e => some (c && e)
      | _, _ => none
    | _, _, _ => none
def eqS (P : Program) : Nat → TypeId → Value → Value → Option Bool
  | 0, _, _, _ => none
  | d + 1, t, x, y => match P.underlying t, x, y with
    | some (.int _), .int k a, .int k' b => if k = k' then some (a == b) else none
    | some .string, .string a, .string b => some (bl a == bl b)
    | some .bool, .bool a, .bool b => some (a == b)
    | some (.struct fs), .agg xs, .agg ys => match P.stoodInHeld t with
      | true => none
      | false => eqFs P (eqS P d) fs.toList xs ys
    | _, _, _ => none
theorem partS_run {P : Program} {t : TypeId} {xs : Array Value} {off : Nat} {v : Value} (h : partS P t xs off = some v) (w : World) : (part t xs off).run P w = .ok v w := by
  unfold partS at h
  split at h
  · rename_i hg
    simp [part, run_isAgg' hg, h]
  · rename_i hg hm
    cases h
    simp [part, run_isAgg' hg, run_sizeOf' hm]
  · cases h
theorem bl_beq (a b : ByteArray) : (a == b) = (bl a == bl b) := by
  cases a with | mk a => cases b with | mk b =>
  show (a == b) = (a.toList == b.toList)
  rw [Bool.eq_iff_iff, beq_iff_eq, beq_iff_eq]
  exact Array.toList_inj.symm
theorem eqFs_run {P : Program} {eq : TypeId → Value → Value → Option Bool} {d : Nat} (w : World) (ih : ∀ t x y b, eq t x y = some b → (Op.equalIn d t x y).run P w = .ok b w) :
    ∀ (fs : List Field) (xs ys : Array Value) (b : Bool), eqFs P eq fs xs ys = some b → (Op.eqFields d xs ys fs).run P w = .ok b w
  | [], xs, ys, b, h => by cases h; simp [Op.eqFields]
  | f :: r, xs, ys, b, h => by
    unfold eqFs at h
    split at h
    · rename_i u v hn h1 h2
      split at h
      · rename_i c e h3 h4
        cases h
        have hn' : f.name ≠ "_" := by simpa using hn
        have hr := eqFs_run w ih r xs ys e h4
        simp only [Op.eqFields, hn', ne_eq, not_false_eq_true, if_true, Sem.run_bind, partS_run h1, partS_run h2, ih _ _ _ _ h3, Result.andThen_ok]
        cases c
        · simp
        · simpa using hr
      · cases h
    · cases h
theorem eqS_run {P : Program} (w : World) (e : Nat) : ∀ (d : Nat) (t : TypeId) (x y : Value) (b : Bool), eqS P d t x y = some b → (Op.equalIn (e + d) t x y).run P w = .ok b w
  | 0, _, _, _, _, h => by cases h
  | d + 1, t, x, y, b, h => by
    unfold eqS at h
    split at h
    · rename_i hu
      split at h
      · rename_i hk
        cases h
        show (Op.equalIn (e + d + 1) t _ _).run P w = _
        simp [Op.equalIn, run_underlying' hu, hk]
      · cases h
    · rename_i hu
      cases h
      show (Op.equalIn (e + d + 1) t _ _).run P w = _
      simp [Op.equalIn, run_underlying' hu, bl_beq]
    · rename_i hu
      cases h
      show (Op.equalIn (e + d + 1) t _ _).run P w = _
      simp [Op.equalIn, run_underlying' hu]
    · rename_i fs xs ys hu
      split at h
      · cases h
      · rename_i hst
        show (Op.equalIn (e + d + 1) t _ _).run P w = _
        have hfs : P.fieldsOf t = fs := by simp [Program.fieldsOf, hu]
        rw [run_equalIn_struct w (e + d) t xs ys (by rw [hfs]; exact hu) hst, hfs]
        exact eqFs_run w (fun t x y b hb => eqS_run w e d t x y b hb) fs.toList xs ys b h
    · cases h
section eff
variable {P : Program} {E : World} {n : Nat} {L : Fra} {I : Imm} {Ms : List Seg} {Q : Exit → Act → World → Prop} {K : Act → World → Prop} {o : Oper}
theorem eff_read {c : Call} {f : FuncId} {vs : List Value} {rv : Value} {Ms' : List Seg} (hop : o.op = .call c) (hcal : c.callee = .value (.func f)) (hok : callOk P f = true) (hd : dstOk n o.dst = true)
    (hv : opvs L c.args.toList = some vs) (hfn : Reads P f vs.toArray E I Ms Ms' rv)
    (hn : At E n (fput L o.dst rv) I Ms' K) : At E n L I Ms (fun a w => o.wp P a w K Q) := fun a w ha hs => by
  have hargs : c.args.map a.eval = vs.toArray := by rw [← opvs_eval ha hv, ← Array.toList_map]
  have hrun : (execOp a.eval o).run P w = .ok (.enter f vs.toArray) w := by
    simp only [execOp, hop]
    simp [resolve, hcal, Act.eval, Deferred.ofValue, invoke, hargs, run_callFunc hok]
  simp only [Oper.wp, hrun, Oper.upon]
  refine (hfn w hs).mono ?_
  rintro e w' ⟨rfl, hs'⟩
  exact hn _ _ (ha.put (dstOk_spec hd) _) hs'
theorem eff_readv {c : Call} {f : FuncId} {x : Operand} {first captured vs : List Value} {rv : Value} {Ms' : List Seg} (hop : o.op = .call c) (hcal : c.callee = .value x)
    (hx : opv L x = some (.func (.func f) first.toArray captured.toArray)) (hok : callOk P f = true) (hd : dstOk n o.dst = true)
    (hv : opvs L c.args.toList = some vs) (hfn : Reads P f (first ++ vs ++ captured).toArray E I Ms Ms' rv)
    (hn : At E n (fput L o.dst rv) I Ms' K) : At E n L I Ms (fun a w => o.wp P a w K Q) := fun a w ha hs => by
  have hargs : c.args.map a.eval = vs.toArray := by rw [← opvs_eval ha hv, ← Array.toList_map]
  have hrun : (execOp a.eval o).run P w = .ok (.enter f (first ++ vs ++ captured).toArray) w := by
    simp only [execOp, hop]
    simp [resolve, hcal, opv_eval ha hx, Deferred.ofValue, invoke, hargs, run_callFunc hok]
  simp only [Oper.wp, hrun, Oper.upon]
  refine (hfn w hs).mono ?_
  rintro e w' ⟨rfl, hs'⟩
  exact hn _ _ (ha.put (dstOk_spec hd) _) hs'
theorem run_eqGuard_agg {op : BinOp} {t : TypeId} {x y : Operand} {cx cy : Array Value} (hg : P.eqGuardType P.depth t = false) (w : World) : (eqGuard op t x y (.agg cx) (.agg cy)).run P w = .ok () w := by
  unfold eqGuard
  cases op <;> simp [hg]
theorem eff_eqAgg {t u : TypeId} {x y : Operand} {cx cy : Array Value} {b : Bool} (d : Nat) (hop : o.op = .binOp .eql t x y u) (hd : dstOk n o.dst = true) (hm : d ≤ Op.maxDepth)
    (hg : P.eqGuardType P.depth t = false) (hx : opv L x = some (.agg cx)) (hy : opv L y = some (.agg cy)) (he : eqS P d t (.agg cx) (.agg cy) = some b) (hn : At E n (fput L o.dst (.bool b)) I Ms K) : At E n L I Ms (fun a w => o.wp P a w K Q) := fun a w ha hs => by
  refine wp_value (w' := w) (v := .bool b) ?_ (hn _ _ (ha.put (dstOk_spec hd) _) hs)
  have hr := eqS_run (P := P) w (Op.maxDepth - d) d t _ _ b he
  rw [Nat.sub_add_cancel hm] at hr
  simp only [execOp, hop, opv_eval ha hx, opv_eval ha hy]
  refine run_v ?_
  simp [run_eqGuard_agg hg, binOp, Op.equal, hr]
theorem eff_neAgg {t u : TypeId} {x y : Operand} {cx cy : Array Value} {b : Bool} (d : Nat) (hop : o.op = .binOp .neq t x y u) (hd : dstOk n o.dst = true) (hm : d ≤ Op.maxDepth)
    (hg : P.eqGuardType P.depth t = false) (hx : opv L x = some (.agg cx)) (hy : opv L y = some (.agg cy)) (he : eqS P d t (.agg cx) (.agg cy) = some b) (hn : At E n (fput L o.dst (.bool (!b))) I Ms K) : At E n L I Ms (fun a w => o.wp P a w K Q) := fun a w ha hs => by
  refine wp_value (w' := w) (v := .bool (!b)) ?_ (hn _ _ (ha.put (dstOk_spec hd) _) hs)
  have hr := eqS_run (P := P) w (Op.maxDepth - d) d t _ _ b he
  rw [Nat.sub_add_cancel hm] at hr
  simp only [execOp, hop, opv_eval ha hx, opv_eval ha hy]
  refine run_v ?_
  simp [run_eqGuard_agg hg, binOp, Op.equal, hr]
end eff
end Go.Proofs.Ytnhnipdanpcbeaa.Eng
