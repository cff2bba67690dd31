/- The engine, part 22: rows that are lent to a call which hands back rows of its own; rows of rows. -/
import Derived.Test.YtnhnipdanpcbeaaEng21
namespace Go.Proofs.Ytnhnipdanpcbeaa.Eng
open Go

theorem rdA_set {α : Type} {d : α} (xs : List α) (u : α) {i : Int} (h0 : 0 ≤ i) (h1 : i < (xs.length : Int)) : rdA d (xs.set i.toNat u) i = u := by
  have : i.toNat < xs.length := by omega
  simp [rdA, this]
def DK.sl {β : Type} (K : Kd β) (ei : TypeId) : DK (List β) β where
  sz := 1
  q := 0
  K := K
  ei := ei
  get := fun x => x
  enc := fun x A c => [.slice A x.length c]
  kd := Kd.slice K
  hsz := rfl
  hlen := fun _ _ _ => rfl
  hoc := fun _ _ _ => rfl
  hdown := fun h => ⟨_, _, rfl, h⟩
/-- What its elements are does not hang on the heap. -/
def Kd.Flat {α : Type} (K : Kd α) : Prop := ∀ {I J : Imm} {x : α} {cs : List Value}, K.rep I x cs → K.rep J x cs
theorem Kd.one_flat {α : Type} {enc : α → Value} {he : ∀ x, (enc x).oneCell' = true} : (Kd.one enc he).Flat := fun h => h
theorem Kd.raw_flat {m : Nat} : (Kd.raw m).Flat := fun h => h
theorem Own.flat {α : Type} {K : Kd α} {e : TypeId} {I J : Imm} {A : Option Addr} {c : Nat} {xs : List α} {s : Seg} (hK : K.Flat) (h : Own K e I A c xs s) : Own K e J A c xs s := by
  rcases h with h | ⟨b, cells, fr, h1, h2, hf, h3, h4, h5⟩
  · exact .inl h
  · refine .inr ⟨b, cells, fr, h1, h2, hf, h3, h4, fun j x hx => ?_⟩
    obtain ⟨cs, hc, hv⟩ := h5 j x hx
    exact ⟨cs, hK hc, hv⟩
theorem DEl.flat {α β : Type} {D : DK α β} {I J : Imm} {x : α} {h : List Value} {s : Seg} (hK : D.K.Flat) (hd : DEl D I x h s) : DEl D J x h s := by
  obtain ⟨A, c, e, ho⟩ := hd
  exact ⟨A, c, e, ho.flat hK⟩
theorem DRel.flat {α β : Type} {D : DK α β} {I J : Imm} (hK : D.K.Flat) : ∀ {xs : List α} {hs : List (List Value)} {ss : List Seg}, DRel D I xs hs ss → DRel D J xs hs ss
  | [], [], [], _ => trivial
  | _ :: _, _ :: _, _ :: _, h => ⟨h.1.flat hK, DRel.flat hK h.2⟩
theorem DOwn.flat {α β : Type} {D : DK α β} {e : TypeId} {I J : Imm} {A : Option Addr} {c : Nat} {xs : List α} {s : Seg} (hK : D.K.Flat) (h : DOwn D e I A c xs s) : DOwn D e J A c xs s := by
  obtain ⟨hs, so, sis, junk, ho, hp, hr⟩ := h
  exact ⟨hs, so, sis, junk, ho.flat Kd.raw_flat, hp, hr.flat hK⟩
def Lends (P : Program) (f : FuncId) (vs : Array Value) (E : World) (I : Imm) (Ms : List Seg) (post : Value → List Seg → Prop) (lent Mr : List Seg) : Prop :=
  ∀ w, Sat E w I Ms → Calls P f vs w fun e w' => ∃ v M, e = .returned v ∧ post v M ∧ Sat E w' I (lent ++ (M ++ Mr))
theorem Lends.of_meets {P : Program} {f : FuncId} {vs : Array Value} {E : World} {I : Imm} {Ms Mc Mr : List Seg} {post' : Value → Imm → List Seg → Prop} {post : Value → List Seg → Prop} (h : Meets P f vs I Mc post') (hq : ∀ v J M, post' v J M → post v M) (hp : Ms.Perm (Mc ++ Mr)) :
    Lends P f vs E I Ms post [] Mr := fun w hs => (h E w Mr (hs.perm hp)).mono fun _ _ ⟨v, J, M, he, hv, hi, hs'⟩ => ⟨v, M, he, hq v J M hv, hs'.le hi⟩
theorem Lends.lend {P : Program} {f : FuncId} {vs : Array Value} {E : World} {I : Imm} {Ms lent Mr : List Seg} {post : Value → List Seg → Prop} {k : Nat} {s : Seg} (hm : Ms[k]? = some s)
    (h : ∀ J, ImmLe I J → SegIn s J → Lends P f vs E J (Ms.eraseIdx k) post lent Mr) : Lends P f vs E I Ms post (s :: lent) Mr := fun w hs => by
  obtain ⟨J, h1, h2, h3⟩ := hs.freeze hm
  exact (h J h1 h2 w h3).mono fun _ _ ⟨v, M, he, hv, hs'⟩ => ⟨v, M, he, hv, hs.thaw hm h1 h2 hs'⟩
section eff
variable {P : Program} {E : World} {n : Nat} {L : Fra} {I : Imm} {Ms : List Seg} {Q : Exit → Act → World → Prop} {K : Act → World → Prop} {o : Oper}
theorem eff_lend {c : Call} {f : FuncId} {vs : List Value} {post : Value → List Seg → Prop} {lent Mr : List Seg} (hop : o.op = .call c) (hcal : c.callee = .value (.func f)) (hok : callOk P f = true) (hd : dstOk n o.dst = true)
    (hv : opvs L c.args.toList = some vs) (hfn : Lends P f vs.toArray E I Ms post lent Mr)
    (hn : ∀ v M, post v M → At E n (fput L o.dst v) I (lent ++ (M ++ Mr)) K) : At E n L I Ms (fun a w => o.wp P a w K Q) := fun a w ha hs => by
  have hargs : c.args.map a.eval = vs.toArray := by rw [← opvs_eval ha hv, ← Array.toList_map]
  have hrun : (execOp a.eval o).run P w = .ok (.enter f vs.toArray) w := by
    simp only [execOp, hop]
    simp [resolve, hcal, Act.eval, Deferred.ofValue, invoke, hargs, run_callFunc hok]
  simp only [Oper.wp, hrun, Oper.upon]
  refine (hfn w hs).mono ?_
  rintro e w' ⟨v, M, rfl, hv, hs'⟩
  exact hn v M hv _ _ (ha.put (dstOk_spec hd) _) hs'
theorem eff_lendv {c : Call} {f : FuncId} {x : Operand} {first captured vs : List Value} {post : Value → List Seg → Prop} {lent Mr : List Seg} (hop : o.op = .call c) (hcal : c.callee = .value x)
    (hx : opv L x = some (.func (.func f) first.toArray captured.toArray)) (hok : callOk P f = true) (hd : dstOk n o.dst = true)
    (hv : opvs L c.args.toList = some vs) (hfn : Lends P f (first ++ vs ++ captured).toArray E I Ms post lent Mr)
    (hn : ∀ v M, post v M → At E n (fput L o.dst v) I (lent ++ (M ++ Mr)) K) : At E n L I Ms (fun a w => o.wp P a w K Q) := fun a w ha hs => by
  have hargs : c.args.map a.eval = vs.toArray := by rw [← opvs_eval ha hv, ← Array.toList_map]
  have hrun : (execOp a.eval o).run P w = .ok (.enter f (first ++ vs ++ captured).toArray) w := by
    simp only [execOp, hop]
    simp [resolve, hcal, opv_eval ha hx, Deferred.ofValue, invoke, hargs, run_callFunc hok]
  simp only [Oper.wp, hrun, Oper.upon]
  refine (hfn w hs).mono ?_
  rintro e w' ⟨v, M, rfl, hv, hs'⟩
  exact hn v M hv _ _ (ha.put (dstOk_spec hd) _) hs'
theorem eff_eqBool {t u : TypeId} {x y : Operand} {a b : Bool} (hop : o.op = .binOp .eql t x y u) (hd : dstOk n o.dst = true) (ht : P.underlying t = some .bool)
    (hx : opv L x = some (.bool a)) (hy : opv L y = some (.bool b)) (hn : At E n (fput L o.dst (.bool (a == b))) I Ms K) : At E n L I Ms (fun a w => o.wp P a w K Q) := fun ac w ha hs => by
  refine wp_value (w' := w) (v := .bool (a == b)) ?_ (hn _ _ (ha.put (dstOk_spec hd) _) hs)
  have hr := eqS_run (P := P) w (Op.maxDepth - 1) 1 t (.bool a) (.bool b) (a == b) (by unfold eqS; rw [ht])
  rw [Nat.sub_add_cancel (by decide)] at hr
  simp only [execOp, hop, opv_eval ha hx, opv_eval ha hy]
  refine run_v ?_
  simp [eqGuard, binOp, Op.equal, hr]
theorem eff_neBool {t u : TypeId} {x y : Operand} {a b : Bool} (hop : o.op = .binOp .neq t x y u) (hd : dstOk n o.dst = true) (ht : P.underlying t = some .bool)
    (hx : opv L x = some (.bool a)) (hy : opv L y = some (.bool b)) (hn : At E n (fput L o.dst (.bool (!(a == b)))) I Ms K) : At E n L I Ms (fun a w => o.wp P a w K Q) := fun ac w ha hs => by
  refine wp_value (w' := w) (v := .bool (!(a == b))) ?_ (hn _ _ (ha.put (dstOk_spec hd) _) hs)
  have hr := eqS_run (P := P) w (Op.maxDepth - 1) 1 t (.bool a) (.bool b) (a == b) (by unfold eqS; rw [ht])
  rw [Nat.sub_add_cancel (by decide)] at hr
  simp only [execOp, hop, opv_eval ha hx, opv_eval ha hy]
  refine run_v ?_
  simp [eqGuard, binOp, Op.equal, hr]
end eff
theorem perm_lit1 (a b : Seg) : (a ++ b).Perm (b ++ [a].flatten) := by
  rw [List.flatten_cons, List.flatten_nil, List.append_nil]
  exact List.perm_append_comm
theorem perm4 {α : Type} (a x b y : List α) : ((a ++ x) ++ (b ++ y)).Perm ((a ++ b) ++ (x ++ y)) := by
  rw [List.append_assoc, List.append_assoc, ← List.append_assoc x, ← List.append_assoc b]
  exact ((List.perm_append_comm (l₁ := x) (l₂ := b)).append_right y).append_left a
/-! slices.Insert, and the like, over rows whose elements hold rows: from the contract over the elements' cells -/
theorem insertD {P : Program} {f : FuncId} {α β : Type} {D : DK α β} {e : TypeId} {I : Imm} {A A2 : Option Addr} {c c2 p : Nat} {s v : List α} {S1 S2 : Seg} {iv : Value}
    (hraw : ∀ (hs gs : List (List Value)) (so to : Seg), hs.length = s.length → gs.length = v.length → Own (Kd.raw D.sz) e I A c hs so → Own (Kd.raw D.sz) e I A2 c2 gs to →
      Meets P f ([.slice A hs.length c, iv, .slice A2 gs.length c2] : List Value).toArray I [so, to] (fun u J M => ∃ (A1 : Option Addr) (c1 : Nat) (s3 : Seg), u = .slice A1 (hs.take p ++ gs ++ hs.drop p).length c1 ∧ M = [s3] ∧ Own (Kd.raw D.sz) e J A1 c1 (hs.take p ++ gs ++ hs.drop p) s3))
    (ho : DOwn D e I A c s S1) (ho2 : DOwn D e I A2 c2 v S2) :
    Meets P f ([.slice A s.length c, iv, .slice A2 v.length c2] : List Value).toArray I [S1, S2] (fun u J M => ∃ (A1 : Option Addr) (c1 : Nat) (s3 : Seg), u = .slice A1 (s.take p ++ v ++ s.drop p).length c1 ∧ M = [s3] ∧ DOwn D e J A1 c1 (s.take p ++ v ++ s.drop p) s3) := fun E w Fs hsat => by
  obtain ⟨hs, so, sis, junk, hso, hp, hr⟩ := ho
  obtain ⟨gs, to, tis, junk2, hto, hp2, hr2⟩ := ho2
  have hl := hr.len1
  have hg := hr2.len1
  have hsat' : Sat E w I ([so, to] ++ (((sis.flatten ++ junk) ++ (tis.flatten ++ junk2)) :: Fs)) := by
    refine hsat.regroup ?_
    simp only [List.cons_append, List.nil_append, List.flatten_cons]
    rw [← List.append_assoc S1, ← List.append_assoc so, ← List.append_assoc (so ++ to)]
    exact ((hp.append hp2).trans (perm4 _ _ _ _)).append_right _
  have hm := hraw hs gs so to hl hg hso hto
  rw [hl, hg] at hm
  refine (hm E w _ hsat').mono ?_
  rintro en w' ⟨u, J, M, rfl, ⟨A1, c1, s3, rfl, rfl, h3⟩, hi, hs'⟩
  have hlen : (hs.take p ++ gs ++ hs.drop p).length = (s.take p ++ v ++ s.drop p).length := by simp [hl, hg]
  refine ⟨_, J, [s3 ++ ((sis.flatten ++ junk) ++ (tis.flatten ++ junk2))], rfl, ⟨A1, c1, _, by rw [hlen], rfl, hs.take p ++ gs ++ hs.drop p, s3, sis.take p ++ tis ++ sis.drop p, junk ++ junk2, h3, ?_, ?_⟩, hi, ?_⟩
  · refine List.Perm.append_left s3 ?_
    rw [List.flatten_append, List.flatten_append]
    have hsis : sis.flatten = (sis.take p).flatten ++ (sis.drop p).flatten := by rw [← List.flatten_append, List.take_append_drop]
    rw [hsis, List.append_assoc, List.append_assoc, List.append_assoc, List.append_assoc]
    refine List.Perm.append_left _ ?_
    rw [← List.append_assoc junk, ← List.append_assoc tis.flatten (sis.drop p).flatten, ← List.append_assoc _ junk junk2, ← List.append_assoc (sis.drop p).flatten]
    refine List.Perm.append_right junk2 ?_
    rw [← List.append_assoc]
    exact (List.perm_append_comm).trans (by rw [List.append_assoc])
  · exact ((hr.mono hi).take p).append (hr2.mono hi) |>.append ((hr.mono hi).drop p)
  · refine hs'.regroup ?_
    simp only [List.cons_append, List.nil_append, List.flatten_cons, List.append_assoc]
    exact .refl _
end Go.Proofs.Ytnhnipdanpcbeaa.Eng
