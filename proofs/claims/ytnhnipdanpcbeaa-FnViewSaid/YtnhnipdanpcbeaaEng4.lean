/- The engine, part 4: 'lz' is sound; stretches of operations that turn nothing. -/
import Derived.Test.YtnhnipdanpcbeaaEng3
import Derived.Lib.SliceRun
import Derived.WalkSpells
namespace Go.Proofs.Ytnhnipdanpcbeaa.Eng
open Go

theorem fill_congr {place place' : Nat → Option (Nat × Nat)} : ∀ (l : List (Nat × Value)) (cs : Array Value), (∀ p ∈ l, place p.1 = place' p.1) → Instr.fill place cs l = Instr.fill place' cs l
  | [], _, _ => rfl
  | (i, v) :: r, cs, h => by
    have e : place i = place' i := h (i, v) (.head _)
    have ih := fun cs' => fill_congr r cs' fun p hp => h p (.tail _ hp)
    unfold Instr.fill
    rw [e]
    cases place' i with
    | none => rfl
    | some p => simp only [ih]
theorem foldl_zipIdx (off : Nat) : ∀ (l : List Value) (k : Nat) (cs : Array Value), (l.zipIdx k).foldl (fun cs (p : Value × Nat) => cs.setIfInBounds (off + p.2) p.1) cs = setFrom cs (off + k) l
  | [], _, _ => rfl
  | v :: r, k, cs => by
    simp only [List.zipIdx_cons, List.foldl_cons, setFrom]
    rw [foldl_zipIdx off r (k + 1), Nat.add_assoc]
theorem fill_eq {place : Nat → Option (Nat × Nat)} : ∀ (l : List (Nat × Value)) (cs r : Array Value), fillS place cs l = some r → Instr.fill place cs l = some r
  | [], cs, r, h => h
  | (i, v) :: rest, cs, r, h => by
    unfold fillS at h
    unfold Instr.fill
    cases hp : place i with
    | none => rw [hp] at h; cases h
    | some p =>
      obtain ⟨off, size⟩ := p
      rw [hp] at h
      simp only at h
      split at h
      · rename_i h1 h2
        have e1 := Nat.eq_of_beq_eq_true h1
        have e2 := Nat.le_of_ble_eq_true h2
        have ih := fill_eq rest _ r h
        simp only [e1, ne_eq, not_true_eq_false, decide_false, Bool.false_or, decide_eq_true_eq]
        rw [if_neg (by omega)]
        rw [← ih]
        congr 1
        rw [← Array.foldl_toList, Array.toList_zipIdx]
        have := foldl_zipIdx off v.cells.toList 0 cs
        simpa using this
      · cases h
theorem run_places {P : Program} {w : World} : ∀ (fs : List Field), fs.all (fun f => (size? P f.type).isSome) = true →
    (fs.mapM fun f => (do pure (f.offset, ← sizeOf f.type) : Sem (Nat × Nat))).run P w = .ok (fs.map fun f => (f.offset, (size? P f.type).getD 0)) w
  | [], _ => by simp
  | f :: r, h => by
    simp only [List.all_cons, Bool.and_eq_true] at h
    obtain ⟨h1, h2⟩ := h
    obtain ⟨m, hm⟩ := Option.isSome_iff_exists.1 h1
    have := run_places (w := w) r h2
    simp only [List.mapM_cons, Sem.run_bind, run_sizeOf' hm, Result.andThen_ok, Sem.run_pure, this]
    simp [hm]

theorem lz_sound {P : Program} {L : Fra} {o : Oper} {ann : Option Value} {v : Value} {ob : World → Prop} {a : Act} {n : Nat} {w : World}
    (h : lz P L o ann = some (v, ob)) (ha : FrOk a n L) (hw : ob w) : (execOp a.eval o).run P w = .ok (.value v) w := by
  cases hop : o.op with
  | move x =>
    simp only [lz, hop] at h
    split at h <;> cases h
    simp only [execOp, hop, opv_eval ha ‹_›]; rfl
  | assign x =>
    simp only [lz, hop] at h
    split at h <;> cases h
    simp only [execOp, hop, opv_eval ha ‹_›]; rfl
  | pick c x y =>
    simp only [lz, hop] at h
    split at h
    · rename_i hc
      split at h <;> cases h
      simp only [execOp, hop, opv_eval ha hc]
      simp [asBool, opv_eval ha ‹_›]
    · rename_i hc
      split at h <;> cases h
      simp only [execOp, hop, opv_eval ha hc]
      simp [asBool, opv_eval ha ‹_›]
    · cases h
  | nilCheck x =>
    simp only [lz, hop] at h
    split at h <;> cases h
    · simp only [execOp, hop, opv_eval ha ‹_›]; rfl
    · simp only [execOp, hop, opv_eval ha ‹_›]; rfl
  | binOp op t x y u =>
    simp only [lz, hop] at h
    split at h
    · rename_i hx hy
      split at h
      · rename_i ht
        cases h
        simp only [execOp, hop, opv_eval ha hx, opv_eval ha hy]
        refine run_v ?_
        simp [eqGuard, Lib.run_eql_slice_nil _ _ _ _ _ _ _ _ ht]
      · rename_i ht
        cases h
        simp only [execOp, hop, opv_eval ha hx, opv_eval ha hy]
        refine run_v ?_
        simp [eqGuard, run_neq_slice_nil_any _ _ _ _ _ _ _ _ ht]
      · cases h
    · rename_i hx hy
      split at h
      · rename_i hb
        cases h
        simp only [execOp, hop, opv_eval ha hx, opv_eval ha hy]
        refine run_v ?_
        simp [binV_guard hb, binV_sound hb hw]
      · cases h
    · cases h
  | unOp op t x => exact lz_unOp hop h ha
  | convert s t x =>
    simp only [lz, hop] at h
    split at h <;> cases h
    · rename_i hs ht hx
      simp only [execOp, hop, opv_eval ha hx]
      refine run_v ?_
      simp [convert, run_underlying' hs, run_underlying' ht, Conv.intToInt]
    · rename_i hs ht hx
      simp only [execOp, hop, opv_eval ha hx]
      refine run_v ?_
      simp [convert, run_underlying' hs, run_underlying' ht]
  | fieldAddr s x f =>
    simp only [lz, hop] at h
    split at h
    · rename_i ad fs hx hs
      split at h
      · rename_i fd hf
        split at h
        · rename_i m hm
          cases h
          simp only [execOp, hop, opv_eval ha hx]
          refine run_v ?_
          simp [Instr.fieldAt, run_underlying' hs, hf, Instr.sureAddr, fieldPlace, run_sizeOf' hm]
        · cases h
      · cases h
    · cases h
  | field s x f =>
    simp only [lz, hop] at h
    split at h
    · rename_i cs fs hx hs
      split at h
      · rename_i fd hf
        split at h
        · rename_i hg
          split at h
          · rename_i hc
            cases h
            simp only [execOp, hop, opv_eval ha hx]
            refine run_v ?_
            simp [Instr.field, run_underlying' hs, hf, asAgg, part, run_isAgg' hg, hc]
          · cases h
        · rename_i hg hm
          cases h
          simp only [execOp, hop, opv_eval ha hx]
          refine run_v ?_
          simp [Instr.field, run_underlying' hs, hf, asAgg, part, run_isAgg' hg, run_sizeOf' hm]
        · cases h
      · cases h
    · cases h
  | indexAddr t x i =>
    simp only [lz, hop] at h
    split at h
    · rename_i A m c k i hx hi ht
      split at h
      · rename_i s hs
        cases h
        obtain ⟨hA, h0, h1⟩ := hw
        obtain ⟨ad, rfl⟩ := Option.isSome_iff_exists.1 hA
        simp only [execOp, hop, opv_eval ha hx, opv_eval ha hi]
        refine run_v ?_
        simp [Instr.indexAt, run_asIntOf, run_underlying' ht, run_sizeOf' hs, h0, h1]
      · cases h
    · rename_i ad k i m e hx hi ht
      split at h
      · rename_i s hs
        cases h
        obtain ⟨h0, h1⟩ := hw
        simp only [execOp, hop, opv_eval ha hx, opv_eval ha hi]
        refine run_v ?_
        simp [Instr.indexAt, Instr.sureAddr, run_asIntOf, run_underlying' ht, run_sizeOf' hs, h0, h1]
      · cases h
    · cases h
  | index t x i =>
    simp only [lz, hop] at h
    split at h
    · rename_i s k i hx hi ht
      cases h
      obtain ⟨h0, h1⟩ := hw
      simp only [execOp, hop, opv_eval ha hx, opv_eval ha hi]
      refine run_v ?_
      have hlt : i.toNat < s.size := by rw [bl_length] at h1; omega
      have e : s[i.toNat]? = some (s[i.toNat]'hlt) := by simp [hlt]
      simp only [Instr.index, Sem.run_bind, run_asIntOf, Result.andThen_ok, run_underlying' ht, if_pos h0, e]
      simp only [bt, bl, Sem.run_pure, List.getD_eq_getElem?_getD, Array.getElem?_toList]
      rw [show s.data[i.toNat]? = some (s[i.toNat]'hlt) from Array.getElem?_eq_getElem hlt]
      rfl
    · cases h
  | slice t x lo hi mx =>
    simp only [lz, hop] at h
    split at h
    · rename_i s lo' hi' hx hlo hhi ht
      split at h
      · rename_i l hh hl' hh'
        cases h
        obtain ⟨h0, h1, h2⟩ := hw
        simp only [execOp, hop, opv_eval ha hx, opvo_eval ha hlo, opvo_eval ha hhi]
        refine run_v ?_
        rw [bl_length] at h2 hh'
        have := sliceBounds_run (P := P) (isS := false) (len := s.size) (cap := s.size) (w := w) hl' hh' h0 h1 h2
        simp only [Option.map_none, Instr.sliceAt, Instr.slice, Sem.run_bind, run_underlying' ht, Result.andThen_ok]
        simp [str_of (bl_extract _ _ _)]
        rw [this]
        rfl
      · cases h
    · rename_i A m c lo' hi' e hx hlo hhi ht
      split at h
      · rename_i l hh s hl' hh' hs
        cases h
        obtain ⟨h0, h1, h2⟩ := hw
        simp only [execOp, hop, opv_eval ha hx, opvo_eval ha hlo, opvo_eval ha hhi]
        refine run_v ?_
        have := sliceBounds_run (P := P) (isS := true) (len := m) (cap := c) (w := w) hl' hh' h0 h1 h2
        simp only [Option.map_none, Instr.sliceAt, Instr.slice, Sem.run_bind, run_underlying' ht, Result.andThen_ok, this, run_sizeOf' hs]
        simp [cutV]
      · cases h
    · cases h
  | load t x =>
    simp only [lz, hop] at h
    split at h
    · rename_i ad u hx hg
      cases h
      simp only [execOp, hop, opv_eval ha hx]
      refine run_v ?_
      simp [Instr.loadAt, Instr.sureAddr, run_loadVar_one hg hw]
    · rename_i ad cs hx hg
      split at h
      · rename_i m hm
        split at h
        · rename_i he
          cases h
          subst he
          simp only [execOp, hop, opv_eval ha hx]
          refine run_v ?_
          simp [Instr.loadAt, Instr.sureAddr, run_loadVar_agg hg hm hw]
        · cases h
      · cases h
    · cases h
  | extract t i =>
    simp only [lz, hop] at h
    split at h
    · rename_i vs hx
      split at h
      · rename_i u hu
        cases h
        simp only [execOp, hop, opv_eval ha hx]
        refine run_v ?_
        simp [Instr.extract, hu]
      · cases h
    · cases h
  | makeFunc fn first captured =>
    simp only [lz, hop] at h
    split at h
    · rename_i f c hf hc
      cases h
      have e1 := opvs_eval ha hf
      have e2 := opvs_eval ha hc
      simp only [execOp, hop]
      refine run_v ?_
      have e1' : first.map a.eval = f.toArray := by rw [← e1, ← Array.toList_map]
      have e2' : captured.map a.eval = c.toArray := by rw [← e2, ← Array.toList_map]
      rw [e1', e2']
      rfl
    · cases h
  | build t parts =>
    simp only [lz, hop] at h
    split at h
    · rename_i fs i vs ht hi hv
      split at h
      · rename_i z hz
        split at h
        · rename_i cs hcs
          split at h
          · rename_i hall
            cases h
            simp only [execOp, hop]
            refine run_v ?_
            have e := opvs_eval ha hv
            have hzip : (parts.map fun (i, x) => (i, a.eval x)).toList = (parts.toList.map (·.1)).zip vs := by
              rw [← e, List.map_map]
              rw [Array.toList_map]
              generalize parts.toList = l
              clear hv e
              induction l with
              | nil => rfl
              | cons p l ih => simp only [List.map_cons, List.zip_cons_cons, ih]; rfl
            have hall' : fs.toList.all (fun f => (size? P f.type).isSome) = true := by simpa using hall
            have hp : (fs.mapM fun f => (do pure (f.offset, ← sizeOf f.type) : Sem (Nat × Nat))).run P w = .ok ((fs.toList.map fun f => (f.offset, (size? P f.type).getD 0)).toArray) w := by
              rw [Array.mapM_eq_mapM_toList, Sem.run_map, run_places _ hall']
              rfl
            simp only [Instr.build, Sem.run_bind, zeroValue, run_typeInfo' hi, Result.andThen_ok, hz, Sem.run_pure, run_underlying' ht, hp]
            rw [hzip]
            have : Instr.fill (fun x => ((fs.toList.map fun f => (f.offset, (size? P f.type).getD 0)).toArray)[x]?) z.cells ((parts.toList.map (·.1)).zip vs) = some cs := by
              rw [← fill_eq _ _ _ hcs]
              refine fill_congr _ _ fun p _ => ?_
              rw [List.getElem?_toArray, List.getElem?_map, Array.getElem?_toList]
              cases hf : fs[p.1]? with
              | none => rfl
              | some f =>
                obtain ⟨m, hm⟩ := Option.isSome_iff_exists.1 (List.all_eq_true.1 hall' f (Array.mem_toList_iff.2 (Array.mem_of_getElem? hf)))
                simp [hm]
            rw [this]
            rfl
          · cases h
        · cases h
      · cases h
    · rename_i m e i vs ht hi hv
      split at h
      · rename_i z sz hz hsz
        split at h
        · rename_i cs hcs
          cases h
          simp only [execOp, hop]
          refine run_v ?_
          have e := opvs_eval ha hv
          have hzip : (parts.map fun (i, x) => (i, a.eval x)).toList = (parts.toList.map (·.1)).zip vs := by
            rw [← e, List.map_map]
            rw [Array.toList_map]
            generalize parts.toList = l
            clear hv e
            induction l with
            | nil => rfl
            | cons p l ih => simp only [List.map_cons, List.zip_cons_cons, ih]; rfl
          simp only [Instr.build, Sem.run_bind, zeroValue, run_typeInfo' hi, Result.andThen_ok, hz, Sem.run_pure, run_underlying' ht, run_sizeOf' hsz]
          rw [hzip, fill_eq _ _ _ hcs]
          rfl
        · cases h
      · cases h
    · cases h
  | call c =>
    simp only [lz, hop] at h
    split at h
    · rename_i hcal
      split at h
      · rename_i x t hx ht
        have ea : c.args = #[x] := by rw [← Array.toArray_toList (xs := c.args), hx]
        have et : c.argTypes = #[t] := by rw [← Array.toArray_toList (xs := c.argTypes), ht]
        split at h
        · rename_i A m cc e hv hu
          cases h
          simp [execOp, hop, resolve, hcal, ea, et, invoke, builtin, Builtin.len_, opv_eval ha hv, run_underlying' hu, goInt]
        · rename_i s hv hu
          cases h
          simp [execOp, hop, resolve, hcal, ea, et, invoke, builtin, Builtin.len_, opv_eval ha hv, run_underlying' hu, goInt, bl_length]
        · cases h
      · cases h
    · rename_i hcal
      split at h
      · rename_i x t hx ht
        have ea : c.args = #[x] := by rw [← Array.toArray_toList (xs := c.args), hx]
        have et : c.argTypes = #[t] := by rw [← Array.toArray_toList (xs := c.argTypes), ht]
        split at h
        · rename_i A m cc e hv hu
          cases h
          simp [execOp, hop, resolve, hcal, ea, et, invoke, builtin, Builtin.cap_, opv_eval ha hv, run_underlying' hu, goInt]
        · cases h
      · cases h
    · rename_i hcal
      split at h
      · rename_i k x k' y hv
        cases h
        have e := opvs_eval ha hv
        have ea : c.args.map a.eval = #[.int k x, .int k' y] := by
          rw [← Array.toArray_toList (xs := c.args), List.map_toArray, e]
        simp [execOp, hop, resolve, hcal, ea, invoke, builtin, Builtin.min_, Builtin.min2]
      · cases h
    · rename_i hcal
      split at h
      · rename_i k x k' y hv
        cases h
        have e := opvs_eval ha hv
        have ea : c.args.map a.eval = #[.int k x, .int k' y] := by
          rw [← Array.toArray_toList (xs := c.args), List.map_toArray, e]
        simp [execOp, hop, resolve, hcal, ea, invoke, builtin, Builtin.max_, Builtin.max2]
      · cases h
    · cases h
  | _ => simp [lz, hop] at h
end Go.Proofs.Ytnhnipdanpcbeaa.Eng
