/- The engine, part 18: the end of a row of the call's own is cleared. -/
import Derived.Test.YtnhnipdanpcbeaaEng17
namespace Go.Proofs.Ytnhnipdanpcbeaa.Eng
open Go

section eff
variable {P : Program} {E : World} {n : Nat} {L : Fra} {I : Imm} {Ms : List Seg} {Q : Exit → Act → World → Prop} {Kk : Act → World → Prop} {o : Oper}
theorem zeroCells_eq (z : Array Value) (m : Nat) : (Builtin.zeroCells z m).toList = rowZ z.toList (m * z.size) := by
  unfold Builtin.zeroCells
  rw [rowZ_eq]
theorem eff_clear {α : Type} {K : Kd α} {c : Call} {t e : TypeId} {x : Operand} {A : Option Addr} {cA lo : Nat} {xs : List α} {s : Seg} {inf : TypeInfo} {z : Value} {d : α} (k : Nat) (hop : o.op = .call c) (hcal : c.callee = .builtin .clear)
    (hargs : c.args.toList = [x]) (hts : c.argTypes.toList = [t]) (hd : dstOk n o.dst = true) (ht : P.underlying t = some (.slice e)) (hi : P.info? e = some inf) (hz : inf.zero = some z)
    (hsz : inf.size = K.sz) (hrep : ∀ J, K.rep J d z.cells.toList) (hlo : lo ≤ xs.length) (hx : opv L x = some (cutV A cA K.sz lo xs.length)) (ho : Own K e I A cA xs s) (hm : Ms[k]? = some s)
    (hn : ∀ s', Own K e I A cA (xs.take lo ++ List.replicate (xs.length - lo) d) s' → At E n (fput L o.dst (.tuple #[])) I (Ms.set k s') Kk) : At E n L I Ms (fun a w => o.wp P a w Kk Q) := fun a w ha hs => by
  have ea : c.args = #[x] := by rw [← Array.toArray_toList (xs := c.args), hargs]
  have et : c.argTypes = #[t] := by rw [← Array.toArray_toList (xs := c.argTypes), hts]
  have hzl : z.cells.size = K.sz := by have := K.len (hrep I); simpa using this
  suffices hmain : ∃ w' s', (Builtin.clear_ #[t] o.type #[cutV A cA K.sz lo xs.length]).run P w = .ok (.tuple #[]) w' ∧
      Own K e I A cA (xs.take lo ++ List.replicate (xs.length - lo) d) s' ∧ Sat E w' I (Ms.set k s') by
    obtain ⟨w', s', hrun, hown, hs'⟩ := hmain
    refine wp_value (w' := w') (v := .tuple #[]) ?_ (hn s' hown _ _ (ha.put (dstOk_spec hd) _) hs')
    simp only [execOp, hop]
    simp [resolve, hcal, ea, et, invoke, builtin, opv_eval ha hx, hrun]
  have hset : Ms.set k s = Ms := by
    apply List.ext_getElem?
    intro i
    rw [List.getElem?_set]
    split
    · rename_i e; subst e
      rw [hm]
      simp [(List.getElem?_eq_some_iff.1 hm).1]
    · rfl
  by_cases he : xs.length - lo = 0
  · have hlx : lo = xs.length := by omega
    refine ⟨w, s, ?_, ?_, by rw [hset]; exact hs⟩
    · simp only [Builtin.clear_, List.getElem?_toArray, List.getElem?_cons_zero, Sem.run_bind, run_underlying' ht, Result.andThen_ok, cutV, he]
      split <;> simp_all
    · subst hlx
      simpa using ho
  · rcases ho with ⟨rfl, rfl, rfl, rfl⟩ | ⟨b, cells, fr, rfl, rfl, hf, h3, h4, h5⟩
    · simp at he
    have hcut : cutV (some ⟨b, 0, none⟩) cA K.sz lo xs.length = .slice (some ⟨b, lo * K.sz, none⟩) (xs.length - lo) (cA - lo) := cut_at (by omega)
    have hblk := (hs.seg (List.mem_of_getElem? hm) (.head _)).1
    let zs : List Value := rowZ z.cells.toList ((xs.length - lo) * K.sz)
    have hzlen : zs.length = (xs.length - lo) * K.sz := by simp [zs, rowZ]
    have hroom : lo * K.sz + zs.length ≤ cells.size := by
      rw [h4, hzlen, ← Nat.add_mul]
      exact Nat.mul_le_mul_right _ (by omega)
    have hone : zs.all Value.oneCell' = true := by
      rw [List.all_eq_true]
      intro v hv
      simp only [zs, rowZ, List.mem_map, List.mem_range] at hv
      obtain ⟨i, hi', rfl⟩ := hv
      have hpos : 0 < z.cells.toList.length := by
        rw [Array.length_toList, hzl]
        rcases Nat.eq_zero_or_pos K.sz with h | h
        · rw [h] at hi'; simp at hi'
        · exact h
      have hlt := Nat.mod_lt i hpos
      rw [List.getD_eq_getElem?_getD, List.getElem?_eq_getElem hlt, Option.getD_some]
      exact List.all_eq_true.1 (K.oc (hrep I)) _ (List.getElem_mem hlt)
    obtain ⟨w', hrs, hw⟩ := run_storeCells (P := P) (ad := ⟨b, lo * K.sz, none⟩) (T := e) (fr := fr) rfl zs 0 cells w hblk (.inl hf) (by simpa using hroom) hone
    refine ⟨w', _, ?_, ?_, hs.only hm hw⟩
    · obtain ⟨m, hmm⟩ : ∃ m, xs.length - lo = m + 1 := ⟨xs.length - lo - 1, by omega⟩
      rw [hcut, hmm]
      simp only [Builtin.clear_, List.getElem?_toArray, List.getElem?_cons_zero, Sem.run_bind, run_underlying' ht, Result.andThen_ok, zeroValue, run_typeInfo' hi, hz, Sem.run_pure, zeroCells_eq, hzl]
      rw [← hmm]
      have hrs' : (storeCells ⟨b, lo * K.sz, none⟩ (rowZ z.cells.toList ((xs.length - lo) * K.sz))).run P w = .ok () w' := hrs
      simp [hrs']
    · refine .inr ⟨b, _, fr, rfl, rfl, hf, by simp; omega, by rw [setFrom_size]; exact h4, fun j y hj => ?_⟩
      by_cases hlt : j < lo
      · rw [List.getElem?_append_left (by simp; omega), List.getElem?_take, if_pos hlt] at hj
        obtain ⟨cs, hc, hv⟩ := h5 j y hj
        refine ⟨cs, hc, fun i v ev => ?_⟩
        have hi2 : i < K.sz := by have := (List.getElem?_eq_some_iff.1 ev).1; rw [K.len hc] at this; exact this
        have hb : j * K.sz + i < lo * K.sz := by
          calc j * K.sz + i < j * K.sz + K.sz := by omega
            _ = (j + 1) * K.sz := by rw [Nat.add_mul]; omega
            _ ≤ lo * K.sz := Nat.mul_le_mul_right _ hlt
        rw [setFrom_get _ _ _ _ (by simpa using hroom), if_neg (by simp only [Nat.add_zero]; omega)]
        exact hv i v ev
      · rw [List.getElem?_append_right (by simp; omega)] at hj
        simp only [List.length_take, Nat.min_eq_left hlo] at hj
        have hjl := (List.getElem?_eq_some_iff.1 hj).1
        simp only [List.length_replicate] at hjl
        have hyd : y = d := by simpa [List.getElem?_replicate, hjl] using hj.symm
        subst hyd
        refine ⟨_, hrep I, fun i v hv => ?_⟩
        have hi' := (List.getElem?_eq_some_iff.1 hv).1
        have hi2 : i < K.sz := by rw [← hzl]; simpa using hi'
        have hjb : (j - lo) * K.sz + i < (xs.length - lo) * K.sz := by
          calc (j - lo) * K.sz + i < (j - lo) * K.sz + K.sz := by omega
            _ = (j - lo + 1) * K.sz := by rw [Nat.add_mul]; omega
            _ ≤ (xs.length - lo) * K.sz := Nat.mul_le_mul_right _ (by omega)
        have hjm : j * K.sz = lo * K.sz + (j - lo) * K.sz := by rw [← Nat.add_mul]; congr 1; omega
        rw [setFrom_get _ _ _ _ (by simpa using hroom), if_pos (by rw [hzlen]; simp only [Nat.add_zero]; constructor <;> omega)]
        have hmod : ((j - lo) * K.sz + i) % z.cells.toList.length = i := by
          rw [Array.length_toList, hzl, Nat.mul_comm, Nat.mul_add_mod]
          exact Nat.mod_eq_of_lt hi2
        rw [show j * K.sz + i - ((⟨b, lo * K.sz, none⟩ : Addr).off + 0) = (j - lo) * K.sz + i by simp only [Nat.add_zero]; omega]
        simp only [zs, rowZ, List.getElem?_map, List.getElem?_range hjb, Option.map_some, hmod]
        rw [List.getD_eq_getElem?_getD, hv]
        rfl
end eff
end Go.Proofs.Ytnhnipdanpcbeaa.Eng
