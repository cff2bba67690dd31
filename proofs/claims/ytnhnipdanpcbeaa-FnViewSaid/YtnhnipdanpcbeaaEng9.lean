/- The engine, part 9: slices that are made, and append. -/
import Derived.Test.YtnhnipdanpcbeaaEng8
namespace Go.Proofs.Ytnhnipdanpcbeaa.Eng
open Go

/-- The cells of ys, one behind the other, from B on. -/
def RowAt {α : Type} (K : Kd α) (I : Imm) (w : World) (B : Option Addr) (ys : List α) : Prop :=
  ∃ flat : List Value, flat.length = ys.length * K.sz ∧ (∀ j x, ys[j]? = some x → ∃ cs, K.rep I x cs ∧ ∀ i v, cs[i]? = some v → flat[j * K.sz + i]? = some v) ∧
    (0 < ys.length → B.isSome = true) ∧ (0 < ys.length → (B.getD ad0).spot = none) ∧ (∀ j v, flat[j]? = some v → w.cell? ((B.getD ad0).add j) = some v) ∧ flat.all Value.oneCell' = true
theorem flat_of {α : Type} {K : Kd α} {I : Imm} : ∀ (ys : List α) (g : Nat → List Value), (∀ j x, ys[j]? = some x → K.rep I x (g j)) →
    ∃ flat : List Value, flat.length = ys.length * K.sz ∧ (∀ j x, ys[j]? = some x → ∀ i v, (g j)[i]? = some v → flat[j * K.sz + i]? = some v) ∧
      (∀ m v, flat[m]? = some v → ∃ j i, j < ys.length ∧ m = j * K.sz + i ∧ (g j)[i]? = some v)
  | [], g, _ => ⟨[], by simp, fun j x h => by simp at h, fun m v h => by simp at h⟩
  | y :: ys, g, h => by
    obtain ⟨flat, h1, h2, h3⟩ := flat_of ys (fun j => g (j + 1)) (fun j x hx => h (j + 1) x (by simpa using hx))
    have hl : (g 0).length = K.sz := K.len (h 0 y rfl)
    refine ⟨g 0 ++ flat, by simp [h1, hl, Nat.add_mul]; omega, fun j x hx i v hv => ?_, fun m v hm => ?_⟩
    · cases j with
      | zero =>
        rw [List.getElem?_append_left (by have := (List.getElem?_eq_some_iff.1 hv).1; omega)]
        simpa using hv
      | succ j =>
        rw [List.getElem?_append_right (by rw [hl, Nat.add_mul]; omega)]
        rw [hl, show (j + 1) * K.sz + i - K.sz = j * K.sz + i by rw [Nat.add_mul]; omega]
        exact h2 j x (by simpa using hx) i v hv
    · by_cases hlt : m < (g 0).length
      · rw [List.getElem?_append_left hlt] at hm
        exact ⟨0, m, by simp, by simp, hm⟩
      · rw [List.getElem?_append_right (by omega)] at hm
        obtain ⟨j, i, g1, g2, g3⟩ := h3 _ v hm
        exact ⟨j + 1, i, by simp; omega, by rw [Nat.add_mul]; omega, g3⟩
theorem Rd.rowAt {α : Type} {K : Kd α} {I : Imm} {A : Option Addr} {c : Nat} {xs : List α} (h : Rd K I A c xs) {E w : World} {Ms : List Seg} (hs : Sat E w I Ms) : RowAt K I w A xs := by
  obtain ⟨h1, h2, h3, h4⟩ := h
  have hex : ∀ j, ∃ cs, ∀ x, xs[j]? = some x → K.rep I x cs ∧ ∀ i v, cs[i]? = some v → ICell I ((A.getD ad0).add (j * K.sz + i)) v := fun j => by
    cases hx : xs[j]? with
    | none => exact ⟨[], fun x e => by cases e⟩
    | some x =>
      obtain ⟨cs, hc⟩ := h4 j x hx
      exact ⟨cs, fun y e => by cases e; exact hc⟩
  obtain ⟨g, hg⟩ := Classical.axiomOfChoice hex
  obtain ⟨flat, f1, f2, f3⟩ := flat_of (K := K) (I := I) xs g (fun j x hx => (hg j x hx).1)
  refine ⟨flat, f1, fun j x hx => ⟨g j, (hg j x hx).1, f2 j x hx⟩, h3, h2, fun m v hm => ?_, ?_⟩
  · obtain ⟨j, i, hj, rfl, hi⟩ := f3 m v hm
    exact ((hg j _ (List.getElem?_eq_getElem hj)).2 i v hi).cell hs
  · rw [List.all_eq_true]
    intro v hv
    obtain ⟨m, hm⟩ := List.mem_iff_getElem?.1 hv
    obtain ⟨j, i, hj, rfl, hi⟩ := f3 m v hm
    exact List.all_eq_true.1 (K.oc (hg j _ (List.getElem?_eq_getElem hj)).1) v (List.mem_of_getElem? hi)
theorem Own.rowAt {α : Type} {K : Kd α} {e : TypeId} {I : Imm} {A : Option Addr} {c : Nat} {xs : List α} {s : Seg} (h : Own K e I A c xs s) {E w : World} {Ms : List Seg} {k : Nat} (hs : Sat E w I Ms) (hm : Ms[k]? = some s) : RowAt K I w A xs := by
  rcases h with ⟨rfl, rfl, rfl, rfl⟩ | ⟨b, cells, fr, rfl, rfl, hf, h3, h4, h5⟩
  · exact ⟨[], by simp, fun j x h => by simp at h, fun h => absurd h (Nat.lt_irrefl 0), fun _ => rfl, fun j v h => by simp at h, rfl⟩
  · have hex : ∀ j, ∃ cs, ∀ x, xs[j]? = some x → K.rep I x cs ∧ ∀ i v, cs[i]? = some v → cells[j * K.sz + i]? = some v := fun j => by
      cases hx : xs[j]? with
      | none => exact ⟨[], fun x e => by cases e⟩
      | some x =>
        obtain ⟨cs, hc⟩ := h5 j x hx
        exact ⟨cs, fun y e => by cases e; exact hc⟩
    obtain ⟨g, hg⟩ := Classical.axiomOfChoice hex
    obtain ⟨flat, f1, f2, f3⟩ := flat_of (K := K) (I := I) xs g (fun j x hx => (hg j x hx).1)
    refine ⟨flat, f1, fun j x hx => ⟨g j, (hg j x hx).1, f2 j x hx⟩, fun _ => rfl, fun _ => rfl, fun m v hm' => ?_, ?_⟩
    · obtain ⟨j, i, hj, rfl, hi⟩ := f3 m v hm'
      simp only [Option.getD_some, add_mk, Nat.zero_add]
      exact hs.var hm _ ((hg j _ (List.getElem?_eq_getElem hj)).2 i v hi)
    · rw [List.all_eq_true]
      intro v hv
      obtain ⟨m, hm'⟩ := List.mem_iff_getElem?.1 hv
      obtain ⟨j, i, hj, rfl, hi⟩ := f3 m v hm'
      exact List.all_eq_true.1 (K.oc (hg j _ (List.getElem?_eq_getElem hj)).1) v (List.mem_of_getElem? hi)
theorem cellsAt_of {w : World} {ad : Addr} : ∀ (l : List Value) (k : Nat), (∀ j v, l[j]? = some v → w.cell? (ad.add (k + j)) = some v) → CellsAt w ad l k
  | [], _, _ => trivial
  | v :: r, k, h => ⟨h 0 v rfl, cellsAt_of r (k + 1) fun j u e => by rw [show k + 1 + j = k + (j + 1) by omega]; exact h (j + 1) u (by simpa using e)⟩
theorem run_firstCells {P : Program} {w : World} {B : Option Addr} {c m size : Nat} {flat : List Value} (hl : flat.length = m * size) (hB : 0 < m → B.isSome = true)
    (hc : ∀ j v, flat[j]? = some v → w.cell? ((B.getD ad0).add j) = some v) : (Builtin.firstCells size m (.slice B m c)).run P w = .ok flat.toArray w := by
  cases B with
  | none =>
    have : m = 0 := by
      rcases Nat.eq_zero_or_pos m with h | h
      · exact h
      · have := hB h; cases this
    subst this
    have : flat = [] := List.eq_nil_of_length_eq_zero (by simpa using hl)
    subst this
    rfl
  | some a =>
    have := run_loadCellsFrom (P := P) flat 0 #[] (cellsAt_of flat 0 (fun j v e => by simpa using hc j v e))
    simp only [Builtin.firstCells, loadCells, ← hl]
    simpa using this
theorem growBy_le (need : Nat) : ∀ (r : Nat) (c : Nat), 256 ≤ need → c ≤ 2 * need → Builtin.growBy need r c ≤ 2 * need
  | 0, c, _, h => h
  | r + 1, c, h0, h => by
    unfold Builtin.growBy
    split
    · exact h
    · exact growBy_le need r _ h0 (by omega)
theorem nextcap_le {need cap : Nat} (h : cap < need) : Builtin.nextslicecap need cap ≤ 2 * need := by
  unfold Builtin.nextslicecap
  split
  · omega
  · split
    · omega
    · exact growBy_le need 4 cap (by omega) (by omega)
theorem zeroCells_size (z : Array Value) (n : Nat) : (Builtin.zeroCells z n).size = n * z.size := by simp [Builtin.zeroCells]

section eff
variable {P : Program} {E : World} {n : Nat} {L : Fra} {I : Imm} {Ms : List Seg} {Q : Exit → Act → World → Prop} {Kk : Act → World → Prop} {o : Oper}

/-- The elements of a row, laid anew. -/
theorem own_join {α : Type} {K : Kd α} {e : TypeId} {I : Imm} {xs ys : List α} {cap b : Nat} {fr : Nat × Nat} {cells : Array Value} {fx fy : List Value} (hf : fr.2 ≤ fr.1) (hcap : xs.length + ys.length ≤ cap) (hsz : cells.size = cap * K.sz)
    (hx : ∀ j x, xs[j]? = some x → ∃ cs, K.rep I x cs ∧ ∀ i v, cs[i]? = some v → fx[j * K.sz + i]? = some v)
    (hy : ∀ j x, ys[j]? = some x → ∃ cs, K.rep I x cs ∧ ∀ i v, cs[i]? = some v → fy[j * K.sz + i]? = some v)
    (h1 : ∀ m v, fx[m]? = some v → m < xs.length * K.sz → cells[m]? = some v) (h2 : ∀ m v, fy[m]? = some v → cells[xs.length * K.sz + m]? = some v) :
    Own K e I (some ⟨b, 0, none⟩) cap (xs ++ ys) [(b, .cells cells e fr)] := by
  refine .inr ⟨b, cells, fr, rfl, rfl, hf, by simpa using hcap, hsz, fun j x hj => ?_⟩
  by_cases hlt : j < xs.length
  · rw [List.getElem?_append_left hlt] at hj
    obtain ⟨cs, hc, hv⟩ := hx j x hj
    refine ⟨cs, hc, fun i v ev => h1 _ _ (hv i v ev) ?_⟩
    have : i < K.sz := by have := (List.getElem?_eq_some_iff.1 ev).1; rw [K.len hc] at this; exact this
    calc j * K.sz + i < j * K.sz + K.sz := by omega
      _ = (j + 1) * K.sz := by rw [Nat.add_mul]; omega
      _ ≤ xs.length * K.sz := Nat.mul_le_mul_right _ hlt
  · rw [List.getElem?_append_right (by omega)] at hj
    obtain ⟨cs, hc, hv⟩ := hy _ x hj
    refine ⟨cs, hc, fun i v ev => ?_⟩
    have := h2 _ _ (hv i v ev)
    rwa [show xs.length * K.sz + ((j - xs.length) * K.sz + i) = j * K.sz + i by rw [← Nat.add_assoc, ← Nat.add_mul]; congr 2; omega] at this

theorem eff_append {α : Type} {K : Kd α} {c : Call} {t t2 e e2 : TypeId} {x y : Operand} {A B : Option Addr} {cA cB : Nat} {xs ys : List α} {s : Seg} {inf : TypeInfo} {z : Value} (k : Nat) (hop : o.op = .call c) (hcal : c.callee = .builtin .append)
    (hargs : c.args.toList = [x, y]) (hts : c.argTypes.toList = [t, t2]) (hd : dstOk n o.dst = true) (ht : P.underlying t = some (.slice e)) (ht2 : P.underlying t2 = some (.slice e2)) (hi : P.info? e = some inf) (hz : inf.zero = some z)
    (hsz : inf.size = K.sz) (hzs : z.cells.size = K.sz) (hx : opv L x = some (.slice A xs.length cA)) (hy : opv L y = some (.slice B ys.length cB)) (ho : Own K e I A cA xs s) (hm : Ms[k]? = some s)
    (hr : ∀ w, Sat E w I Ms → RowAt K I w B ys) (hlim : (xs.length + ys.length) * inf.bytes ≤ 140737488355328) (hlen : xs.length + ys.length ≤ 9223372036854775807)
    (hn : ∀ A' c' s', Own K e I A' c' (xs ++ ys) s' → At E n (fput L o.dst (.slice A' (xs ++ ys).length c')) I (Ms.set k s') Kk) : At E n L I Ms (fun a w => o.wp P a w Kk Q) := fun a w ha hs => by
  have ea : c.args = #[x, y] := by rw [← Array.toArray_toList (xs := c.args), hargs]
  have et : c.argTypes = #[t, t2] := by rw [← Array.toArray_toList (xs := c.argTypes), hts]
  obtain ⟨fy, y1, y2, y3, y4, y5, y6⟩ := hr w hs
  obtain ⟨fx, x1, x2, x3, x4, x5, x6⟩ := ho.rowAt hs hm
  have hsize : (sizeOf e).run P w = .ok K.sz w := by rw [← hsz]; exact run_sizeOf' (by simp [size?, hi]) w
  -- what the builtin does
  suffices hmain : ∃ w' A' c' s', (Builtin.append_ #[t, t2] o.type #[.slice A xs.length cA, .slice B ys.length cB]).run P w = .ok (.slice A' (xs.length + ys.length) c') w' ∧
      Own K e I A' c' (xs ++ ys) s' ∧ Sat E w' I (Ms.set k s') by
    obtain ⟨w', A', c', s', hrun, hown, hs'⟩ := hmain
    refine wp_value (w' := w') (v := .slice A' (xs ++ ys).length c') ?_ (hn A' c' s' hown _ _ (ha.put (dstOk_spec hd) _) hs')
    simp only [execOp, hop]
    simp [resolve, hcal, ea, et, invoke, builtin, opv_eval ha hx, opv_eval ha hy, hrun]
  have hfy := run_firstCells (P := P) (w := w) (B := B) (c := cB) y1 y3 y5
  have hfx := run_firstCells (P := P) (w := w) (B := A) (c := cA) x1 x3 x5
  by_cases hfit : xs.length + ys.length ≤ cA
  · -- there is room
    rcases ho with ⟨rfl, rfl, rfl, rfl⟩ | ⟨b, cells, fr, rfl, rfl, hf, h3, h4, h5⟩
    · have hys : ys = [] := by cases ys with
        | nil => rfl
        | cons _ _ => simp at hfit
      subst hys
      refine ⟨w, none, 0, [], ?_, .inl ⟨rfl, rfl, rfl, rfl⟩, ?_⟩
      · simp only [Builtin.append_, List.getElem?_toArray, List.getElem?_cons_zero, List.getElem?_cons_succ, Sem.run_bind, run_underlying' ht, Result.andThen_ok, hsize, run_underlying' ht2, Sem.run_pure, Bool.false_eq_true, if_false, Builtin.lenOf, List.length_nil, Nat.add_zero, Nat.le_refl, if_true, Bool.not_false]
        simp only [List.length_nil] at hfy
        simp [hfy]
      · have : Ms.set k [] = Ms := by
          apply List.ext_getElem?
          intro i
          rw [List.getElem?_set]
          split
          · rename_i e; subst e
            rw [hm]
            simp [(List.getElem?_eq_some_iff.1 hm).1]
          · rfl
        rw [this]; exact hs
    · have hblk := (hs.seg (List.mem_of_getElem? hm) (.head _)).1
      have hroom : xs.length * K.sz + fy.length ≤ cells.size := by
        rw [h4, y1, ← Nat.add_mul]
        exact Nat.mul_le_mul_right _ hfit
      have hst : (⟨b, 0, none⟩ : Addr).add (xs.length * K.sz) = ⟨b, xs.length * K.sz, none⟩ := by rw [add_mk, Nat.zero_add]
      obtain ⟨w', hrs, hw⟩ := run_storeCells (P := P) (ad := ⟨b, xs.length * K.sz, none⟩) (T := e) (fr := fr) rfl fy 0 cells w hblk (.inl hf) (by simpa using hroom) y6
      refine ⟨w', some ⟨b, 0, none⟩, cA, _, ?_, ?_, hs.only hm hw⟩
      · simp only [Builtin.append_, List.getElem?_toArray, List.getElem?_cons_zero, List.getElem?_cons_succ, Sem.run_bind, run_underlying' ht, Result.andThen_ok, hsize, run_underlying' ht2, Sem.run_pure, Bool.false_eq_true, if_false, Builtin.lenOf, hfit, if_true, Bool.not_false, hfy, hst, hrs]
      · refine own_join (fx := fx) (fy := fy) hf hfit (by rw [setFrom_size]; exact h4) x2 y2 (fun m v hv hlt => ?_) (fun m v hv => ?_)
        · rw [setFrom_get _ _ _ _ (by simpa using hroom), if_neg (by simp only [Nat.add_zero]; omega)]
          have hc := x5 m v hv
          simp only [Option.getD_some, add_mk, Nat.zero_add] at hc
          unfold World.cell? at hc
          rw [hblk] at hc
          simpa using hc
        · have hlt := (List.getElem?_eq_some_iff.1 hv).1
          rw [setFrom_get _ _ _ _ (by simpa using hroom), if_pos (by simp only [Nat.add_zero]; omega)]
          rw [show xs.length * K.sz + m - (xs.length * K.sz + 0) = m by omega]
          exact hv
  · -- it grows
    have hcap := nextcap_le (need := xs.length + ys.length) (cap := cA) (by omega)
    have hnb : ¬ (Builtin.nextslicecap (xs.length + ys.length) cA * inf.bytes > 2 ^ 48) := by
      have := Nat.mul_le_mul_right inf.bytes hcap
      rw [Nat.mul_assoc] at this
      omega
    let cap' : Nat := (Question.appendCap (xs.length + ys.length) cA e).cut (w.tape w.drawn (.appendCap (xs.length + ys.length) cA e))
    have hcap' : xs.length + ys.length ≤ cap' := by simp only [cap', Question.cut]; omega
    let cells' : Array Value := fx.toArray ++ fy.toArray ++ Builtin.zeroCells z.cells (cap' - (xs.length + ys.length))
    have hcs : cells'.size = cap' * K.sz := by
      simp only [cells', Array.size_append, List.size_toArray, x1, y1, zeroCells_size, hzs]
      rw [← Nat.add_mul, ← Nat.add_mul]
      congr 1
      omega
    let w1 : World := { w with drawn := w.drawn + 1 }
    have hs1 : Sat E w1 I Ms := hs.drew _
    refine ⟨{ w1 with heap := w1.heap.push (.cells cells' e) }, some ⟨w1.heap.size, 0, none⟩, cap', [(w1.heap.size, .cells cells' e (0, 0))], ?_, ?_, ?_⟩
    · have hfy1 : (Builtin.firstCells K.sz ys.length (.slice B ys.length cB)).run P w1 = .ok fy.toArray w1 := run_firstCells y1 y3 y5
      have hfx1 : (Builtin.firstCells K.sz xs.length (.slice A xs.length cA)).run P w1 = .ok fx.toArray w1 := run_firstCells x1 x3 x5
      have hbig : ¬ (((xs.length + ys.length : Nat) : Int) > IntKind.i64.max ∧ (False ∨ inf.bytes = 0)) := by
        rintro ⟨h, _⟩
        simp only [IntKind.max, IntKind.signed, IntKind.bits, if_true] at h
        omega
      have hforced : (Question.appendCap (xs.length + ys.length) cA e).forced = false := rfl
      simp only [Builtin.append_, List.getElem?_toArray, List.getElem?_cons_zero, List.getElem?_cons_succ, Sem.run_bind, run_underlying' ht, Result.andThen_ok, hsize, run_underlying' ht2, Sem.run_pure, Bool.false_eq_true, if_false, Builtin.lenOf, hfit, Bool.not_false, if_true, run_typeInfo' hi]
      rw [if_neg hbig]
      simp only [Sem.run_bind, run_typeInfo' hi, Result.andThen_ok, hnb, if_false, run_choose, hforced, run_askRoom, Bool.false_eq_true, zeroValue]
      have e1 : ({ w with drawn := w.drawn + 1 } : World) = w1 := rfl
      simp only [e1, run_askRoom, hfx1, hfy1, Result.andThen_ok, run_typeInfo' hi, hz, Sem.run_pure, newRow, run_newObj, Sem.run_bind]
      rfl
    · refine own_join (fx := fx) (fy := fy) (Nat.le_refl _) hcap' hcs x2 y2 (fun m v hv hlt => ?_) (fun m v hv => ?_)
      · have hlt' := (List.getElem?_eq_some_iff.1 hv).1
        simp only [cells']
        rw [Array.append_assoc, Array.getElem?_append_left (by simpa using hlt')]
        simpa using hv
      · have hlt' := (List.getElem?_eq_some_iff.1 hv).1
        simp only [cells']
        rw [Array.getElem?_append_left (by simp only [Array.size_append, List.size_toArray]; omega), Array.getElem?_append_right (by simp; omega)]
        simp only [List.size_toArray, x1]
        rw [show xs.length * K.sz + m - xs.length * K.sz = m by omega]
        simpa using hv
    · have h1 := (hs1.push (.cells cells' e))
      have h2 : ([(w1.heap.size, Obj.cells cells' e (0, 0))] :: Ms).Perm (s :: [(w1.heap.size, Obj.cells cells' e (0, 0))] :: Ms.eraseIdx k) :=
        ((perm_at hm).cons _).trans (List.Perm.swap _ _ _)
      exact (h1.tail h2).perm (perm_set hm).symm
end eff
end Go.Proofs.Ytnhnipdanpcbeaa.Eng
