/- The engine, part 13: rows of the call's own with a spare part; copy; append of a make; slices.overlaps. -/
import Derived.Test.YtnhnipdanpcbeaaEng12
import Derived.Lib.Overlaps
namespace Go.Proofs.Ytnhnipdanpcbeaa.Eng
open Go

/-- A row of the call's own, all of its room: what is told of each element, or nothing. -/
def Spare {α : Type} (K : Kd α) (e : TypeId) (I : Imm) (b c : Nat) (ys : List (Option α)) (s : Seg) : Prop :=
  ∃ cells fr, s = [(b, .cells cells e fr)] ∧ fr.2 ≤ fr.1 ∧ cells.size = c * K.sz ∧ ys.length = c ∧
    ∀ j x, ys[j]? = some (some x) → ∃ cs, K.rep I x cs ∧ ∀ i v, cs[i]? = some v → cells[j * K.sz + i]? = some v
theorem Own.spare {α : Type} {K : Kd α} {e : TypeId} {I : Imm} {a : Addr} {c : Nat} {xs : List α} {s : Seg} (h : Own K e I (some a) c xs s) :
    ∃ b, a = ⟨b, 0, none⟩ ∧ Spare K e I b c (xs.map some ++ List.replicate (c - xs.length) none) s := by
  rcases h with ⟨h, _⟩ | ⟨b, cells, fr, h1, rfl, hf, h3, h4, h5⟩
  · cases h
  · cases h1
    refine ⟨b, rfl, cells, fr, rfl, hf, h4, by simp; omega, fun j x hj => h5 j x ?_⟩
    by_cases hlt : j < xs.length
    · rw [List.getElem?_append_left (by simpa using hlt)] at hj
      simpa using hj
    · rw [List.getElem?_append_right (by simp; omega), List.getElem?_replicate] at hj
      split at hj <;> simp at hj
theorem Spare.own {α : Type} {K : Kd α} {e : TypeId} {I : Imm} {b c : Nat} {ys : List (Option α)} {xs : List α} {s : Seg} (h : Spare K e I b c ys s) (hx : ∀ (j : Nat) (x : α), xs[j]? = some x → ys[j]? = some (some x)) (hl : xs.length ≤ c) :
    Own K e I (some ⟨b, 0, none⟩) c xs s := by
  obtain ⟨cells, fr, rfl, hf, h4, _, h5⟩ := h
  exact .inr ⟨b, cells, fr, rfl, rfl, hf, hl, h4, fun j x hj => h5 j x (hx j x hj)⟩
theorem Spare.mono {α : Type} {K : Kd α} {e : TypeId} {I J : Imm} {b c : Nat} {ys : List (Option α)} {s : Seg} (h : Spare K e I b c ys s) (hi : ImmLe I J) : Spare K e J b c ys s := by
  obtain ⟨cells, fr, h1, hf, h4, hl, h5⟩ := h
  exact ⟨cells, fr, h1, hf, h4, hl, fun j x hj => by obtain ⟨cs, hc, hv⟩ := h5 j x hj; exact ⟨cs, K.mono hi hc, hv⟩⟩
theorem Spare.rowAt {α : Type} {K : Kd α} {e : TypeId} {I : Imm} {b c : Nat} {ys : List (Option α)} {s : Seg} (h : Spare K e I b c ys s) (p : Nat) (zs : List α) (hz : ∀ (j : Nat) (x : α), zs[j]? = some x → ys[p + j]? = some (some x))
    {E w : World} {Ms : List Seg} {k : Nat} (hs : Sat E w I Ms) (hm : Ms[k]? = some s) : RowAt K I w (some ⟨b, p * K.sz, none⟩) zs := by
  obtain ⟨cells, fr, rfl, hf, h4, hl, h5⟩ := h
  have hex : ∀ j, ∃ cs, ∀ x, zs[j]? = some x → K.rep I x cs ∧ ∀ i v, cs[i]? = some v → cells[(p + j) * K.sz + i]? = some v := fun j => by
    cases hx : zs[j]? with
    | none => exact ⟨[], fun x e => by cases e⟩
    | some x =>
      obtain ⟨cs, hc⟩ := h5 _ x (hz j x hx)
      exact ⟨cs, fun y e => by cases e; exact hc⟩
  obtain ⟨g, hg⟩ := Classical.axiomOfChoice hex
  obtain ⟨flat, f1, f2, f3⟩ := flat_of (K := K) (I := I) zs g (fun j x hx => (hg j x hx).1)
  refine ⟨flat, f1, fun j x hx => ⟨g j, (hg j x hx).1, f2 j x hx⟩, fun _ => rfl, fun _ => rfl, fun m v hm' => ?_, ?_⟩
  · obtain ⟨j, i, hj, rfl, hi⟩ := f3 m v hm'
    simp only [Option.getD_some, add_mk]
    have := (hg j _ (List.getElem?_eq_getElem hj)).2 i v hi
    rw [show (p + j) * K.sz + i = p * K.sz + (j * K.sz + i) by rw [Nat.add_mul]; omega] at this
    exact hs.var hm _ this
  · rw [List.all_eq_true]
    intro v hv
    obtain ⟨m, hm'⟩ := List.mem_iff_getElem?.1 hv
    obtain ⟨j, i, hj, rfl, hi⟩ := f3 m v hm'
    exact List.all_eq_true.1 (K.oc (hg j _ (List.getElem?_eq_getElem hj)).1) v (List.mem_of_getElem? hi)
def lay {α : Type} (ys : List (Option α)) (i : Nat) (zs : List α) : List (Option α) := ys.take i ++ zs.map some ++ ys.drop (i + zs.length)
theorem lay_get {α : Type} (ys : List (Option α)) (i : Nat) (zs : List α) (h : i + zs.length ≤ ys.length) (j : Nat) : (lay ys i zs)[j]? = if i ≤ j ∧ j < i + zs.length then (zs[j - i]?).map some else ys[j]? := by
  unfold lay
  by_cases h1 : j < i
  · rw [if_neg (by omega), List.append_assoc, List.getElem?_append_left (by simp; omega), List.getElem?_take, if_pos h1]
  · by_cases h2 : j < i + zs.length
    · rw [if_pos ⟨by omega, h2⟩, List.append_assoc, List.getElem?_append_right (by simp; omega), List.getElem?_append_left (by simp; omega)]
      simp only [List.length_take, List.getElem?_map]
      rw [show min i ys.length = i by omega]
    · rw [if_neg (by omega), List.getElem?_append_right (by simp; omega), List.getElem?_drop]
      simp only [List.length_append, List.length_take, List.length_map]
      congr 1
      omega
section eff
variable {P : Program} {E : World} {n : Nat} {L : Fra} {I : Imm} {Ms : List Seg} {Q : Exit → Act → World → Prop} {Kk : Act → World → Prop} {o : Oper}
theorem Spare.copied {α : Type} {K : Kd α} {e : TypeId} {b c : Nat} {fr : Nat × Nat} {cells : Array Value} {ys : List (Option α)} {zs : List α} {flat : List Value} (i : Nat) (hf : fr.2 ≤ fr.1) (h4 : cells.size = c * K.sz) (hl : ys.length = c)
    (h5 : ∀ j x, ys[j]? = some (some x) → ∃ cs, K.rep I x cs ∧ ∀ i v, cs[i]? = some v → cells[j * K.sz + i]? = some v) (f1 : flat.length = zs.length * K.sz)
    (f2 : ∀ j x, zs[j]? = some x → ∃ cs, K.rep I x cs ∧ ∀ i v, cs[i]? = some v → flat[j * K.sz + i]? = some v) (hfit : i + zs.length ≤ c) :
    Spare K e I b c (lay ys i zs) [(b, .cells (setFrom cells (i * K.sz) flat) e fr)] := by
  have hroom : i * K.sz + flat.length ≤ cells.size := by
    rw [h4, f1, ← Nat.add_mul]
    exact Nat.mul_le_mul_right _ hfit
  refine ⟨_, fr, rfl, hf, by rw [setFrom_size]; exact h4, by simp [lay]; omega, fun j x hj => ?_⟩
  rw [lay_get _ _ _ (by omega)] at hj
  split at hj
  · rename_i hin
    have hj' : zs[j - i]? = some x := by simpa using hj
    obtain ⟨cs, hc, hv⟩ := f2 _ x hj'
    refine ⟨cs, hc, fun q v ev => ?_⟩
    have hq : q < K.sz := by have := (List.getElem?_eq_some_iff.1 ev).1; rw [K.len hc] at this; exact this
    have e1 : j * K.sz + q = i * K.sz + ((j - i) * K.sz + q) := by rw [← Nat.add_assoc, ← Nat.add_mul]; congr 2; omega
    have hlt := (List.getElem?_eq_some_iff.1 (hv q v ev)).1
    rw [setFrom_get _ _ _ _ hroom, if_pos (by omega), e1, show i * K.sz + ((j - i) * K.sz + q) - i * K.sz = (j - i) * K.sz + q by omega]
    exact hv q v ev
  · rename_i hout
    obtain ⟨cs, hc, hv⟩ := h5 j x hj
    refine ⟨cs, hc, fun q v ev => ?_⟩
    have hq : q < K.sz := by have := (List.getElem?_eq_some_iff.1 ev).1; rw [K.len hc] at this; exact this
    rw [setFrom_get _ _ _ _ hroom, if_neg]
    · exact hv q v ev
    · rintro ⟨g1, g2⟩
      apply hout
      constructor
      · apply Classical.byContradiction
        intro hc'
        have : (j + 1) * K.sz ≤ i * K.sz := Nat.mul_le_mul_right _ (by omega)
        rw [Nat.add_mul] at this
        omega
      · apply Classical.byContradiction
        intro hc'
        have : (i + zs.length) * K.sz ≤ j * K.sz := Nat.mul_le_mul_right _ (by omega)
        rw [Nat.add_mul] at this
        omega
theorem eff_copy {α : Type} {K : Kd α} {c : Call} {t t2 e : TypeId} {x y : Operand} {B : Option Addr} {b cap dl dc cB : Nat} {ys : List (Option α)} {zs : List α} {s : Seg} {inf : TypeInfo} (k i : Nat) (hop : o.op = .call c) (hcal : c.callee = .builtin .copy)
    (hargs : c.args.toList = [x, y]) (hts : c.argTypes.toList = [t, t2]) (hd : dstOk n o.dst = true) (ht : P.underlying t = some (.slice e)) (hi : P.info? e = some inf) (hsz : inf.size = K.sz)
    (hx : opv L x = some (.slice (some ⟨b, i * K.sz, none⟩) dl dc)) (hy : opv L y = some (.slice B zs.length cB)) (ho : Spare K e I b cap ys s) (hm : Ms[k]? = some s) (hr : ∀ w, Sat E w I Ms → RowAt K I w B zs)
    (hdl : zs.length ≤ dl) (hfit : i + zs.length ≤ cap) (hn : ∀ s', Spare K e I b cap (lay ys i zs) s' → At E n (fput L o.dst (.int .i64 zs.length)) I (Ms.set k s') Kk) : At E n L I Ms (fun a w => o.wp P a w Kk Q) := fun a w ha hs => by
  have ea : c.args = #[x, y] := by rw [← Array.toArray_toList (xs := c.args), hargs]
  have et : c.argTypes = #[t, t2] := by rw [← Array.toArray_toList (xs := c.argTypes), hts]
  obtain ⟨fy, y1, y2, y3, y4, y5, y6⟩ := hr w hs
  have hsize : (sizeOf e).run P w = .ok K.sz w := by rw [← hsz]; exact run_sizeOf' (by simp [size?, hi]) w
  have hfy := run_firstCells (P := P) (w := w) (B := B) (c := cB) y1 y3 y5
  obtain ⟨cells, fr, rfl, hf, h4, hl, h5⟩ := ho
  have hblk := (hs.seg (List.mem_of_getElem? hm) (.head _)).1
  have hroom : i * K.sz + fy.length ≤ cells.size := by
    rw [h4, y1, ← Nat.add_mul]
    exact Nat.mul_le_mul_right _ hfit
  obtain ⟨w', hrs, hw⟩ := run_storeCells (P := P) (ad := ⟨b, i * K.sz, none⟩) (T := e) (fr := fr) rfl fy 0 cells w hblk (.inl hf) (by simpa using hroom) y6
  refine wp_value (w' := w') (v := .int .i64 zs.length) ?_ (hn _ (Spare.copied i hf h4 hl h5 y1 y2 hfit) _ _ (ha.put (dstOk_spec hd) _) (hs.only hm hw))
  have hmin : zs.length.min dl = zs.length := Nat.min_eq_left hdl
  simp only [execOp, hop]
  simp [resolve, hcal, ea, et, invoke, builtin, opv_eval ha hx, opv_eval ha hy, Builtin.copy_, run_underlying' ht, Builtin.lenOf, hsize, hmin, hfy, hrs, goInt]
theorem eff_copyPart {α : Type} {K : Kd α} {c : Call} {t t2 e : TypeId} {x y : Operand} {B : Option Addr} {b cap dl dc cB lB : Nat} {ys : List (Option α)} {zs : List α} {s : Seg} {inf : TypeInfo} (k i : Nat) (hop : o.op = .call c) (hcal : c.callee = .builtin .copy)
    (hargs : c.args.toList = [x, y]) (hts : c.argTypes.toList = [t, t2]) (hd : dstOk n o.dst = true) (ht : P.underlying t = some (.slice e)) (hi : P.info? e = some inf) (hsz : inf.size = K.sz)
    (hx : opv L x = some (.slice (some ⟨b, i * K.sz, none⟩) dl dc)) (hy : opv L y = some (.slice B lB cB)) (ho : Spare K e I b cap ys s) (hm : Ms[k]? = some s) (hr : ∀ w, Sat E w I Ms → RowAt K I w B zs)
    (hdl : min lB dl = zs.length) (hfit : i + zs.length ≤ cap) (hn : ∀ s', Spare K e I b cap (lay ys i zs) s' → At E n (fput L o.dst (.int .i64 zs.length)) I (Ms.set k s') Kk) : At E n L I Ms (fun a w => o.wp P a w Kk Q) := fun a w ha hs => by
  have ea : c.args = #[x, y] := by rw [← Array.toArray_toList (xs := c.args), hargs]
  have et : c.argTypes = #[t, t2] := by rw [← Array.toArray_toList (xs := c.argTypes), hts]
  obtain ⟨fy, y1, y2, y3, y4, y5, y6⟩ := hr w hs
  have hsize : (sizeOf e).run P w = .ok K.sz w := by rw [← hsz]; exact run_sizeOf' (by simp [size?, hi]) w
  have hfy : (Builtin.firstCells K.sz zs.length (.slice B lB cB)).run P w = .ok fy.toArray w := by
    have := run_firstCells (P := P) (w := w) (B := B) (c := cB) y1 y3 y5
    cases B <;> exact this
  obtain ⟨cells, fr, rfl, hf, h4, hl, h5⟩ := ho
  have hblk := (hs.seg (List.mem_of_getElem? hm) (.head _)).1
  have hroom : i * K.sz + fy.length ≤ cells.size := by
    rw [h4, y1, ← Nat.add_mul]
    exact Nat.mul_le_mul_right _ hfit
  obtain ⟨w', hrs, hw⟩ := run_storeCells (P := P) (ad := ⟨b, i * K.sz, none⟩) (T := e) (fr := fr) rfl fy 0 cells w hblk (.inl hf) (by simpa using hroom) y6
  refine wp_value (w' := w') (v := .int .i64 zs.length) ?_ (hn _ (Spare.copied i hf h4 hl h5 y1 y2 hfit) _ _ (ha.put (dstOk_spec hd) _) (hs.only hm hw))
  have hmin : lB.min dl = zs.length := hdl
  simp only [execOp, hop]
  simp [resolve, hcal, ea, et, invoke, builtin, opv_eval ha hx, opv_eval ha hy, Builtin.copy_, run_underlying' ht, Builtin.lenOf, hsize, hmin, hfy, hrs, goInt]
/-- 'append(x, make(T, m)...)', where the room does not do. -/
theorem eff_appendMake {α : Type} {K : Kd α} {c : Call} {t t2 e : TypeId} {x y : Operand} {A : Option Addr} {cA : Nat} {xs : List α} {m : Int} {inf : TypeInfo} {z : Value} {d : α} (hop : o.op = .call c) (hcal : c.callee = .builtin .append)
    (hargs : c.args.toList = [x, y]) (hts : c.argTypes.toList = [t, t2]) (hd : dstOk n o.dst = true) (ht : P.underlying t = some (.slice e)) (ht2 : P.underlying t2 = some (.int .i64)) (hi : P.info? e = some inf) (hz : inf.zero = some z)
    (hsz : inf.size = K.sz) (hrep : ∀ J, K.rep J d z.cells.toList) (hx : opv L x = some (.slice A xs.length cA)) (hy : opv L y = some (.int .i64 m)) (h0 : 0 ≤ m) (hgrow : cA < xs.length + m.toNat)
    (hr : ∀ w, Sat E w I Ms → RowAt K I w A xs) (hlim : (xs.length + m.toNat) * inf.bytes ≤ 140737488355328) (hlen : xs.length + m.toNat ≤ 140737488355328)
    (hn : ∀ b c' s', Own K e I (some ⟨b, 0, none⟩) c' (xs ++ List.replicate m.toNat d) s' → At E n (fput L o.dst (.slice (some ⟨b, 0, none⟩) (xs ++ List.replicate m.toNat d).length c')) I (s' :: Ms) Kk) : At E n L I Ms (fun a w => o.wp P a w Kk Q) := fun a w ha hs => by
  have ea : c.args = #[x, y] := by rw [← Array.toArray_toList (xs := c.args), hargs]
  have et : c.argTypes = #[t, t2] := by rw [← Array.toArray_toList (xs := c.argTypes), hts]
  obtain ⟨fx, x1, x2, x3, x4, x5, x6⟩ := hr w hs
  have hzl : z.cells.size = K.sz := by have := K.len (hrep I); simpa using this
  have hsize : (sizeOf e).run P w = .ok K.sz w := by rw [← hsz]; exact run_sizeOf' (by simp [size?, hi]) w
  obtain ⟨N, rfl⟩ : ∃ N : Nat, m = N := ⟨m.toNat, by omega⟩
  simp only [Int.toNat_natCast] at hgrow hlim hlen hn
  have hwr : IntKind.i64.wrap (N : Int) = N := by
    simp only [IntKind.wrap, IntKind.signed, IntKind.bits]
    have : (N : Int) % 2 ^ 64 = N := Int.emod_eq_of_lt (by omega) (by omega)
    simp only [this, Bool.true_and, decide_eq_true_eq]
    rw [if_neg (by omega)]
  let fy : List Value := (Builtin.zeroCells z.cells N).toList
  have y1 : fy.length = N * K.sz := by simp [fy, zeroCells_size, hzl]
  have y2 : ∀ j x, (List.replicate N d)[j]? = some x → ∃ cs, K.rep I x cs ∧ ∀ i v, cs[i]? = some v → fy[j * K.sz + i]? = some v := fun j x hj => by
    have hlt := (List.getElem?_eq_some_iff.1 hj).1
    simp only [List.length_replicate] at hlt
    have hxd : x = d := by simpa [List.getElem?_replicate, hlt] using hj.symm
    subst hxd
    refine ⟨_, hrep I, fun i v hv => ?_⟩
    have hi' := (List.getElem?_eq_some_iff.1 hv).1
    have hi2 : i < K.sz := by rw [← hzl]; simpa using hi'
    have hb : j * K.sz + i < N * K.sz := by
      calc j * K.sz + i < j * K.sz + K.sz := by omega
        _ = (j + 1) * K.sz := by rw [Nat.add_mul]; omega
        _ ≤ N * K.sz := Nat.mul_le_mul_right _ hlt
    have hmod : (j * K.sz + i) % z.cells.size = i := by
      rw [hzl, Nat.mul_comm, Nat.mul_add_mod]
      exact Nat.mod_eq_of_lt hi2
    have hq : z.cells[i]? = some v := by simpa using hv
    have hb' : j * K.sz + i < N * z.cells.size := by rw [hzl]; exact hb
    simp only [fy, Builtin.zeroCells, Array.getElem?_toList, Array.getElem?_map]
    rw [Array.getElem?_range, if_pos hb']
    simp only [Option.map_some, hmod]
    have : i < z.cells.size := by simpa using hi'
    rw [Array.getElem?_eq_getElem this] at hq
    rw [getElem!_pos z.cells i this]
    exact hq
  have happ : ∀ w0 : World, ((if N * K.sz = 0 then pure #[] else do
      let u ← zeroValue e
      pure (Builtin.zeroCells u.cells N) : Sem (Array Value))).run P w0 = .ok fy.toArray w0 := fun w0 => by
    by_cases h : N * K.sz = 0
    · have : fy = [] := List.eq_nil_of_length_eq_zero (by omega)
      simp [h, this]
    · simp [h, zeroValue, run_typeInfo' hi, hz, fy]
  let cap' : Nat := (Question.appendCap (xs.length + N) cA e).cut (w.tape w.drawn (.appendCap (xs.length + N) cA e))
  have hcap' : xs.length + N ≤ cap' := by simp only [cap', Question.cut]; omega
  let cells' : Array Value := fx.toArray ++ fy.toArray ++ Builtin.zeroCells z.cells (cap' - (xs.length + N))
  have hcs : cells'.size = cap' * K.sz := by
    simp only [cells', Array.size_append, List.size_toArray, x1, y1, zeroCells_size, hzl]
    rw [← Nat.add_mul, ← Nat.add_mul]
    congr 1
    omega
  have hnb : ¬ (Builtin.nextslicecap (xs.length + N) cA * inf.bytes > 2 ^ 48) := by
    have := Nat.mul_le_mul_right inf.bytes (nextcap_le (need := xs.length + N) (cap := cA) (by omega))
    rw [Nat.mul_assoc] at this
    omega
  have hNb : N * inf.bytes ≤ 140737488355328 := Nat.le_trans (Nat.mul_le_mul_right _ (Nat.le_add_left N xs.length)) hlim
  let w1 : World := { w with drawn := w.drawn + 1 }
  have hs1 : Sat E w1 I Ms := hs.drew _
  have hfx1 : (Builtin.firstCells K.sz xs.length (.slice A xs.length cA)).run P w1 = .ok fx.toArray w1 := run_firstCells x1 x3 x5
  have hown : Own K e I (some ⟨w1.heap.size, 0, none⟩) cap' (xs ++ List.replicate N d) [(w1.heap.size, .cells cells' e (0, 0))] := by
    refine own_join (fx := fx) (fy := fy) (Nat.le_refl _) (by simpa using hcap') hcs x2 y2 (fun m v hv hlt => ?_) (fun m v hv => ?_)
    · have hlt' := (List.getElem?_eq_some_iff.1 hv).1
      simp only [cells']
      rw [Array.append_assoc, Array.getElem?_append_left (by simpa using hlt')]
      simpa using hv
    · have hlt' := (List.getElem?_eq_some_iff.1 hv).1
      simp only [cells']
      rw [Array.getElem?_append_left (by simp only [Array.size_append, List.size_toArray]; omega), Array.getElem?_append_right (by simp; omega)]
      simp only [List.size_toArray, x1]
      rw [show xs.length * K.sz + m - xs.length * K.sz = m by omega]
      simpa using hv
  refine wp_value (w' := { w1 with heap := w1.heap.push (.cells cells' e) }) (v := .slice (some ⟨w1.heap.size, 0, none⟩) (xs ++ List.replicate N d).length cap') ?_ (hn _ _ _ hown _ _ (ha.put (dstOk_spec hd) _) (hs1.push (.cells cells' e)))
  have hbig : ¬ (((xs.length + N : Nat) : Int) > IntKind.i64.max ∧ (True ∨ inf.bytes = 0)) := by
    rintro ⟨h, _⟩
    simp only [IntKind.max, IntKind.signed, IntKind.bits, if_true] at h
    omega
  have hforced : (Question.appendCap (xs.length + N) cA e).forced = false := rfl
  have hnl : ¬ ((N : Int) < 0) := by omega
  have hnb2 : ¬ ((N : Int) * (inf.bytes : Int) > 2 ^ 48) := by
    rw [← Int.natCast_mul]
    have h281 : (2 : Int) ^ 48 = 281474976710656 := by decide
    rw [h281]
    omega
  have hfit : ¬ (xs.length + N ≤ cA) := by omega
  suffices hmain : (Builtin.append_ #[t, t2] o.type #[.slice A xs.length cA, .int .i64 N]).run P w = .ok (.slice (some ⟨w1.heap.size, 0, none⟩) (xs.length + N) cap') { w1 with heap := w1.heap.push (.cells cells' e) } by
    simp only [execOp, hop]
    simp [resolve, hcal, ea, et, invoke, builtin, opv_eval ha hx, opv_eval ha hy, hmain]
  simp only [Builtin.append_, List.getElem?_toArray, List.getElem?_cons_zero, List.getElem?_cons_succ, Sem.run_bind, run_underlying' ht, Result.andThen_ok, hsize, run_underlying' ht2, Sem.run_pure, if_true, asInt, run_asIntOf, hwr, hnl, if_false, run_typeInfo' hi, hnb2,
    Int.toNat_natCast, hfit, Bool.not_true, Bool.false_eq_true]
  rw [if_neg hbig]
  simp only [Sem.run_bind, run_typeInfo' hi, Result.andThen_ok, hnb, if_false, run_choose, hforced, run_askRoom, Bool.false_eq_true, zeroValue]
  have e1 : ({ w with drawn := w.drawn + 1 } : World) = w1 := rfl
  have happ1 := happ w1
  simp only [zeroValue] at happ1
  simp only [e1, run_askRoom, hfx1, Result.andThen_ok, run_typeInfo' hi, hz, Sem.run_pure, newRow, run_newObj, Sem.run_bind, happ1]
  rfl
theorem eff_overlaps {c : Call} {f : FuncId} {fn : Func} {tS tR e : TypeId} {a b : Addr} {la ca lb cb : Nat} {T1 T2 : TypeId} {f1 f2 : Nat × Nat} {c1 c2 : Array Value} {inf : TypeInfo} (k1 k2 : Nat) (hop : o.op = .call c) (hcal : c.callee = .value (.func f))
    (hf : P.funcs[f]? = some fn) (hname : (fn.name == "runtime.NumGoroutine") = false) (hb : fn.body.isNone = true) (hn0 : Extern.findNext fn = none) (he : Extern.find fn = some (Extern.SlicesOverlaps.overlaps #[tS, tS] #[tR])) (hd : dstOk n o.dst = true)
    (ht : P.underlying tS = some (.slice e)) (hi : P.info? e = some inf) (hv : opvs L c.args.toList = some [.slice (some a) la ca, .slice (some b) lb cb])
    (hm1 : Ms[k1]? = some [(a.block, .cells c1 T1 f1)]) (hm2 : Ms[k2]? = some [(b.block, .cells c2 T2 f2)]) (hk : k1 ≠ k2) (hf1 : f1.2 ≤ f1.1) (hc2 : c2.size ≠ 0)
    (hn : At E n (fput L o.dst (.bool false)) I Ms Kk) : At E n L I Ms (fun a w => o.wp P a w Kk Q) := fun act w ha hs => by
  have hargs : c.args.map act.eval = #[.slice (some a) la ca, .slice (some b) lb cb] := by
    have := opvs_eval ha hv
    rw [← Array.toList_map] at this
    rw [← Array.toArray_toList (xs := c.args.map act.eval), this]
  have hblk1 := (hs.seg (List.mem_of_getElem? hm1) (.head _)).1
  have hblk2 := (hs.seg (List.mem_of_getElem? hm2) (.head _)).1
  have hne : a.block ≠ b.block := by
    intro e
    have hnd := hs.nd
    have hk1 := (List.getElem?_eq_some_iff.1 hm1)
    have hp := (perm_at hm1)
    have h3 : ((Ms.flatten).map (·.1)).Nodup := hnd
    have h4 := (hp.flatten.map (·.1)).nodup_iff.1 h3
    simp only [List.flatten_cons, List.map_append, List.map_cons, List.map_nil, List.cons_append, List.nil_append, List.nodup_cons] at h4
    apply h4.1
    have hin : [(b.block, Obj.cells c2 T2 f2)] ∈ Ms.eraseIdx k1 := by
      rw [List.mem_eraseIdx_iff_getElem?]
      exact ⟨k2, hk.symm, hm2⟩
    rw [e]
    exact List.mem_map.2 ⟨_, List.mem_flatten.2 ⟨_, hin, .head _⟩, rfl⟩
  have hrunO := Lib.run_overlaps_apart (P := P) w tS tR e ht inf.size (fun w => run_sizeOf' (by simp [size?, hi]) w) a b la ca lb cb hne T1 T2 c1.size c2.size (by simp [World.shape?, hblk1]) (by simp [World.shape?, hblk2]) hc2
    (by simp only [World.frozen?, hblk1]; simp; omega) (by simp only [World.frozen?, hblk1]; simp; omega)
  refine wp_value (w' := w) (v := .bool false) ?_ (hn _ _ (ha.put (dstOk_spec hd) _) hs)
  simp only [execOp, hop]
  simp [resolve, hcal, Act.eval, Deferred.ofValue, invoke, hargs, run_callFunc_extern hf hname hb hn0 he, hrunO]
theorem eff_overlapsOwn {α : Type} {K : Kd α} {c : Call} {f : FuncId} {fn : Func} {tS tR e : TypeId} {a : Addr} {b o2 ca cap la lb cb : Nat} {zs : List α} {ys : List (Option α)} {s1 s2 : Seg} {inf : TypeInfo} (k1 k2 : Nat) (hop : o.op = .call c) (hcal : c.callee = .value (.func f))
    (hf : P.funcs[f]? = some fn) (hname : (fn.name == "runtime.NumGoroutine") = false) (hb : fn.body.isNone = true) (hn0 : Extern.findNext fn = none) (he : Extern.find fn = some (Extern.SlicesOverlaps.overlaps #[tS, tS] #[tR])) (hd : dstOk n o.dst = true)
    (ht : P.underlying tS = some (.slice e)) (hi : P.info? e = some inf) (hv : opvs L c.args.toList = some [.slice (some a) la ca, .slice (some ⟨b, o2, none⟩) lb cb])
    (ho : Own K e I (some a) ca zs s1) (hsp : Spare K e I b cap ys s2) (hm1 : Ms[k1]? = some s1) (hm2 : Ms[k2]? = some s2) (hk : k1 ≠ k2) (hcap : 0 < cap) (hsz : 0 < K.sz)
    (hn : At E n (fput L o.dst (.bool false)) I Ms Kk) : At E n L I Ms (fun a w => o.wp P a w Kk Q) := by
  rcases ho with ⟨h, _⟩ | ⟨b1, cells1, fr1, h1, rfl, hf1, h3, h4, h5⟩
  · cases h
  cases h1
  obtain ⟨cells2, fr2, rfl, hf2, h6, h7, h8⟩ := hsp
  exact eff_overlaps k1 k2 hop hcal hf hname hb hn0 he hd ht hi hv hm1 hm2 hk hf1 (by rw [h6]; exact Nat.pos_iff_ne_zero.1 (Nat.mul_pos hcap hsz)) hn
end eff
theorem cut_at {b c size lo hi : Nat} (h : lo < c) : cutV (some ⟨b, 0, none⟩) c size lo hi = .slice (some ⟨b, lo * size, none⟩) (hi - lo) (c - lo) := by
  rw [cutV, if_neg (by omega)]
  simp [add_mk]
theorem cut_zero {A : Option Addr} {c size hi : Nat} : cutV A c size 0 hi = .slice A hi c := by
  rw [cutV]
  split
  · simp
  · cases A <;> simp [add0]
theorem wrapN {x : Int} {n : Nat} (h : x = (n : Int)) (hn : n ≤ 9223372036854775807) : (.int .i64 (IntKind.i64.wrap x) : Value) = .int .i64 (n : Int) := by
  subst h
  congr 1
  simp only [IntKind.wrap, IntKind.signed, IntKind.bits]
  have : (n : Int) % 2 ^ 64 = n := Int.emod_eq_of_lt (by omega) (by omega)
  simp only [this, Bool.true_and, decide_eq_true_eq]
  rw [if_neg (by omega)]
theorem ins_get {α : Type} {s v : List α} {p : Nat} (hp : p ≤ s.length) (j : Nat) : (s.take p ++ v ++ s.drop p)[j]? = if j < p then s[j]? else if j < p + v.length then v[j - p]? else s[j - v.length]? := by
  by_cases h1 : j < p
  · rw [if_pos h1, List.append_assoc, List.getElem?_append_left (by simp; omega), List.getElem?_take, if_pos h1]
  · rw [if_neg h1]
    by_cases h2 : j < p + v.length
    · rw [if_pos h2, List.append_assoc, List.getElem?_append_right (by simp; omega), List.getElem?_append_left (by simp; omega)]
      simp only [List.length_take]
      rw [show min p s.length = p by omega]
    · rw [if_neg h2, List.getElem?_append_right (by simp; omega), List.getElem?_drop]
      simp only [List.length_append, List.length_take]
      congr 1
      omega
theorem lay_ins {α : Type} {s v : List α} {ys : List (Option α)} {p : Nat} (hp : p ≤ s.length) (hy : s.length + v.length ≤ ys.length) (h : ∀ j, j < p → ys[j]? = (s[j]?).map some) (j : Nat) (x : α) (hx : (s.take p ++ v ++ s.drop p)[j]? = some x) :
    (lay (lay ys p v) (p + v.length) (s.drop p))[j]? = some (some x) := by
  have hl : (lay ys p v).length = ys.length := by simp [lay]; omega
  rw [lay_get _ _ _ (by simp only [List.length_drop]; omega)]
  rw [ins_get hp] at hx
  simp only [List.length_drop]
  by_cases h3 : p + v.length ≤ j ∧ j < p + v.length + (s.length - p)
  · rw [if_pos h3, List.getElem?_drop]
    rw [if_neg (by omega), if_neg (by omega)] at hx
    rw [show p + (j - (p + v.length)) = j - v.length by omega, hx]
    rfl
  · rw [if_neg h3, lay_get _ _ _ (by omega)]
    by_cases h1 : j < p
    · rw [if_neg (by omega), h j h1]
      rw [if_pos h1] at hx
      rw [hx]; rfl
    · rw [if_neg h1] at hx
      by_cases h2 : j < p + v.length
      · rw [if_pos h2] at hx
        rw [if_pos ⟨by omega, h2⟩, hx]; rfl
      · rw [if_neg h2] at hx
        have := (List.getElem?_eq_some_iff.1 hx).1
        omega
theorem lay_ins2 {α : Type} {s v : List α} {ys : List (Option α)} {p : Nat} (hp : p ≤ s.length) (hy : s.length + v.length ≤ ys.length) (h : ∀ j, j < p → ys[j]? = (s[j]?).map some) (j : Nat) (x : α) (hx : (s.take p ++ v ++ s.drop p)[j]? = some x) :
    (lay (lay ys (p + v.length) (s.drop p)) p v)[j]? = some (some x) := by
  have hl : (lay ys (p + v.length) (s.drop p)).length = ys.length := by simp [lay]; omega
  rw [lay_get _ _ _ (by omega)]
  rw [ins_get hp] at hx
  by_cases h3 : p ≤ j ∧ j < p + v.length
  · rw [if_pos h3]
    rw [if_neg (by omega), if_pos h3.2] at hx
    rw [hx]; rfl
  · rw [if_neg h3, lay_get _ _ _ (by simp only [List.length_drop]; omega)]
    simp only [List.length_drop]
    by_cases h1 : j < p
    · rw [if_neg (by omega), h j h1]
      rw [if_pos h1] at hx
      rw [hx]; rfl
    · rw [if_neg h1, if_neg (by omega)] at hx
      have := (List.getElem?_eq_some_iff.1 hx).1
      rw [if_pos (by omega), List.getElem?_drop, show p + (j - (p + v.length)) = j - v.length by omega, hx]
      rfl
theorem spare_get {α : Type} {s : List α} {c : Nat} (j : Nat) (hj : j < s.length) : (s.map some ++ List.replicate (c - s.length) none)[j]? = (s[j]?).map some := by
  rw [List.getElem?_append_left (by simpa using hj), List.getElem?_map]
theorem spare_get2 {α : Type} {s : List α} {c : Nat} (p j : Nat) (x : α) (hx : (s.drop p)[j]? = some x) : (s.map some ++ List.replicate (c - s.length) none)[p + j]? = some (some x) := by
  rw [List.getElem?_drop] at hx
  rw [spare_get _ (List.getElem?_eq_some_iff.1 hx).1, hx]
  rfl
theorem grown_get {α : Type} {s : List α} {d : α} {p m c : Nat} (hp : p ≤ s.length) (j : Nat) (hj : j < p) : ((s.take p ++ List.replicate m d).map some ++ List.replicate (c - (s.take p ++ List.replicate m d).length) none)[j]? = (s[j]?).map some := by
  rw [spare_get _ (by simp; omega), List.getElem?_append_left (by simp; omega), List.getElem?_take, if_pos hj]
end Go.Proofs.Ytnhnipdanpcbeaa.Eng
