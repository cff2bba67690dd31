/- The engine, part 10: literals of slices, make, stores into rows. -/
import Derived.Test.YtnhnipdanpcbeaaEng9
namespace Go.Proofs.Ytnhnipdanpcbeaa.Eng
open Go

def All2 {α β : Type} (R : α → β → Prop) : List α → List β → Prop
  | [], [] => True
  | x :: xs, y :: ys => R x y ∧ All2 R xs ys
  | _, _ => False
theorem All2.length {α β : Type} {R : α → β → Prop} : ∀ {xs : List α} {ys : List β}, All2 R xs ys → xs.length = ys.length
  | [], [], _ => rfl
  | _ :: xs, _ :: ys, h => by simp [All2.length h.2]
theorem All2.get {α β : Type} {R : α → β → Prop} : ∀ {xs : List α} {ys : List β}, All2 R xs ys → ∀ (j : Nat) (x : α) (y : β), xs[j]? = some x → ys[j]? = some y → R x y
  | [], [], _, j, x, y, h, _ => by simp at h
  | _ :: xs, _ :: ys, h, 0, x, y, hx, hy => by cases hx; cases hy; exact h.1
  | _ :: xs, _ :: ys, h, j + 1, x, y, hx, hy => All2.get h.2 j x y (by simpa using hx) (by simpa using hy)
theorem flatten_get {sz : Nat} : ∀ (css : List (List Value)), (∀ cs ∈ css, cs.length = sz) → css.flatten.length = css.length * sz ∧ ∀ j cs, css[j]? = some cs → ∀ i v, cs[i]? = some v → css.flatten[j * sz + i]? = some v
  | [], _ => ⟨by simp, fun j cs h => by simp at h⟩
  | c :: css, h => by
    obtain ⟨h1, h2⟩ := flatten_get css (fun cs m => h cs (.tail _ m))
    have hl : c.length = sz := h c (.head _)
    refine ⟨by simp only [List.flatten_cons, List.length_append, h1, List.length_cons, Nat.add_mul, hl]; omega, fun j cs hj i v hv => ?_⟩
    cases j with
    | zero =>
      simp only [List.getElem?_cons_zero, Option.some.injEq] at hj
      subst hj
      rw [List.flatten_cons, List.getElem?_append_left (by have := (List.getElem?_eq_some_iff.1 hv).1; omega)]
      simpa using hv
    | succ j =>
      rw [List.flatten_cons, List.getElem?_append_right (by rw [hl, Nat.add_mul]; omega), hl, show (j + 1) * sz + i - sz = j * sz + i by rw [Nat.add_mul]; omega]
      exact h2 j cs (by simpa using hj) i v hv
theorem own_lit {α : Type} {K : Kd α} {e : TypeId} {I : Imm} {xs : List α} {css : List (List Value)} {cells : Array Value} {b : Nat} (h : All2 (K.rep I) xs css) (hc : css.flatten.toArray = cells) :
    Own K e I (some ⟨b, 0, none⟩) xs.length xs [(b, .cells cells e (0, 0))] := by
  have hl := h.length
  have hsz : ∀ cs ∈ css, cs.length = K.sz := fun cs hm => by
    obtain ⟨j, hj⟩ := List.mem_iff_getElem?.1 hm
    have hlt := (List.getElem?_eq_some_iff.1 hj).1
    exact K.len (h.get j _ cs (List.getElem?_eq_getElem (by omega)) hj)
  obtain ⟨f1, f2⟩ := flatten_get css hsz
  refine .inr ⟨b, cells, (0, 0), rfl, rfl, Nat.le_refl _, Nat.le_refl _, by rw [← hc, List.size_toArray, f1, hl], fun j x hj => ?_⟩
  have hlt := (List.getElem?_eq_some_iff.1 hj).1
  have hcs : css[j]? = some (css[j]'(by omega)) := List.getElem?_eq_getElem (by omega)
  refine ⟨_, h.get j x _ hj hcs, fun i v hv => ?_⟩
  rw [← hc, List.getElem?_toArray]
  exact f2 j _ hcs i v hv

def rowZ (z : List Value) (m : Nat) : List Value := (List.range m).map fun i => z.getD (i % z.length) default
theorem rowZ_eq (z : Array Value) (m : Nat) : (Array.range m).map (fun i => z[i % z.size]!) = (rowZ z.toList m).toArray := by
  apply Array.ext
  · simp [rowZ]
  · intro i h1 h2
    simp [rowZ, getElem!_def, List.getD_eq_getElem?_getD]
    cases z[i % z.size]? <;> rfl
def buildS (P : Program) (L : Fra) (t : TypeId) (len : Nat) (parts : Array (Nat × Operand)) : Option (TypeId × Array Value) :=
  match P.underlying t with
  | some (.slice e) => match P.info? e, opvs L (parts.toList.map (·.2)) with
    | some i, some vs => match i.zero, Nat.ble (len * i.size) 16777216 with
      | some z, true => match fillS (fun j => some (j * i.size, i.size)) (rowZ z.cells.toList (len * i.size)).toArray ((parts.toList.map (·.1)).zip vs) with
        | some cs => some (e, cs)
        | none => none
      | _, _ => none
    | _, _ => none
  | _ => none
section eff
variable {P : Program} {E : World} {n : Nat} {L : Fra} {I : Imm} {Ms : List Seg} {Q : Exit → Act → World → Prop} {Kk : Act → World → Prop} {o : Oper}
theorem eff_buildSlice {t e : TypeId} {len : Nat} {parts : Array (Nat × Operand)} {cells : Array Value} (m : Nat) (hlm : len = m) (hop : o.op = .buildSlice t len parts) (hd : dstOk n o.dst = true) (hb : buildS P L t len parts = some (e, cells))
    (hn : ∀ g, At E n (fput L o.dst (.slice (some ⟨g, 0, none⟩) m m)) I ([(g, .cells cells e (0, 0))] :: Ms) Kk) : At E n L I Ms (fun a w => o.wp P a w Kk Q) := fun a w ha hs => by
  subst hlm
  unfold buildS at hb
  split at hb
  case h_2 => cases hb
  rename_i e' ht
  split at hb
  case h_2 => cases hb
  rename_i i vs hi hv
  split at hb
  case h_2 => cases hb
  rename_i z hz hle
  split at hb
  case h_2 => cases hb
  rename_i cs hf
  cases hb
  have hle' := Nat.le_of_ble_eq_true hle
  have ev := opvs_eval ha hv
  have hsize : (sizeOf e).run P w = .ok i.size w := run_sizeOf' (by simp [size?, hi]) w
  refine wp_value (w' := { w with heap := w.heap.push (.cells cells e) }) (v := .slice (some ⟨w.heap.size, 0, none⟩) len len) ?_ (hn w.heap.size _ _ (ha.put (dstOk_spec hd) _) (hs.push _))
  simp only [execOp, hop]
  refine run_v ?_
  have hzip : (parts.map fun (i, x) => (i, a.eval x)).toList = (parts.toList.map (·.1)).zip vs := by
    rw [← ev, List.map_map]
    rw [Array.toList_map]
    generalize parts.toList = l
    clear hv ev hf
    induction l with
    | nil => rfl
    | cons p l ih => simp only [List.map_cons, List.zip_cons_cons, ih]; rfl
  have hfill := fill_eq _ _ _ hf
  unfold Instr.buildSlice
  simp only [Sem.run_bind, run_underlying' ht, Result.andThen_ok, hsize]
  rw [if_neg (by omega)]
  by_cases h0 : len * i.size = 0
  · rw [if_pos h0]
    rw [h0] at hfill
    simp only [Sem.run_bind, Sem.run_pure, Result.andThen_ok, hzip, h0]
    rw [show (Array.map (fun x => (#[] : Array Value)[x % (#[] : Array Value).size]!) (Array.range 0)) = (rowZ z.cells.toList 0).toArray by simp [rowZ], hfill]
    simp [newRow]
  · rw [if_neg h0]
    simp only [Sem.run_bind, zeroValue, run_typeInfo' hi, Result.andThen_ok, hz, Sem.run_pure, hzip]
    rw [rowZ_eq, hfill]
    simp [newRow]
theorem eff_makeSlice {α : Type} {K : Kd α} {t e : TypeId} {x y : Operand} {m : Int} {inf : TypeInfo} {z : Value} {d : α} (hop : o.op = .makeSlice t x y) (hd : dstOk n o.dst = true) (hx : opv L x = some (.int .i64 m)) (hy : opv L y = some (.int .i64 m))
    (ht : P.underlying t = some (.slice e)) (hi : P.info? e = some inf) (hz : inf.zero = some z) (hsz : inf.size = K.sz) (hrep : ∀ J, K.rep J d z.cells.toList) (h0 : 0 ≤ m) (hlim : m * inf.bytes ≤ 281474976710656) (hmax : m ≤ 9223372036854775807)
    (hn : ∀ g s, Own K e I (some ⟨g, 0, none⟩) m.toNat (List.replicate m.toNat d) s → At E n (fput L o.dst (.slice (some ⟨g, 0, none⟩) (List.replicate m.toNat d).length m.toNat)) I (s :: Ms) Kk) : At E n L I Ms (fun a w => o.wp P a w Kk Q) := fun a w ha hs => by
  have hsize : (sizeOf e).run P w = .ok K.sz w := by rw [← hsz]; exact run_sizeOf' (by simp [size?, hi]) w
  have hzl : z.cells.size = K.sz := by have := K.len (hrep I); simpa using this
  have hw : IntKind.i64.wrap m = m := by
    simp only [IntKind.wrap, IntKind.signed, IntKind.bits]
    have : m % 2 ^ 64 = m := Int.emod_eq_of_lt h0 (by omega)
    simp only [this, Bool.true_and, decide_eq_true_eq]
    rw [if_neg (by omega)]
  let cells : Array Value := (rowZ z.cells.toList (m.toNat * K.sz)).toArray
  have hown : Own K e I (some ⟨w.heap.size, 0, none⟩) m.toNat (List.replicate m.toNat d) [(w.heap.size, .cells cells e (0, 0))] := by
    refine .inr ⟨_, cells, (0, 0), rfl, rfl, Nat.le_refl _, by simp, by simp [cells, rowZ], fun j x hj => ?_⟩
    have hlt := (List.getElem?_eq_some_iff.1 hj).1
    simp only [List.length_replicate] at hlt
    have hxd : x = d := by simpa [List.getElem?_replicate, hlt] using hj.symm
    subst hxd
    refine ⟨_, hrep I, fun i v hv => ?_⟩
    have hi' := (List.getElem?_eq_some_iff.1 hv).1
    have hi2 : i < K.sz := by rw [← hzl]; simpa using hi'
    have hb : j * K.sz + i < m.toNat * K.sz := by
      calc j * K.sz + i < j * K.sz + K.sz := by omega
        _ = (j + 1) * K.sz := by rw [Nat.add_mul]; omega
        _ ≤ m.toNat * K.sz := Nat.mul_le_mul_right _ hlt
    have hmod : (j * K.sz + i) % z.cells.toList.length = i := by
      rw [Array.length_toList, hzl, Nat.mul_comm, Nat.mul_add_mod]
      exact Nat.mod_eq_of_lt hi2
    simp only [cells, rowZ, List.getElem?_toArray, List.getElem?_map, List.getElem?_range hb, Option.map_some, hmod]
    rw [List.getD_eq_getElem?_getD, hv]
    rfl
  refine wp_value (w' := { w with heap := w.heap.push (.cells cells e) }) (v := .slice (some ⟨w.heap.size, 0, none⟩) (List.replicate m.toNat d).length m.toNat) ?_ (hn w.heap.size _ hown _ _ (ha.put (dstOk_spec hd) _) (hs.push _))
  simp only [execOp, hop, opv_eval ha hx, opv_eval ha hy]
  refine run_v ?_
  have hlt : ¬ (m < 0 ∨ (inf.bytes : Int) * m > 2 ^ 48) := by
    rw [Int.mul_comm]; omega
  have hcond : (decide (m < 0) || decide ((inf.bytes : Int) * m > 2 ^ 48) || decide (m < 0) || decide (m > m)) = false := by
    simp only [not_or] at hlt
    simp only [hlt.1, hlt.2, decide_false, Bool.or_false, Bool.false_or]
    simp
  unfold Instr.makeSlice
  simp only [Sem.run_bind, run_underlying' ht, Result.andThen_ok, asInt, run_asIntOf, Sem.run_pure, run_typeInfo' hi, hw, hcond, Bool.false_eq_true, if_false, run_askRoom, hsize]
  by_cases hz0 : m.toNat * K.sz = 0
  · simp only [hz0, if_true, Sem.run_bind, Sem.run_pure, Result.andThen_ok]
    have : cells = (Array.map (fun x => (#[] : Array Value)[x % (#[] : Array Value).size]!) (Array.range 0)) := by simp only [cells, hz0]; simp [rowZ]
    simp [newRow, this]
  · simp only [hz0, if_false, Sem.run_bind, zeroValue, run_typeInfo' hi, Result.andThen_ok, hz, Sem.run_pure]
    rw [rowZ_eq]
    simp [newRow, cells]
/-- A store into an element of a row of the call's own: the cells from j on. -/
theorem eff_storeOwn {α : Type} {K : Kd α} {t e : TypeId} {x y : Operand} {A : Option Addr} {c : Nat} {xs : List α} {s : Seg} {v : Value} {u : α} (k j : Nat) (d : α) (i : Int) {ad : Addr} (hop : o.op = .store t x y) (hd : dstOk n o.dst = true)
    (hx : opv L x = some (.pointer (some ad))) (hv : opv L y = some v) (hown : Own K e I A c xs s) (hm : Ms[k]? = some s) (h0 : 0 ≤ i) (h1 : i < (xs.length : Int)) (had : ad = ((A.getD ad0).add (i.toNat * K.sz)).add j)
    (hsz : size? P t = some v.cells.size) (hj : j + v.cells.size ≤ K.sz) (ho : v.cells.toList.all Value.oneCell' = true)
    (hrep : ∀ cs, K.rep I (rdA d xs i) cs → K.rep I u (cs.take j ++ v.cells.toList ++ cs.drop (j + v.cells.size)))
    (hn : ∀ s', Own K e I A c (xs.set i.toNat u) s' → At E n (fput L o.dst undef) I (Ms.set k s') Kk) : At E n L I Ms (fun a w => o.wp P a w Kk Q) := by
  subst had
  rcases hown with ⟨_, _, rfl, _⟩ | ⟨b, cells, fr, rfl, rfl, hf, h3, h4, h5⟩
  · simp at h1; omega
  simp only [Option.getD_some, add_mk, Nat.zero_add] at hx
  have hlt : i.toNat < xs.length := by omega
  have hroom : i.toNat * K.sz + j + v.cells.size ≤ cells.size := by
    rw [h4]
    calc i.toNat * K.sz + j + v.cells.size ≤ i.toNat * K.sz + K.sz := by omega
      _ = (i.toNat + 1) * K.sz := by rw [Nat.add_mul]; omega
      _ ≤ c * K.sz := Nat.mul_le_mul_right _ (by omega)
  refine eff_store (ad := ⟨b, i.toNat * K.sz + j, none⟩) k hop hd hx hv hm rfl (.inl hf) hsz hroom ho (hn _ ?_)
  refine .inr ⟨b, _, fr, rfl, rfl, hf, by simpa using h3, by rw [setFrom_size]; exact h4, fun m z hz => ?_⟩
  have hget : ∀ q, (setFrom cells (i.toNat * K.sz + j) v.cells.toList)[q]? = if i.toNat * K.sz + j ≤ q ∧ q < i.toNat * K.sz + j + v.cells.size then v.cells.toList[q - (i.toNat * K.sz + j)]? else cells[q]? := fun q => by
    rw [setFrom_get _ _ _ _ (by simpa using hroom)]
    simp
  by_cases hmi : m = i.toNat
  · subst hmi
    rw [List.getElem?_set_self hlt] at hz
    cases hz
    obtain ⟨cs, hc, hcv⟩ := h5 _ _ (rdA_some d xs i h0 h1)
    have hcl := K.len hc
    refine ⟨_, hrep cs hc, fun q w' hw' => ?_⟩
    rw [hget]
    by_cases hq1 : q < j
    · rw [if_neg (by omega)]
      rw [List.append_assoc, List.getElem?_append_left (by simp; omega), List.getElem?_take, if_pos hq1] at hw'
      exact hcv q w' hw'
    · by_cases hq2 : q < j + v.cells.size
      · rw [if_pos (by omega)]
        rw [List.append_assoc, List.getElem?_append_right (by simp; omega), List.getElem?_append_left (by simp; omega)] at hw'
        simp only [List.length_take] at hw'
        rw [show min j cs.length = j by omega] at hw'
        rw [show i.toNat * K.sz + q - (i.toNat * K.sz + j) = q - j by omega]
        exact hw'
      · rw [if_neg (by omega)]
        rw [List.getElem?_append_right (by simp; omega), List.getElem?_drop] at hw'
        simp only [List.length_append, List.length_take, Array.length_toList] at hw'
        rw [show j + v.cells.size + (q - (min j cs.length + v.cells.size)) = q by omega] at hw'
        exact hcv q w' hw'
  · rw [List.getElem?_set_ne (fun h => hmi h.symm)] at hz
    obtain ⟨cs, hc, hcv⟩ := h5 m z hz
    refine ⟨cs, hc, fun q w' hw' => ?_⟩
    rw [hget, if_neg]
    · exact hcv q w' hw'
    · have hq : q < K.sz := by have := (List.getElem?_eq_some_iff.1 hw').1; rw [K.len hc] at this; exact this
      rcases Nat.lt_or_ge m i.toNat with h | h
      · have : m * K.sz + K.sz ≤ i.toNat * K.sz := by
          calc m * K.sz + K.sz = (m + 1) * K.sz := by rw [Nat.add_mul]; omega
            _ ≤ i.toNat * K.sz := Nat.mul_le_mul_right _ h
        omega
      · have : i.toNat * K.sz + K.sz ≤ m * K.sz := by
          calc i.toNat * K.sz + K.sz = (i.toNat + 1) * K.sz := by rw [Nat.add_mul]; omega
            _ ≤ m * K.sz := Nat.mul_le_mul_right _ (by omega)
        omega
end eff
end Go.Proofs.Ytnhnipdanpcbeaa.Eng
