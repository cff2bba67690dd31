/- The engine, part 16: conversions between rows of bytes and strings. -/
import Derived.Test.YtnhnipdanpcbeaaEng13
import Derived.Laws.IdiomStrings
import Derived.Lib.AppendStr
import Derived.Lib.Bytealg
namespace Go.Proofs.Ytnhnipdanpcbeaa.Eng
open Go

def toB (xs : List Int) : List UInt8 := xs.map fun n => UInt8.ofNat n.toNat
def ofB (l : List UInt8) : List Int := l.map fun b => (b.toNat : Int)
theorem ofB_length (l : List UInt8) : (ofB l).length = l.length := by simp [ofB]
theorem toB_length (l : List Int) : (toB l).length = l.length := by simp [toB]
theorem toB_ofB : ∀ (l : List UInt8), toB (ofB l) = l
  | [] => rfl
  | b :: l => by
    have ih := toB_ofB l
    simp only [toB, ofB, List.map_cons] at ih ⊢
    rw [ih]
    simp
theorem pushes : ∀ (xs : List Int) (r : ByteArray), xs.foldl (fun r n => r.push (UInt8.ofNat n.toNat)) r = ⟨r.data ++ (toB xs).toArray⟩
  | [], r => by simp [toB]
  | n :: xs, r => by
    rw [List.foldl_cons, pushes xs]
    simp [ByteArray.push, toB]
theorem run_bytesStr {P : Program} {w : World} {I : Imm} {A : Option Addr} {c : Nat} {xs : List Int} (h : RowAt (Kd.int .u8) I w A xs) :
    (Conv.bytesToString (.slice A xs.length c)).run P w = .ok (str (toB xs)) w := by
  obtain ⟨flat, f1, f2, f3, f4, f5, f6⟩ := h
  cases A with
  | none =>
    have : xs = [] := by
      rcases Nat.eq_zero_or_pos xs.length with h | h
      · exact List.eq_nil_of_length_eq_zero h
      · have := f3 h; cases this
    subst this
    rfl
  | some a =>
    have hf : flat = xs.map (Value.int .u8) := by
      apply List.ext_getElem?
      intro j
      rw [List.getElem?_map]
      cases hx : xs[j]? with
      | none =>
        have := List.getElem?_eq_none_iff.1 hx
        simp only [Option.map_none, List.getElem?_eq_none_iff]
        simp only [Kd.int, Kd.one] at f1; omega
      | some x =>
        obtain ⟨cs, hc, hv⟩ := f2 j x hx
        have := hv 0 (.int .u8 x) (by rw [show cs = [.int .u8 x] from hc]; rfl)
        simpa [Kd.int, Kd.one] using this
    have hl := run_loadCells_list (P := P) (w := w) a flat (fun j v hj => by simpa using f5 j v hj)
    rw [hf] at hl
    simp only [List.length_map] at hl
    rw [run_bytesToString w a xs.length c xs hl, pushes]
    have he0 : ByteArray.empty.data = #[] := rfl
    rw [he0]
    simp [str]
section eff
variable {P : Program} {E : World} {n : Nat} {L : Fra} {I : Imm} {Ms : List Seg} {Q : Exit → Act → World → Prop} {K Kk : Act → World → Prop} {o : Oper}
theorem eff_bytesStr {s t e : TypeId} {x : Operand} {A : Option Addr} {c : Nat} {xs : List Int} (hop : o.op = .convert s t x) (hd : dstOk n o.dst = true) (hs : P.underlying s = some (.slice e)) (he : P.underlying e = some (.int .u8)) (ht : P.underlying t = some .string)
    (hx : opv L x = some (.slice A xs.length c)) (hr : ∀ w, Sat E w I Ms → RowAt (Kd.int .u8) I w A xs)
    (hn : At E n (fput L o.dst (str (toB xs))) I Ms K) : At E n L I Ms (fun a w => o.wp P a w K Q) := fun a w ha hsat => by
  refine wp_value (w' := w) (v := str (toB xs)) ?_ (hn _ _ (ha.put (dstOk_spec hd) _) hsat)
  simp only [execOp, hop, opv_eval ha hx]
  refine run_v ?_
  rw [run_convert_bytes_string w s t e A xs.length c hs he ht]
  exact run_bytesStr (hr w hsat)
theorem eff_strBytes {s t e : TypeId} {x : Operand} {l : List UInt8} (hop : o.op = .convert s t x) (hd : dstOk n o.dst = true) (hs : P.underlying s = some .string) (ht : P.underlying t = some (.slice e)) (he : P.underlying e = some (.int .u8))
    (hx : opv L x = some (str l)) (hn : ∀ A c J, ImmLe I J → Rd (Kd.int .u8) J A c (ofB l) → At E n (fput L o.dst (.slice A (ofB l).length c)) J Ms K) : At E n L I Ms (fun a w => o.wp P a w K Q) := fun a w ha hsat => by
  let sb : ByteArray := ⟨⟨l⟩⟩
  let cap := grownCap w sb.size 0 e
  let cells := bytesRow sb cap
  let o' : Obj := .cells cells e (cells.size, cells.size + 1)
  let w1 : World := w.drew.alloc o'
  have hw1 : w1 = { ({ w with drawn := w.drawn + 1 } : World) with heap := w.heap.push o' } := by simp [w1, World.alloc, World.drew, -World.alloc_eq, -World.drew_eq]
  have hs1 : Sat E w1 I ([(w.heap.size, o')] :: Ms) := by rw [hw1]; exact (hsat.drew (w.drawn + 1)).push o'
  obtain ⟨J, hJ, hseg, hs2⟩ := hs1.freeze (k := 0) rfl
  have hb : J w.heap.size = some o' := hseg _ _ (.head _)
  have hsz : sb.size = l.length := rfl
  have hrd : Rd (Kd.int .u8) J (some ⟨w.heap.size, 0, none⟩) cap (ofB l) := by
    refine ⟨?_, fun _ => rfl, fun _ => rfl, fun j z hj => ⟨[.int .u8 z], rfl, fun i v hv => ?_⟩⟩
    · rw [ofB_length, ← hsz]; simp only [cap, grownCap, Question.cut]; omega
    · cases i with
      | succ i => simp at hv
      | zero =>
        simp only [List.getElem?_cons_zero, Option.some.injEq] at hv
        subst hv
        have hjl : j < l.length := by rw [← ofB_length]; exact (List.getElem?_eq_some_iff.1 hj).1
        refine ⟨cells, e, _, by simpa [add_mk] using hb, by simp [add_mk], ?_⟩
        have := bytesRow_at sb cap j (by simpa [sb] using hjl)
        simp only [Kd.int, Kd.one, Option.getD_some, add_mk, Nat.zero_add, Nat.mul_one, Nat.add_zero]
        rw [this]
        simp only [ofB, List.getElem?_map, List.getElem?_eq_getElem hjl, Option.map_some, Option.some.injEq] at hj
        subst hj
        rfl
  refine wp_value (w' := w1) (v := .slice (some ⟨w.heap.size, 0, none⟩) (ofB l).length cap) ?_ (hn _ _ J hJ hrd _ _ (ha.put (dstOk_spec hd) _) hs2)
  simp only [execOp, hop, opv_eval ha hx]
  refine run_v ?_
  rw [ofB_length, ← hsz]
  exact run_bytes_of_string w s t e sb hs ht he
theorem eff_cmpString {c : Call} {f : FuncId} {fn : Func} {x y : List UInt8} (hop : o.op = .call c) (hcal : c.callee = .value (.func f)) (hf : P.funcs[f]? = some fn) (hname : (fn.name == "runtime.NumGoroutine") = false) (hb : fn.body.isNone = true)
    (hn0 : Extern.findNext fn = none) (he : Extern.find fn = some Extern.BytealgCompare.compare) (hd : dstOk n o.dst = true) (hv : opvs L c.args.toList = some [str x, str y])
    (hn : At E n (fput L o.dst (.int .i64 (Lib.compareBytes x y))) I Ms K) : At E n L I Ms (fun a w => o.wp P a w K Q) := fun act w ha hs => by
  have hargs : c.args.map act.eval = #[str x, str y] := by
    have := opvs_eval ha hv
    rw [← Array.toList_map] at this
    rw [← Array.toArray_toList (xs := c.args.map act.eval), this]
  refine wp_value (w' := w) (v := .int .i64 (Lib.compareBytes x y)) ?_ (hn _ _ (ha.put (dstOk_spec hd) _) hs)
  have hrun := Lib.run_compareString (P := P) ⟨⟨x⟩⟩ ⟨⟨y⟩⟩ w
  simp only [execOp, hop]
  simp only [str] at hargs
  simp [resolve, hcal, Act.eval, Deferred.ofValue, invoke, hargs, run_callFunc_extern hf hname hb hn0 he, hrun]
theorem eff_appendG {α : Type} {K : Kd α} {c : Call} {t t2 e : TypeId} {x y : Operand} {A : Option Addr} {cA : Nat} {Yv : Value} {xs ys : List α} {s : Seg} {inf : TypeInfo} {z : Value} (k : Nat) (hop : o.op = .call c) (hcal : c.callee = .builtin .append)
    (hargs : c.args.toList = [x, y]) (hts : c.argTypes.toList = [t, t2]) (hd : dstOk n o.dst = true) (ht : P.underlying t = some (.slice e)) (ht2 : P.underlying t2 = some .string) (hi : P.info? e = some inf) (hz : inf.zero = some z)
    (hsz : inf.size = K.sz) (hzs : z.cells.size = K.sz) (hx : opv L x = some (.slice A xs.length cA)) (hy : opv L y = some Yv) (hYl : ∀ w, (Builtin.lenOf Yv).run P w = .ok ys.length w) (ho : Own K e I A cA xs s) (hm : Ms[k]? = some s)
    (hr : ∃ fy : List Value, fy.length = ys.length * K.sz ∧ (∀ j x, ys[j]? = some x → ∃ cs, K.rep I x cs ∧ ∀ i v, cs[i]? = some v → fy[j * K.sz + i]? = some v) ∧ fy.all Value.oneCell' = true ∧ ∀ w, (Builtin.firstCells K.sz ys.length Yv).run P w = .ok fy.toArray w) (hlim : (xs.length + ys.length) * inf.bytes ≤ 140737488355328) (hlen : xs.length + ys.length ≤ 9223372036854775807)
    (hn : ∀ A' c' s', Own K e I A' c' (xs ++ ys) s' → At E n (fput L o.dst (.slice A' (xs ++ ys).length c')) I (Ms.set k s') Kk) : At E n L I Ms (fun a w => o.wp P a w Kk Q) := fun a w ha hs => by
  have ea : c.args = #[x, y] := by rw [← Array.toArray_toList (xs := c.args), hargs]
  have et : c.argTypes = #[t, t2] := by rw [← Array.toArray_toList (xs := c.argTypes), hts]
  obtain ⟨fy, y1, y2, y6, hfyS⟩ := hr
  obtain ⟨fx, x1, x2, x3, x4, x5, x6⟩ := ho.rowAt hs hm
  have hsize : (sizeOf e).run P w = .ok K.sz w := by rw [← hsz]; exact run_sizeOf' (by simp [size?, hi]) w
  -- what the builtin does
  suffices hmain : ∃ w' A' c' s', (Builtin.append_ #[t, t2] o.type #[.slice A xs.length cA, Yv]).run P w = .ok (.slice A' (xs.length + ys.length) c') w' ∧
      Own K e I A' c' (xs ++ ys) s' ∧ Sat E w' I (Ms.set k s') by
    obtain ⟨w', A', c', s', hrun, hown, hs'⟩ := hmain
    refine wp_value (w' := w') (v := .slice A' (xs ++ ys).length c') ?_ (hn A' c' s' hown _ _ (ha.put (dstOk_spec hd) _) hs')
    simp only [execOp, hop]
    simp [resolve, hcal, ea, et, invoke, builtin, opv_eval ha hx, opv_eval ha hy, hrun]
  have hfy := hfyS w
  have hfx := run_firstCells (P := P) (w := w) (B := A) (c := cA) x1 x3 x5
  by_cases hfit : xs.length + ys.length ≤ cA
  · -- there is room
    rcases ho with ⟨rfl, rfl, rfl, rfl⟩ | ⟨b, cells, fr, rfl, rfl, hf, h3, h4, h5⟩
    · have hys : ys = [] := by cases ys with
        | nil => rfl
        | cons _ _ => simp at hfit
      subst hys
      refine ⟨w, none, 0, [], ?_, .inl ⟨rfl, rfl, rfl, rfl⟩, ?_⟩
      · simp only [Builtin.append_, List.getElem?_toArray, List.getElem?_cons_zero, List.getElem?_cons_succ, Sem.run_bind, run_underlying' ht, Result.andThen_ok, hsize, run_underlying' ht2, Sem.run_pure, Bool.false_eq_true, if_false, hYl, List.length_nil, Nat.add_zero, Nat.le_refl, if_true, Bool.not_false]
        simp only [List.length_nil] at hfy
        simp [hfy]
      · have : Ms.set k [] = Ms := by
          apply List.ext_getElem?
          intro i
          rw [List.getElem?_set]
          split
          · rename_i e; subst e
            rw [hm]
            simp [(List.getElem?_eq_some_iff.1 hm).1]
          · rfl
        rw [this]; exact hs
    · have hblk := (hs.seg (List.mem_of_getElem? hm) (.head _)).1
      have hroom : xs.length * K.sz + fy.length ≤ cells.size := by
        rw [h4, y1, ← Nat.add_mul]
        exact Nat.mul_le_mul_right _ hfit
      have hst : (⟨b, 0, none⟩ : Addr).add (xs.length * K.sz) = ⟨b, xs.length * K.sz, none⟩ := by rw [add_mk, Nat.zero_add]
      obtain ⟨w', hrs, hw⟩ := run_storeCells (P := P) (ad := ⟨b, xs.length * K.sz, none⟩) (T := e) (fr := fr) rfl fy 0 cells w hblk (.inl hf) (by simpa using hroom) y6
      refine ⟨w', some ⟨b, 0, none⟩, cA, _, ?_, ?_, hs.only hm hw⟩
      · simp only [Builtin.append_, List.getElem?_toArray, List.getElem?_cons_zero, List.getElem?_cons_succ, Sem.run_bind, run_underlying' ht, Result.andThen_ok, hsize, run_underlying' ht2, Sem.run_pure, Bool.false_eq_true, if_false, hYl, hfit, if_true, Bool.not_false, hfy, hst, hrs]
      · refine own_join (fx := fx) (fy := fy) hf hfit (by rw [setFrom_size]; exact h4) x2 y2 (fun m v hv hlt => ?_) (fun m v hv => ?_)
        · rw [setFrom_get _ _ _ _ (by simpa using hroom), if_neg (by simp only [Nat.add_zero]; omega)]
          have hc := x5 m v hv
          simp only [Option.getD_some, add_mk, Nat.zero_add] at hc
          unfold World.cell? at hc
          rw [hblk] at hc
          simpa using hc
        · have hlt := (List.getElem?_eq_some_iff.1 hv).1
          rw [setFrom_get _ _ _ _ (by simpa using hroom), if_pos (by simp only [Nat.add_zero]; omega)]
          rw [show xs.length * K.sz + m - (xs.length * K.sz + 0) = m by omega]
          exact hv
  · -- it grows
    have hcap := nextcap_le (need := xs.length + ys.length) (cap := cA) (by omega)
    have hnb : ¬ (Builtin.nextslicecap (xs.length + ys.length) cA * inf.bytes > 2 ^ 48) := by
      have := Nat.mul_le_mul_right inf.bytes hcap
      rw [Nat.mul_assoc] at this
      omega
    let cap' : Nat := (Question.appendCap (xs.length + ys.length) cA e).cut (w.tape w.drawn (.appendCap (xs.length + ys.length) cA e))
    have hcap' : xs.length + ys.length ≤ cap' := by simp only [cap', Question.cut]; omega
    let cells' : Array Value := fx.toArray ++ fy.toArray ++ Builtin.zeroCells z.cells (cap' - (xs.length + ys.length))
    have hcs : cells'.size = cap' * K.sz := by
      simp only [cells', Array.size_append, List.size_toArray, x1, y1, zeroCells_size, hzs]
      rw [← Nat.add_mul, ← Nat.add_mul]
      congr 1
      omega
    let w1 : World := { w with drawn := w.drawn + 1 }
    have hs1 : Sat E w1 I Ms := hs.drew _
    refine ⟨{ w1 with heap := w1.heap.push (.cells cells' e) }, some ⟨w1.heap.size, 0, none⟩, cap', [(w1.heap.size, .cells cells' e (0, 0))], ?_, ?_, ?_⟩
    · have hfy1 : (Builtin.firstCells K.sz ys.length (Yv)).run P w1 = .ok fy.toArray w1 := hfyS w1
      have hfx1 : (Builtin.firstCells K.sz xs.length (.slice A xs.length cA)).run P w1 = .ok fx.toArray w1 := run_firstCells x1 x3 x5
      have hbig : ¬ (((xs.length + ys.length : Nat) : Int) > IntKind.i64.max ∧ (False ∨ inf.bytes = 0)) := by
        rintro ⟨h, _⟩
        simp only [IntKind.max, IntKind.signed, IntKind.bits, if_true] at h
        omega
      have hforced : (Question.appendCap (xs.length + ys.length) cA e).forced = false := rfl
      simp only [Builtin.append_, List.getElem?_toArray, List.getElem?_cons_zero, List.getElem?_cons_succ, Sem.run_bind, run_underlying' ht, Result.andThen_ok, hsize, run_underlying' ht2, Sem.run_pure, Bool.false_eq_true, if_false, hYl, hfit, Bool.not_false, if_true, run_typeInfo' hi]
      rw [if_neg hbig]
      simp only [Sem.run_bind, run_typeInfo' hi, Result.andThen_ok, hnb, if_false, run_choose, hforced, run_askRoom, Bool.false_eq_true, zeroValue]
      have e1 : ({ w with drawn := w.drawn + 1 } : World) = w1 := rfl
      simp only [e1, run_askRoom, hfx1, hfy1, Result.andThen_ok, run_typeInfo' hi, hz, Sem.run_pure, newRow, run_newObj, Sem.run_bind]
      rfl
    · refine own_join (fx := fx) (fy := fy) (Nat.le_refl _) hcap' hcs x2 y2 (fun m v hv hlt => ?_) (fun m v hv => ?_)
      · have hlt' := (List.getElem?_eq_some_iff.1 hv).1
        simp only [cells']
        rw [Array.append_assoc, Array.getElem?_append_left (by simpa using hlt')]
        simpa using hv
      · have hlt' := (List.getElem?_eq_some_iff.1 hv).1
        simp only [cells']
        rw [Array.getElem?_append_left (by simp only [Array.size_append, List.size_toArray]; omega), Array.getElem?_append_right (by simp; omega)]
        simp only [List.size_toArray, x1]
        rw [show xs.length * K.sz + m - xs.length * K.sz = m by omega]
        simpa using hv
    · have h1 := (hs1.push (.cells cells' e))
      have h2 : ([(w1.heap.size, Obj.cells cells' e (0, 0))] :: Ms).Perm (s :: [(w1.heap.size, Obj.cells cells' e (0, 0))] :: Ms.eraseIdx k) :=
        ((perm_at hm).cons _).trans (List.Perm.swap _ _ _)
      exact (h1.tail h2).perm (perm_set hm).symm
theorem eff_appendStr {c : Call} {t t2 e : TypeId} {x y : Operand} {A : Option Addr} {cA : Nat} {xs : List Int} {l : List UInt8} {s : Seg} {inf : TypeInfo} {z : Value} (k : Nat) (hop : o.op = .call c) (hcal : c.callee = .builtin .append)
    (hargs : c.args.toList = [x, y]) (hts : c.argTypes.toList = [t, t2]) (hd : dstOk n o.dst = true) (ht : P.underlying t = some (.slice e)) (ht2 : P.underlying t2 = some .string) (hi : P.info? e = some inf) (hz : inf.zero = some z)
    (hsz : inf.size = 1) (hzs : z.cells.size = 1) (hx : opv L x = some (.slice A xs.length cA)) (hy : opv L y = some (str l)) (ho : Own (Kd.int .u8) e I A cA xs s) (hm : Ms[k]? = some s)
    (hlim : (xs.length + l.length) * inf.bytes ≤ 140737488355328) (hlen : xs.length + l.length ≤ 9223372036854775807)
    (hn : ∀ A' c' s', Own (Kd.int .u8) e I A' c' (xs ++ ofB l) s' → At E n (fput L o.dst (.slice A' (xs ++ ofB l).length c')) I (Ms.set k s') Kk) : At E n L I Ms (fun a w => o.wp P a w Kk Q) := by
  have hyl : (ofB l).length = l.length := ofB_length l
  refine eff_appendG (K := Kd.int .u8) (ys := ofB l) k hop hcal hargs hts hd ht ht2 hi hz hsz hzs hx hy (fun w => by rw [hyl]; rfl) ho hm ⟨(ofB l).map (Value.int .u8), by simp [Kd.int, Kd.one], fun j x hx => ⟨[.int .u8 x], rfl, fun i v hv => ?_⟩, by simp [Value.oneCell'], fun w => ?_⟩ (by rw [hyl]; exact hlim) (by rw [hyl]; exact hlen) hn
  · cases i with
    | succ i => simp at hv
    | zero =>
      simp only [List.getElem?_cons_zero, Option.some.injEq] at hv
      subst hv
      simp [Kd.int, Kd.one, hx]
  · have := Lib.run_firstCells_string (P := P) w 1 ⟨⟨l⟩⟩
    have e1 : (ByteArray.mk ⟨l⟩).size = (ofB l).length := by rw [hyl]; rfl
    rw [e1] at this
    have e2 : Lib.strCells ⟨⟨l⟩⟩ = (ofB l).map (Value.int .u8) := by simp [Lib.strCells, ofB]
    rw [e2] at this
    exact this
end eff
end Go.Proofs.Ytnhnipdanpcbeaa.Eng
