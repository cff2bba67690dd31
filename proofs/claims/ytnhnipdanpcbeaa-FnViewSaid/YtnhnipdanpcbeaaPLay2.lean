/- A prompt and a buffer laid out, by the program and by the reference. -/
import Derived.Test.YtnhnipdanpcbeaaPLay
import Derived.Test.YtnhnipdanpcbeaaPViewRight
namespace Go.Proofs.Ytnhnipdanpcbeaa
open Go Eng
set_option linter.unusedVariables false
set_option linter.unusedSimpArgs false

theorem mark_inv {C : Int} {n : Nat} {L : T_impl_layout} (h : Inv C n L) (hi : L.inRow = true) (q : Int) (hl : (lastOf L.cells).cell.Points.length < 4) : Inv C n ⟨L.cols, L.row, L.col, L.cells.set ((L.cells.length : Int) - 1).toNat (ext (lastOf L.cells) q), L.inRow, L.spots⟩ := by
  obtain ⟨init, s, q0, rest, e1, e2, e3, e4, e5⟩ := h.last hi
  have hs := h.cells s (by rw [e1]; simp)
  have hlast : lastOf L.cells = s := by rw [e1]; exact lastOf_snoc init s
  rw [hlast] at hl ⊢
  have hset : L.cells.set ((L.cells.length : Int) - 1).toNat (ext s q) = init ++ [ext s q] := by rw [e1]; exact set_snoc init s _
  obtain ⟨q', rest', f1, f2, f3⟩ := hs.pts
  refine { hC := h.hC, cols := h.cols, r0 := h.r0, r1 := h.r1, c0 := h.c0, c1 := h.c1, num := ?_, cells := ?_, last := ?_, out := h.out }
  · show (L.cells.set _ _).length ≤ n
    rw [List.length_set]; exact h.num
  · intro x hx
    have hx' : x ∈ init ++ [ext s q] := hset ▸ hx
    rcases List.mem_append.1 hx' with e | e
    · exact h.cells x (by rw [e1]; exact List.mem_append_left _ e)
    · rw [List.mem_singleton.1 e]
      refine ⟨hs.r0, hs.r1, hs.c0, ⟨q', rest' ++ [q], by show s.cell.Points ++ [q] = _; rw [f1]; rfl, f2, f3⟩, ?_⟩
      show (s.cell.Points ++ [q]).length ≤ 4
      rw [List.length_append]; simp; omega
  · intro _
    exact ⟨init, ext s q, q0, rest ++ [q], hset, e2, by show s.cell.Points ++ [q] = _; rw [e3]; rfl, e4, e5⟩
theorem putL_inv {C : Int} {n : Nat} {L : T_impl_layout} (h : Inv C n L) (q a : Int) : Inv C (n + 2) (putL L q a) := by
  unfold putL
  split
  · split
    · split
      · exact (mark_inv h (by assumption) q (by omega)).up.up
      · exact h.up.up
    · exact h.up.up
  · rename_i hq
    have hq' : W q = 1 ∨ W q = 2 := by rcases W_range q with g | g | g; exact absurd g hq; exact .inl g; exact .inr g
    have hC := h.hC; have hc := h.cols
    split
    · exact h.next.place q a hq' (by show 0 + W q ≤ C; omega)
    · exact (h.place q a hq' (by omega)).up
def putsL (L : T_impl_layout) (qs : List Int) (a : Int) : T_impl_layout := qs.foldl (fun L q => putL L q a) L
theorem puts_inv {C : Int} (a : Int) : ∀ (qs : List Int) {n : Nat} {L : T_impl_layout}, Inv C n L → Inv C (n + 2 * qs.length) (putsL L qs a)
  | [], n, L, h => h
  | q :: qs, n, L, h => by
    have := puts_inv a qs (putL_inv h q a)
    have e : n + 2 + 2 * qs.length = n + 2 * (q :: qs).length := by rw [List.length_cons]; omega
    rw [e] at this; exact this
theorem puts_cons {qs : List Int} {i : Nat} (h : i < qs.length) (L : T_impl_layout) (a : Int) : putsL L (qs.drop i) a = putsL (putL L qs[i] a) (qs.drop (i + 1)) a := by
  rw [drop_cons h]; rfl
theorem implPuts {C : Int} (qs : List Int) (a : Int) (hq : qs.length ≤ 1000) : ∀ (m i : Nat) (n : Nat) (L : T_impl_layout), i + m = qs.length → Inv C n L → n + 2 * m ≤ 3000000 →
    Ev (fun k => impl_layout_point_l0 k (i : Int) L.cols L.row L.col L.cells L.inRow L.spots qs a) (putsL L (qs.drop i) a)
  | 0, i, n, L, hi, h, hn => by
    refine Ev.succ ?_
    rw [List.drop_of_length_le (by omega)]
    exact Ev.ifn (by omega) (Ev.pure _)
  | m + 1, i, n, L, hi, h, hn => by
    have hlt : i < qs.length := by omega
    have hC := h.hC; have hcols := h.cols; have hr0 := h.r0; have hr1 := h.r1; have hc0 := h.c0; have hc1 := h.c1; have hnum := h.num
    have ih := implPuts (C := C) qs a hq m (i + 1) (n + 2) (putL L qs[i] a) (by omega) (putL_inv h _ _) (by omega)
    have ew : IntKind.i64.wrap ((i : Int) + 1) = ((i + 1 : Nat) : Int) := by rw [wi (by omega) (by omega)]; omega
    have er : rdA 0 qs (i : Int) = qs[i] := rdA_get 0 qs i hlt
    rw [puts_cons hlt]
    refine Ev.succ ?_
    refine Ev.ifp (by omega) (Ev.ifp (by omega) ?_)
    rw [er, ew]
    refine Ev.bind (width_ev _) ?_
    generalize qs[i] = q at *
    unfold putL at ih ⊢
    by_cases h0 : W q = 0
    · rw [if_pos h0] at ih ⊢
      refine Ev.ifp h0 ?_
      by_cases hin : L.inRow = true
      · rw [if_pos hin] at ih ⊢
        refine Ev.ifp hin ?_
        obtain ⟨init, s, q0, rest, e1, e2, e3, e4, e5⟩ := h.last hin
        have hs := h.cells s (by rw [e1]; simp)
        have hlen := hs.len
        have hlast : lastOf L.cells = s := by rw [e1]; exact lastOf_snoc init s
        have hpos : 0 < L.cells.length := by rw [e1]; simp
        have e : IntKind.i64.wrap ((L.cells.length : Int) - 1) = (L.cells.length : Int) - 1 := wi (by omega) (by omega)
        rw [e]
        have el : rdA z_impl_seen L.cells ((L.cells.length : Int) - 1) = lastOf L.cells := rfl
        rw [el]
        refine Ev.ifp (by omega) (Ev.ifp (by omega) ?_)
        by_cases h4 : ((lastOf L.cells).cell.Points.length : Int) < 4
        · rw [if_pos h4] at ih ⊢
          refine Ev.ifp h4 (Ev.ifp (by rw [hlast]; simp; omega) ?_)
          exact ih
        · rw [if_neg h4] at ih ⊢
          exact Ev.ifn h4 ih
      · rw [if_neg hin] at ih ⊢
        exact Ev.ifn hin ih
    · rw [if_neg h0] at ih ⊢
      refine Ev.ifn h0 ?_
      have hq' : W q = 1 ∨ W q = 2 := by rcases W_range q with g | g | g; exact absurd g h0; exact .inl g; exact .inr g
      have e : IntKind.i64.wrap (L.cols - L.col) = L.cols - L.col := wi (by omega) (by omega)
      rw [e]
      by_cases h2 : L.cols - L.col < W q
      · rw [if_pos h2] at ih ⊢
        refine Ev.ifp h2 ?_
        have en : impl_layout_next ⟨L.cols, L.row, L.col, L.cells, L.inRow, L.spots⟩ = some (nextL L) := by
          unfold impl_layout_next nextL
          dsimp only
          rw [wi (by omega) (by omega)]
        refine Ev.bind (Ev.eq en) ?_
        refine Ev.ifp (by show L.cells.length + 1 ≤ 2932031007402; omega) ?_
        have e5 : IntKind.i64.wrap ((nextL L).col + W q) = (nextL L).col + W q := wi (by show -9223372036854775808 ≤ 0 + W q; omega) (by show 0 + W q ≤ 9223372036854775807; omega)
        rw [e5]
        exact ih
      · rw [if_neg h2] at ih ⊢
        refine Ev.ifn h2 (Ev.ifp (by show L.cells.length + 1 ≤ 2932031007402; omega) ?_)
        have e5 : IntKind.i64.wrap (L.col + W q) = L.col + W q := wi (by omega) (by omega)
        rw [e5]
        exact ih
theorem specPuts {C : Int} (qs : List Int) (a : Int) (hq : qs.length ≤ 1000) : ∀ (m i : Nat) (n : Nat) (L : T_impl_layout), i + m = qs.length → Inv C n L → n + 2 * m ≤ 3000000 →
    Ev (fun k => spec_l09Pen_point_l0 k (i : Int) (pen L).cols (pen L).rows (pen L).col qs a) (pen (putsL L (qs.drop i) a))
  | 0, i, n, L, hi, h, hn => by
    refine Ev.succ ?_
    rw [List.drop_of_length_le (by omega)]
    exact Ev.ifn (by omega) (Ev.pure _)
  | m + 1, i, n, L, hi, h, hn => by
    have hlt : i < qs.length := by omega
    have ew : IntKind.i64.wrap ((i : Int) + 1) = ((i + 1 : Nat) : Int) := by rw [wi (by omega) (by omega)]; omega
    have er : rdA 0 qs (i : Int) = qs[i] := rdA_get 0 qs i hlt
    rw [puts_cons hlt]
    refine Ev.succ ?_
    refine Ev.ifp (by omega) (Ev.ifp (by omega) ?_)
    rw [er, ew]
    exact Ev.bind (shown_ev h (by omega) _ _) (specPuts qs a hq m (i + 1) (n + 2) (putL L qs[i] a) (by omega) (putL_inv h _ _) (by omega))
def shownq (p : Int) : List Int := if p < 32 ∨ p = 127 then [94, bitsV .xor .i64 p 64] else [p]
def pt (L : T_impl_layout) (p a : Int) : T_impl_layout := if p = 10 then nextL L else putsL L (shownq p) a
theorem shownq_len (p : Int) : (shownq p).length ≤ 2 := by unfold shownq; split <;> simp
theorem Inv.mono {C : Int} {n m : Nat} {L : T_impl_layout} (h : Inv C n L) (hm : n ≤ m) : Inv C m L := { h with r1 := by have := h.r1; omega, num := by have := h.num; omega }
theorem pt_inv {C : Int} {n : Nat} {L : T_impl_layout} (h : Inv C n L) (p a : Int) : Inv C (n + 4) (pt L p a) := by
  unfold pt
  have := shownq_len p
  split
  · exact h.next.mono (by omega)
  · exact (puts_inv a (shownq p) h).mono (by omega)
theorem shown_eq (p : Int) : impl_shown p = some (shownq p) := by
  unfold impl_shown impl_isControl shownq
  by_cases h : p < 32
  · rw [if_pos h, if_pos (.inl h)]; rfl
  · rw [if_neg h]
    by_cases h2 : p = 127
    · rw [if_pos (.inr h2), h2]; rfl
    · rw [if_neg (by omega)]
      have : (p == 127) = false := beq_eq_false_iff_ne.2 h2
      rw [this]; rfl
theorem specShown_ev (p : Int) : Ev (fun k => spec_l01Shown k p) (shownq p) := by
  unfold spec_l01Shown shownq
  by_cases h : p < 32
  · rw [if_pos (.inl h)]; refine Ev.ifp h (Ev.succ ?_); simp only [spec_l01Shown_j0]; exact Ev.ifp trivial (Ev.pure _)
  · refine Ev.ifn h (Ev.succ ?_)
    by_cases h2 : p = 127
    · rw [if_pos (.inr h2)]; exact Ev.ifp (by rw [h2]; rfl) (Ev.pure _)
    · rw [if_neg (by omega)]; exact Ev.ifn (by simp [h2]) (Ev.pure _)
theorem point_ev {C : Int} {n : Nat} {L : T_impl_layout} (h : Inv C n L) (hn : n ≤ 2999000) (p a : Int) : Ev (fun k => impl_layout_point k L p a) (pt L p a) := by
  have hr0 := h.r0; have hr1 := h.r1
  unfold impl_layout_point pt
  by_cases hp : p = 10
  · rw [if_pos hp]
    refine Ev.ifp hp (Ev.bind (Ev.eq ?_) (Ev.pure _))
    unfold impl_layout_next nextL
    rw [wi (by omega) (by omega)]
  · rw [if_neg hp]
    have := shownq_len p
    refine Ev.ifn hp (Ev.bind (Ev.eq (shown_eq p)) ?_)
    have := implPuts (C := C) (shownq p) a (by omega) (shownq p).length 0 n L (by omega) h (by omega)
    exact this
theorem specPoint_ev {C : Int} {n : Nat} {L : T_impl_layout} (h : Inv C n L) (hn : n ≤ 2999000) (p a : Int) : Ev (fun k => spec_l09Pen_point k (pen L) p a) (pen (pt L p a)) := by
  unfold spec_l09Pen_point pt
  by_cases hp : p = 10
  · rw [if_pos hp]
    exact Ev.ifp hp (Ev.bind (Ev.eq (pen_next h (by omega))) (Ev.pure _))
  · rw [if_neg hp]
    have := shownq_len p
    refine Ev.ifn hp (Ev.bind (specShown_ev p) ?_)
    exact specPuts (C := C) (shownq p) a (by omega) (shownq p).length 0 n L (by omega) h (by omega)
end Go.Proofs.Ytnhnipdanpcbeaa
