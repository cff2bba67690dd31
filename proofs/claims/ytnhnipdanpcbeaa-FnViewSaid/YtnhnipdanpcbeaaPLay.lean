/- One shown point laid out, by the program and by the reference. -/
import Derived.Test.YtnhnipdanpcbeaaPPaint
namespace Go.Proofs.Ytnhnipdanpcbeaa
open Go Eng
set_option linter.unusedVariables false
set_option linter.unusedSimpArgs false

def nextL (L : T_impl_layout) : T_impl_layout := ⟨L.cols, L.row + 1, 0, L.cells, false, L.spots⟩
def ext (s : T_impl_seen) (q : Int) : T_impl_seen := ⟨⟨s.cell.Points ++ [q], s.cell.Attr⟩, s.row, s.col⟩
def lastOf (cs : List T_impl_seen) : T_impl_seen := rdA z_impl_seen cs ((cs.length : Int) - 1)
def placeL (L : T_impl_layout) (q a : Int) : T_impl_layout := ⟨L.cols, L.row, L.col + W q, L.cells ++ [⟨⟨[q], a⟩, L.row, L.col⟩], true, L.spots⟩
def putL (L : T_impl_layout) (q a : Int) : T_impl_layout :=
  if W q = 0 then
    if L.inRow = true then
      if ((lastOf L.cells).cell.Points.length : Int) < 4 then ⟨L.cols, L.row, L.col, L.cells.set ((L.cells.length : Int) - 1).toNat (ext (lastOf L.cells) q), L.inRow, L.spots⟩ else L
    else L
  else if L.cols - L.col < W q then placeL (nextL L) q a else placeL L q a
structure CellOk (C : Int) (row : Int) (s : T_impl_seen) : Prop where
  r0 : 0 ≤ s.row
  r1 : s.row ≤ row
  c0 : 0 ≤ s.col
  pts : ∃ q rest, s.cell.Points = q :: rest ∧ (W q = 1 ∨ W q = 2) ∧ s.col + W q ≤ C
  len : s.cell.Points.length ≤ 4
def LastOk (C : Int) (L : T_impl_layout) : Prop := ∃ init s q rest, L.cells = init ++ [s] ∧ s.row = L.row ∧ s.cell.Points = q :: rest ∧ s.col + W q = L.col ∧
  (∀ j : Int, 0 ≤ j → j + 1 = s.col → wide (rdA z_impl_Cell (rdA [] (paint C (L.row.toNat + 1) init) L.row) j) = false)
structure Inv (C : Int) (n : Nat) (L : T_impl_layout) : Prop where
  hC : 2 ≤ C ∧ C ≤ 80
  cols : L.cols = C
  r0 : 0 ≤ L.row
  r1 : L.row ≤ (n : Int)
  c0 : 0 ≤ L.col
  c1 : L.col ≤ C
  num : L.cells.length ≤ n
  cells : ∀ s ∈ L.cells, CellOk C L.row s
  last : L.inRow = true → LastOk C L
  out : L.inRow = false → L.col = 0
def pen (L : T_impl_layout) : T_spec_l09Pen := ⟨L.cols, paint L.cols (L.row.toNat + 1) L.cells, L.col⟩
theorem lastOf_snoc (init : List T_impl_seen) (s : T_impl_seen) : lastOf (init ++ [s]) = s := by
  unfold lastOf
  rw [List.length_append]
  have : (((init.length + [s].length : Nat) : Int) - 1) = ((init.length : Nat) : Int) := by simp
  rw [this, rdA_get _ _ _ (by simp)]
  simp
theorem set_snoc (init : List T_impl_seen) (s t : T_impl_seen) : (init ++ [s]).set ((((init ++ [s]).length : Nat) : Int) - 1).toNat t = init ++ [t] := by
  have : ((((init ++ [s]).length : Nat) : Int) - 1).toNat = init.length := by simp
  rw [this, List.set_append_right _ _ (Nat.le_refl _), Nat.sub_self]; rfl
theorem wide_one (q a : Int) : wide ⟨[q], a⟩ = decide (W q = 2) := rfl
theorem wide_cons {c : T_impl_Cell} {q : Int} {rest : List Int} (h : c.Points = q :: rest) : wide c = decide (W q = 2) := by
  unfold wide; rw [h]
/-- What stands to the left of the next column is not wide. -/
theorem Inv.nw {C : Int} {n : Nat} {L : T_impl_layout} (h : Inv C n L) (j : Int) (h0 : 0 ≤ j) (hj : j + 1 = L.col) : wide (rdA z_impl_Cell (rdA [] (paint C (L.row.toNat + 1) L.cells) L.row) j) = false := by
  have hr := h.r0; have hC := h.hC
  by_cases hi : L.inRow = true
  · obtain ⟨init, s, q, rest, e1, e2, e3, e4, e5⟩ := h.last hi
    have hs := h.cells s (by rw [e1]; simp)
    obtain ⟨q', rest', f1, f2, f3⟩ := hs.pts
    have hc0 := hs.c0
    have hq : q' = q := by rw [e3] at f1; exact (List.cons.inj f1).1.symm
    subst hq
    have hrow : ((rdA [] (paint C (s.row.toNat + 1) init) s.row).length : Int) = C := paint_row (by omega) hs.r0 (by omega)
    rw [e1, ← e2, paint_last C _ init s hs.r0 (by omega)]
    rcases f2 with g | g
    · have : j = s.col := by omega
      rw [this, put1_at _ _ hs.c0 (by omega), wide_cons e3, g]; rfl
    · have : j = s.col + 1 := by omega
      rw [this, put1_half _ _ (by rw [wide_cons e3, g]; rfl) hs.c0 (by omega)]; rfl
  · have := h.out (by simpa using hi); omega
theorem Inv.up {C : Int} {n : Nat} {L : T_impl_layout} (h : Inv C n L) : Inv C (n + 1) L := { h with r1 := by have := h.r1; omega, num := by have := h.num; omega }
theorem Inv.next {C : Int} {n : Nat} {L : T_impl_layout} (h : Inv C n L) : Inv C (n + 1) (nextL L) where
  hC := h.hC
  cols := h.cols
  r0 := by have := h.r0; show 0 ≤ L.row + 1; omega
  r1 := by have := h.r1; show L.row + 1 ≤ ((n + 1 : Nat) : Int); omega
  c0 := Int.le_refl _
  c1 := by have := h.hC; show 0 ≤ C; omega
  num := by have := h.num; show L.cells.length ≤ n + 1; omega
  cells := fun s hs => by have := h.cells s hs; exact { this with r1 := by have := this.r1; show s.row ≤ L.row + 1; omega }
  last := fun hi => nomatch hi
  out := fun _ => rfl
theorem Inv.place {C : Int} {n : Nat} {L : T_impl_layout} (h : Inv C n L) (q a : Int) (hq : W q = 1 ∨ W q = 2) (hc : L.col + W q ≤ C) : Inv C (n + 1) (placeL L q a) where
  hC := h.hC
  cols := h.cols
  r0 := h.r0
  r1 := by have := h.r1; show L.row ≤ ((n + 1 : Nat) : Int); omega
  c0 := by have := h.c0; show 0 ≤ L.col + W q; omega
  c1 := hc
  num := by have := h.num; show (L.cells ++ [_]).length ≤ n + 1; rw [List.length_append]; simp; omega
  cells := fun s hs => by
    rcases List.mem_append.1 hs with e | e
    · exact h.cells s e
    · rw [List.mem_singleton.1 e]
      exact ⟨h.r0, Int.le_refl _, h.c0, ⟨q, [], rfl, hq, hc⟩, by simp⟩
  last := fun _ => ⟨L.cells, _, q, [], rfl, rfl, rfl, rfl, fun j h0 hj => h.nw j h0 hj⟩
  out := fun hi => nomatch hi
theorem pen_next {C : Int} {n : Nat} {L : T_impl_layout} (h : Inv C n L) (hn : n ≤ 4000000) : spec_l09Pen_next (pen L) = some (pen (nextL L)) := by
  have hC := h.hC; have hr0 := h.r0; have hr1 := h.r1; have hcols := h.cols
  have hl := paint_len L.cols (L.row.toNat + 1) L.cells
  unfold spec_l09Pen_next pen
  dsimp only
  rw [if_pos (by omega), if_pos (by omega), if_pos (by rw [hl]; simp; omega)]
  have e : (L.row + 1).toNat + 1 = (L.row.toNat + 1) + 1 := by omega
  show some _ = some (⟨L.cols, paint L.cols ((L.row + 1).toNat + 1) L.cells, 0⟩ : T_spec_l09Pen)
  rw [e, paint_next L.cols (L.row.toNat + 1) L.cells (fun s hs => by have := (h.cells s hs).r1; have := (h.cells s hs).r0; omega)]
  rfl
def placeS (p : T_spec_l09Pen) (q a w : Int) : Option T_spec_l09Pen :=
  (if 0 ≤ p.col then (if p.col < ((rdA [] p.rows (IntKind.i64.wrap ((p.rows.length : Int) - 1))).length : Int) then (if w = 2 then (if 0 ≤ (IntKind.i64.wrap (p.col + 1)) then (if (IntKind.i64.wrap (p.col + 1)) < (((rdA [] p.rows (IntKind.i64.wrap ((p.rows.length : Int) - 1))).set p.col.toNat (⟨([q] : List Int), a⟩ : T_impl_Cell)).length : Int) then (some (⟨p.cols, (p.rows.set (IntKind.i64.wrap ((p.rows.length : Int) - 1)).toNat ((rdA [] p.rows (IntKind.i64.wrap ((p.rows.length : Int) - 1))).set p.col.toNat (⟨([q] : List Int), a⟩ : T_impl_Cell))).set (IntKind.i64.wrap ((p.rows.length : Int) - 1)).toNat (((rdA [] p.rows (IntKind.i64.wrap ((p.rows.length : Int) - 1))).set p.col.toNat (⟨([q] : List Int), a⟩ : T_impl_Cell)).set (IntKind.i64.wrap (p.col + 1)).toNat (⟨([] : List Int), a⟩ : T_impl_Cell)), IntKind.i64.wrap (p.col + w)⟩ : T_spec_l09Pen)) else none) else none) else (some (⟨p.cols, p.rows.set (IntKind.i64.wrap ((p.rows.length : Int) - 1)).toNat ((rdA [] p.rows (IntKind.i64.wrap ((p.rows.length : Int) - 1))).set p.col.toNat (⟨([q] : List Int), a⟩ : T_impl_Cell)), IntKind.i64.wrap (p.col + w)⟩ : T_spec_l09Pen))) else none) else none)
theorem pen_facts {C : Int} {n : Nat} {L : T_impl_layout} (h : Inv C n L) (hn : n ≤ 4000000) : IntKind.i64.wrap (((pen L).rows.length : Int) - 1) = L.row ∧ ((pen L).rows.length : Int) = L.row + 1 ∧ ((rdA [] (pen L).rows L.row).length : Int) = C := by
  have hC := h.hC; have hr0 := h.r0; have hr1 := h.r1; have hcols := h.cols
  have hl : (pen L).rows.length = L.row.toNat + 1 := paint_len L.cols (L.row.toNat + 1) L.cells
  refine ⟨by rw [hl, wi (by omega) (by omega)]; omega, by rw [hl]; omega, ?_⟩
  show ((rdA [] (paint L.cols (L.row.toNat + 1) L.cells) L.row).length : Int) = C
  rw [hcols]
  exact paint_row (by omega) h.r0 (by omega)
theorem placeS_eq {C : Int} {n : Nat} {L : T_impl_layout} (h : Inv C n L) (hn : n ≤ 4000000) (q a : Int) (hq : W q = 1 ∨ W q = 2) (hc : L.col + W q ≤ C) : placeS (pen L) q a (W q) = some (pen (placeL L q a)) := by
  have hC := h.hC; have hr0 := h.r0; have hr1 := h.r1; have hcols := h.cols; have hc0 := h.c0
  obtain ⟨e1, e2, e3⟩ := pen_facts h hn
  have ec : (pen L).col = L.col := rfl
  unfold placeS
  rw [e1, ec, if_pos hc0, if_pos (by omega), wi (x := L.col + W q) (by omega) (by omega), wi (x := L.col + 1) (by omega) (by omega)]
  have ep : pen (placeL L q a) = ⟨L.cols, paint1 (paint L.cols (L.row.toNat + 1) L.cells) ⟨⟨[q], a⟩, L.row, L.col⟩, L.col + W q⟩ := by
    show (⟨L.cols, paint L.cols (L.row.toNat + 1) (L.cells ++ [_]), L.col + W q⟩ : T_spec_l09Pen) = _
    rw [paint_snoc]
  rw [ep]
  unfold paint1 put1
  rcases hq with g | g
  · rw [if_neg (show ¬ W q = 2 by omega), if_neg (by rw [wide_one]; simp; omega)]; rfl
  · rw [if_pos g, if_pos (by omega), if_pos (by rw [List.length_set]; omega), if_pos (by rw [wide_one]; simp; omega), List.set_set]; rfl
def markS (p : T_spec_l09Pen) (x q : Int) : Option T_spec_l09Pen :=
  (if (((rdA z_impl_Cell (rdA [] p.rows (IntKind.i64.wrap ((p.rows.length : Int) - 1))) x).Points).length : Int) > 0 then (if (((rdA z_impl_Cell (rdA [] p.rows (IntKind.i64.wrap ((p.rows.length : Int) - 1))) x).Points).length : Int) < 4 then ((spec_l01Copy ((rdA z_impl_Cell (rdA [] p.rows (IntKind.i64.wrap ((p.rows.length : Int) - 1))) x).Points)).bind fun b12 => (if b12.length + ([q] : List Int).length ≤ 17592186044416 then (some (⟨p.cols, p.rows.set (IntKind.i64.wrap ((p.rows.length : Int) - 1)).toNat ((rdA [] p.rows (IntKind.i64.wrap ((p.rows.length : Int) - 1))).set x.toNat (⟨(b12 ++ ([q] : List Int)), (rdA z_impl_Cell (rdA [] p.rows (IntKind.i64.wrap ((p.rows.length : Int) - 1))) x).Attr⟩ : T_impl_Cell)), p.col⟩ : T_spec_l09Pen)) else none)) else (some p)) else (some p))
theorem markS_eq {C : Int} {n : Nat} {L : T_impl_layout} (h : Inv C n L) (hn : n ≤ 4000000) (hi : L.inRow = true) (q : Int) (hq : W q = 0) {init : List T_impl_seen} {s : T_impl_seen} (e1 : L.cells = init ++ [s]) (e2 : s.row = L.row) : markS (pen L) s.col q = some (pen (putL L q 0)) := by
  have hC := h.hC; have hr0 := h.r0; have hr1 := h.r1; have hcols := h.cols; have hc0 := h.c0
  obtain ⟨d1, d2, d3⟩ := pen_facts h hn
  have hs := h.cells s (by rw [e1]; simp)
  obtain ⟨q0, rest, f1, f2, f3⟩ := hs.pts
  have hl4 := hs.len
  have hat : rdA z_impl_Cell (rdA [] (pen L).rows L.row) s.col = s.cell := by
    show rdA z_impl_Cell (rdA [] (paint L.cols (L.row.toNat + 1) L.cells) L.row) s.col = s.cell
    rw [hcols, e1, ← e2, paint_last C _ init s hs.r0 (by omega)]
    have hrow : ((rdA [] (paint C (s.row.toNat + 1) init) s.row).length : Int) = C := paint_row (by omega) hs.r0 (by omega)
    exact put1_at _ _ hs.c0 (by rcases f2 with g | g <;> omega)
  unfold markS
  rw [d1, hat]
  have hlast : lastOf L.cells = s := by rw [e1]; exact lastOf_snoc init s
  rw [if_pos (by rw [f1]; simp)]
  unfold putL
  rw [if_pos hq, if_pos hi, hlast]
  by_cases h4 : (s.cell.Points.length : Int) < 4
  · rw [if_pos h4, if_pos h4]
    unfold spec_l01Copy
    rw [if_pos (by simp; omega)]
    simp only [List.nil_append, Option.bind_some]
    rw [if_pos (by simp; omega)]
    congr 1
    show (⟨L.cols, (paint L.cols (L.row.toNat + 1) L.cells).set L.row.toNat ((rdA [] (paint L.cols (L.row.toNat + 1) L.cells) L.row).set s.col.toNat ⟨s.cell.Points ++ [q], s.cell.Attr⟩), L.col⟩ : T_spec_l09Pen) = ⟨L.cols, paint L.cols (L.row.toNat + 1) (L.cells.set ((L.cells.length : Int) - 1).toNat (ext s q)), L.col⟩
    rw [e1, set_snoc, ← e2]
    rw [paint_again L.cols (s.row.toNat + 1) init s ⟨s.cell.Points ++ [q], s.cell.Attr⟩ (by rw [wide_cons f1, wide_cons (q := q0) (rest := rest ++ [q]) (by rw [f1]; rfl)]) rfl hs.c0 hs.r0 (by omega)]
    rfl
  · rw [if_neg h4, if_neg h4]
theorem wide_ev (c : T_impl_Cell) : Ev (fun k => spec_l08Wide k c) (wide c) := by
  unfold spec_l08Wide wide
  cases h : c.Points with
  | nil => exact Ev.ifn (by simp) (Ev.pure _)
  | cons q rest =>
    refine Ev.ifp (by simp) (Ev.ifp (by simp) ?_)
    have e : rdA 0 (q :: rest) 0 = q := rfl
    rw [e]
    refine Ev.bind (specWidth_ev q) ?_
    refine Ev.eq ?_
    rfl
theorem putL_mark {L : T_impl_layout} {q : Int} (hq : W q = 0) (a b : Int) : putL L q a = putL L q b := by
  unfold putL; rw [if_pos hq, if_pos hq]
theorem shown_ev {C : Int} {n : Nat} {L : T_impl_layout} (h : Inv C n L) (hn : n ≤ 3000000) (q a : Int) : Ev (fun k => spec_l09Pen_shown k (pen L) q a) (pen (putL L q a)) := by
  have hC := h.hC; have hr0 := h.r0; have hr1 := h.r1; have hcols := h.cols; have hc0 := h.c0; have hc1 := h.c1
  obtain ⟨d1, d2, d3⟩ := pen_facts h (by omega)
  have ec : (pen L).col = L.col := rfl
  have ecs : (pen L).cols = L.cols := rfl
  unfold spec_l09Pen_shown
  refine Ev.bind (specWidth_ev q) ?_
  refine Ev.ifp (by rw [d1]; exact hr0) (Ev.ifp (by rw [d1]; omega) ?_)
  have w1 : IntKind.i64.wrap ((pen L).col - 1) = L.col - 1 := by rw [ec, wi (by omega) (by omega)]
  by_cases hq : W q = 0
  · refine Ev.ifp hq ?_
    rw [putL_mark hq a 0]
    by_cases hi : L.inRow = true
    · obtain ⟨init, s, q0, rest, e1, e2, e3, e4, e5⟩ := h.last hi
      have hs := h.cells s (by rw [e1]; simp)
      have hsc := hs.c0
      obtain ⟨q', rest', f1, f2, f3⟩ := hs.pts
      have hqq : q' = q0 := by rw [e3] at f1; exact (List.cons.inj f1).1.symm
      subst hqq
      have hm := markS_eq h (by omega) hi q hq e1 e2
      have hrow : ∀ x, rdA z_impl_Cell (rdA [] (pen L).rows (IntKind.i64.wrap (((pen L).rows.length : Int) - 1))) x = rdA z_impl_Cell (put1 (rdA [] (paint C (L.row.toNat + 1) init) L.row) s) x := by
        intro x
        rw [d1]
        show rdA z_impl_Cell (rdA [] (paint L.cols (L.row.toNat + 1) L.cells) L.row) x = _
        rw [hcols, e1, ← e2, paint_last C _ init s hs.r0 (by omega)]
      have hlen : ((rdA [] (paint C (L.row.toNat + 1) init) L.row).length : Int) = C := paint_row (by omega) hr0 (by omega)
      have w2 : IntKind.i64.wrap (IntKind.i64.wrap ((pen L).col - 1) - 1) = L.col - 2 := by rw [w1, wi (by omega) (by omega)]; omega
      by_cases h1 : L.col - 1 > 0
      · refine Ev.ifp (by rw [w1]; exact h1) (Ev.ifp (by rw [w2]; omega) (Ev.ifp (by rw [w2, d1]; omega) ?_))
        rcases f2 with g | g
        · have hj : L.col - 2 + 1 = s.col := by omega
          have hnw := e5 (L.col - 2) (by omega) hj
          have hv : wide (rdA z_impl_Cell (rdA [] (pen L).rows (IntKind.i64.wrap (((pen L).rows.length : Int) - 1))) (IntKind.i64.wrap (IntKind.i64.wrap ((pen L).col - 1) - 1))) = false := by
            rw [hrow, w2, put1_left _ _ _ (by omega) (by omega)]; exact hnw
          refine Ev.bind (wide_ev _) (Ev.ifn (by rw [hv]; decide) (Ev.ifp (by rw [w1]; omega) (Ev.ifp (by rw [w1]; omega) (Ev.ifp (by rw [w1, d1]; omega) ?_))))
          have ex : IntKind.i64.wrap ((pen L).col - 1) = s.col := by rw [w1]; omega
          show Ev (fun _ => markS (pen L) (IntKind.i64.wrap ((pen L).col - 1)) q) _
          rw [ex, hm]; exact Ev.pure _
        · have hj : L.col - 2 = s.col := by omega
          have hv : wide (rdA z_impl_Cell (rdA [] (pen L).rows (IntKind.i64.wrap (((pen L).rows.length : Int) - 1))) (IntKind.i64.wrap (IntKind.i64.wrap ((pen L).col - 1) - 1))) = true := by
            rw [hrow, w2, hj, put1_at _ _ hs.c0 (by omega), wide_cons e3, g]; rfl
          refine Ev.bind (wide_ev _) (Ev.ifp hv (Ev.ifp (by rw [w2]; omega) ?_))
          have ex : IntKind.i64.wrap (IntKind.i64.wrap ((pen L).col - 1) - 1) = s.col := by rw [w2]; omega
          show Ev (fun _ => markS (pen L) (IntKind.i64.wrap (IntKind.i64.wrap ((pen L).col - 1) - 1)) q) _
          rw [ex, hm]; exact Ev.pure _
      · refine Ev.ifn (by rw [w1]; exact h1) ?_
        have g : W q' = 1 := by rcases f2 with g | g; exact g; omega
        refine Ev.ifp (by rw [w1]; omega) (Ev.ifp (by rw [w1]; omega) (Ev.ifp (by rw [w1, d1]; omega) ?_))
        have ex : IntKind.i64.wrap ((pen L).col - 1) = s.col := by rw [w1]; omega
        show Ev (fun _ => markS (pen L) (IntKind.i64.wrap ((pen L).col - 1)) q) _
        rw [ex, hm]; exact Ev.pure _
    · have hcol := h.out (by simpa using hi)
      refine Ev.ifn (by rw [w1]; omega) (Ev.ifn (by rw [w1]; omega) ?_)
      unfold putL
      rw [if_pos hq, if_neg hi]; exact Ev.pure _
  · refine Ev.ifn hq ?_
    have hq' : W q = 1 ∨ W q = 2 := by rcases W_range q with g | g | g; exact absurd g hq; exact .inl g; exact .inr g
    have w3 : IntKind.i64.wrap ((pen L).cols - (pen L).col) = L.cols - L.col := by rw [ec, ecs, wi (by omega) (by omega)]
    by_cases h2 : L.cols - L.col < W q
    · refine Ev.ifp (by rw [w3]; exact h2) ?_
      have hx := h.next
      obtain ⟨g1, g2, g3⟩ := pen_facts hx (by omega)
      have hr2 := hx.r0
      refine Ev.bind (Ev.eq (pen_next h (by omega))) ?_
      refine Ev.ifp (by rw [g1]; exact hx.r0) (Ev.ifp (by rw [g1]; omega) ?_)
      show Ev (fun _ => placeS (pen (nextL L)) q a (W q)) _
      have hc2 : (nextL L).col + W q ≤ C := by show 0 + W q ≤ C; omega
      rw [placeS_eq hx (by omega) q a hq' hc2]
      unfold putL
      rw [if_neg hq, if_pos h2]; exact Ev.pure _
    · refine Ev.ifn (by rw [w3]; exact h2) ?_
      show Ev (fun _ => placeS (pen L) q a (W q)) _
      rw [placeS_eq h (by omega) q a hq' (by omega)]
      unfold putL
      rw [if_neg hq, if_neg h2]; exact Ev.pure _
end Go.Proofs.Ytnhnipdanpcbeaa
