/- What the rows of a layout hold. -/
import Derived.Test.YtnhnipdanpcbeaaPLay3
namespace Go.Proofs.Ytnhnipdanpcbeaa
open Go Eng
set_option linter.unusedVariables false
set_option linter.unusedSimpArgs false

def ctl (p : Int) : Prop := p < 32 ∨ p = 127
structure CellGood (c : T_impl_Cell) : Prop where
  head : ∃ q rest, c.Points = q :: rest ∧ (W q = 1 ∨ W q = 2) ∧ ∀ x ∈ rest, W x = 0
  pts : ∀ x ∈ c.Points, ptOk x = true ∧ ¬ ctl x
  len : c.Points.length ≤ 4
  a0 : 0 ≤ c.Attr
  a1 : c.Attr ≤ 3
structure RowP (C : Int) (f : Int → T_impl_Cell) (k : Int) : Prop where
  k0 : 0 ≤ k
  k1 : k ≤ C
  blank : ∀ c, k ≤ c → c < C → f c = z_impl_Cell
  full : ∀ c, 0 ≤ c → c < k → CellGood (f c) ∨ (0 < c ∧ wide (f (c - 1)) = true ∧ f c = ⟨[], (f (c - 1)).Attr⟩)
  next : ∀ c, 0 ≤ c → c < k → wide (f c) = true → c + 1 < k ∧ f (c + 1) = ⟨[], (f c).Attr⟩
theorem wide_nil (a : Int) : wide ⟨[], a⟩ = false := rfl
theorem wide_good {c : T_impl_Cell} {q : Int} {rest : List Int} (h : c.Points = q :: rest) : wide c = decide (W q = 2) := wide_cons h
theorem RowP.congr {C k : Int} {f g : Int → T_impl_Cell} (h : RowP C f k) (e : ∀ c, 0 ≤ c → c < C → g c = f c) : RowP C g k := by
  have h0 := h.k0; have h1 := h.k1
  refine ⟨h0, h1, fun c a b => ?_, fun c a b => ?_, fun c a b hw => ?_⟩
  · rw [e c (by omega) b]; exact h.blank c a b
  · rw [e c a (by omega)]
    rcases h.full c a b with g1 | ⟨g1, g2, g3⟩
    · exact .inl g1
    · rw [e (c - 1) (by omega) (by omega)]; exact .inr ⟨g1, g2, g3⟩
  · rw [e c a (by omega)] at hw ⊢
    have := h.next c a b hw
    rw [e (c + 1) (by omega) (by omega)]; exact this
theorem RowP.zero {C : Int} (hC : 0 ≤ C) {f : Int → T_impl_Cell} (h : ∀ c, 0 ≤ c → c < C → f c = z_impl_Cell) : RowP C f 0 :=
  ⟨Int.le_refl _, hC, h, fun c a b => absurd b (by omega), fun c a b _ => absurd b (by omega)⟩
def setF (f : Int → T_impl_Cell) (i : Int) (x : T_impl_Cell) : Int → T_impl_Cell := fun c => if c = i then x else f c
theorem setF_eq (f : Int → T_impl_Cell) (i : Int) (x : T_impl_Cell) : setF f i x i = x := if_pos rfl
theorem setF_ne (f : Int → T_impl_Cell) {i c : Int} (x : T_impl_Cell) (h : c ≠ i) : setF f i x c = f c := if_neg h
/-- A cell laid at the row's end. -/
theorem RowP.one {C k : Int} {f : Int → T_impl_Cell} (h : RowP C f k) (x : T_impl_Cell) (hx : CellGood x) (hw : wide x = false) (hk : k + 1 ≤ C) : RowP C (setF f k x) (k + 1) := by
  have h0 := h.k0; have h1 := h.k1
  refine ⟨by omega, hk, fun c a b => ?_, fun c a b => ?_, fun c a b hwc => ?_⟩
  · rw [setF_ne f x (by omega)]; exact h.blank c (by omega) b
  · by_cases e : c = k
    · rw [e, setF_eq]; exact .inl hx
    · rw [setF_ne f x e, setF_ne f x (show c - 1 ≠ k by omega)]; exact h.full c a (by omega)
  · by_cases e : c = k
    · rw [e, setF_eq, hw] at hwc; cases hwc
    · rw [setF_ne f x e] at hwc ⊢
      have := h.next c a (by omega) hwc
      rw [setF_ne f x (show c + 1 ≠ k by omega)]
      exact ⟨by omega, this.2⟩
theorem RowP.two {C k : Int} {f : Int → T_impl_Cell} (h : RowP C f k) (x : T_impl_Cell) (hx : CellGood x) (hw : wide x = true) (hk : k + 2 ≤ C) : RowP C (setF (setF f k x) (k + 1) ⟨[], x.Attr⟩) (k + 2) := by
  have h0 := h.k0; have h1 := h.k1
  refine ⟨by omega, hk, fun c a b => ?_, fun c a b => ?_, fun c a b hwc => ?_⟩
  · rw [setF_ne _ _ (by omega), setF_ne f x (by omega)]; exact h.blank c (by omega) b
  · by_cases e : c = k + 1
    · rw [e, setF_eq, setF_ne _ _ (show k + 1 - 1 ≠ k + 1 by omega), show k + 1 - 1 = k by omega, setF_eq]
      exact .inr ⟨by omega, hw, rfl⟩
    · rw [setF_ne _ _ e, setF_ne _ _ (show c - 1 ≠ k + 1 by omega)]
      by_cases e2 : c = k
      · rw [e2, setF_eq]; exact .inl hx
      · rw [setF_ne f x e2, setF_ne f x (show c - 1 ≠ k by omega)]; exact h.full c a (by omega)
  · by_cases e : c = k + 1
    · rw [e, setF_eq, wide_nil] at hwc; cases hwc
    · rw [setF_ne _ _ e] at hwc ⊢
      by_cases e2 : c = k
      · rw [e2, setF_eq, setF_eq]; exact ⟨by omega, rfl⟩
      · rw [setF_ne f x e2] at hwc ⊢
        have := h.next c a (by omega) hwc
        rw [setF_ne _ _ (show c + 1 ≠ k + 1 by omega), setF_ne f x (show c + 1 ≠ k by omega)]
        exact ⟨by omega, this.2⟩
/-- A cell that takes one more point. -/
theorem RowP.again {C k i : Int} {f : Int → T_impl_Cell} (h : RowP C f k) (x : T_impl_Cell) (hx : CellGood x) (hf : CellGood (f i)) (hw : wide x = wide (f i)) (ha : x.Attr = (f i).Attr) (hi0 : 0 ≤ i) (hi : i < k) : RowP C (setF f i x) k := by
  have h0 := h.k0; have h1 := h.k1
  refine ⟨h0, h1, fun c a b => ?_, fun c a b => ?_, fun c a b hwc => ?_⟩
  · rw [setF_ne f x (by omega)]; exact h.blank c a b
  · by_cases e : c = i
    · rw [e, setF_eq]; exact .inl hx
    · rw [setF_ne f x e]
      rcases h.full c a b with g1 | ⟨g1, g2, g3⟩
      · exact .inl g1
      · by_cases e2 : c - 1 = i
        · rw [e2, setF_eq]; rw [e2] at g2 g3; exact .inr ⟨g1, by rw [hw]; exact g2, by rw [ha]; exact g3⟩
        · rw [setF_ne f x e2]; exact .inr ⟨g1, g2, g3⟩
  · by_cases e : c = i
    · rw [e, setF_eq] at hwc ⊢
      rw [hw] at hwc
      have := h.next i hi0 hi hwc
      rw [setF_ne f x (by omega), ha]; exact this
    · rw [setF_ne f x e] at hwc ⊢
      have h2 := h.next c a b hwc
      by_cases e2 : c + 1 = i
      · exfalso
        have h3 := h2.2; rw [e2] at h3
        obtain ⟨q, rest, g1, _⟩ := hf.head
        rw [h3] at g1; cases g1
      · rw [setF_ne f x e2]; exact h2
theorem rdA_setF (R : List T_impl_Cell) (i : Int) (x : T_impl_Cell) (h0 : 0 ≤ i) (h1 : i < (R.length : Int)) (c : Int) (hc : 0 ≤ c) : rdA z_impl_Cell (R.set i.toNat x) c = setF (rdA z_impl_Cell R) i x c := by
  by_cases e : c = i
  · rw [e, setF_eq]; exact rdA_set _ _ h0 h1
  · rw [setF_ne _ _ e]; exact rdA_set_ne _ _ _ _ _ h0 hc (fun h => e h.symm)
theorem put1_setF (R : List T_impl_Cell) (s : T_impl_seen) (h0 : 0 ≤ s.col) (h1 : s.col < (R.length : Int)) (h2 : wide s.cell = true → s.col + 1 < (R.length : Int)) (c : Int) (hc : 0 ≤ c) :
    rdA z_impl_Cell (put1 R s) c = (if wide s.cell = true then setF (setF (rdA z_impl_Cell R) s.col s.cell) (s.col + 1) ⟨[], s.cell.Attr⟩ else setF (rdA z_impl_Cell R) s.col s.cell) c := by
  unfold put1
  by_cases hw : wide s.cell = true
  · rw [if_pos hw, if_pos hw, rdA_setF _ _ _ (by omega) (by rw [List.length_set]; exact h2 hw) c hc]
    unfold setF
    split
    · rfl
    · exact rdA_setF _ _ _ h0 h1 c hc
  · rw [if_neg hw, if_neg hw]; exact rdA_setF _ _ _ h0 h1 c hc
def rowF (C : Int) (n : Nat) (cs : List T_impl_seen) (r : Int) : Int → T_impl_Cell := rdA z_impl_Cell (rdA [] (paint C n cs) r)
structure Rows (C : Int) (L : T_impl_layout) : Prop where
  old : ∀ r, 0 ≤ r → r < L.row → ∃ k, RowP C (rowF C (L.row.toNat + 1) L.cells r) k
  now : RowP C (rowF C (L.row.toNat + 1) L.cells L.row) L.col
  good : ∀ s ∈ L.cells, CellGood s.cell
theorem blank_get (C : Int) (c : Int) : rdA z_impl_Cell (blank C) c = z_impl_Cell := by
  unfold rdA blank
  simp only [List.getD_eq_getElem?_getD, List.getElem?_replicate]
  split <;> rfl
theorem rdA_right {α : Type} (d : α) (l : List α) (b : α) (i : Int) (h0 : 0 ≤ i) (h : i = (l.length : Int)) : rdA d (l ++ [b]) i = b := by
  have : i.toNat = l.length := by omega
  simp [rdA, List.getD_eq_getElem?_getD, this]
theorem Rows.next {C : Int} {n : Nat} {L : T_impl_layout} (h : Inv C n L) (hr : Rows C L) : Rows C (nextL L) := by
  have hC := h.hC; have hr0 := h.r0
  have e : (L.row + 1).toNat + 1 = (L.row.toNat + 1) + 1 := by omega
  have hp := paint_next C (L.row.toNat + 1) L.cells (fun s hs => by have := (h.cells s hs).r1; have := (h.cells s hs).r0; omega)
  have hl := paint_len C (L.row.toNat + 1) L.cells
  have ho : ∀ r, 0 ≤ r → r ≤ L.row → rowF C ((L.row + 1).toNat + 1) L.cells r = rowF C (L.row.toNat + 1) L.cells r := fun r a b => by
    unfold rowF; rw [e, hp, rdA_left _ _ _ _ (by omega)]
  refine ⟨fun r a b => ?_, ?_, hr.good⟩
  · have b' : r < L.row + 1 := b
    show ∃ k, RowP C (rowF C ((L.row + 1).toNat + 1) L.cells r) k
    rw [ho r a (by omega)]
    by_cases e2 : r = L.row
    · rw [e2]; exact ⟨_, hr.now⟩
    · exact hr.old r a (by omega)
  · show RowP C (rowF C ((L.row + 1).toNat + 1) L.cells (L.row + 1)) 0
    refine RowP.zero (by omega) fun c _ _ => ?_
    unfold rowF; rw [e, hp, rdA_right _ _ _ _ (by omega) (by omega)]; exact blank_get C c
theorem Rows.place {C : Int} {n : Nat} {L : T_impl_layout} (h : Inv C n L) (hr : Rows C L) (q a : Int) (hq : W q = 1 ∨ W q = 2) (hc : L.col + W q ≤ C) (hp : ptOk q = true ∧ ¬ ctl q) (ha : 0 ≤ a ∧ a ≤ 3) : Rows C (placeL L q a) := by
  have hC := h.hC; have hr0 := h.r0; have hc0 := h.c0
  have hg : CellGood ⟨[q], a⟩ := ⟨⟨q, [], rfl, hq, fun x hx => nomatch hx⟩, fun x hx => by rw [List.mem_singleton.1 hx]; exact hp, by simp, ha.1, ha.2⟩
  have hlen := paint_len C (L.row.toNat + 1) L.cells
  have hrow : ((rdA [] (paint C (L.row.toNat + 1) L.cells) L.row).length : Int) = C := paint_row (by omega) hr0 (by omega)
  refine ⟨fun r b1 b2 => ?_, ?_, fun s hs => ?_⟩
  · have b3 : r < L.row := b2
    obtain ⟨k, hk⟩ := hr.old r b1 b3
    refine ⟨k, hk.congr fun c _ _ => ?_⟩
    show rdA z_impl_Cell (rdA [] (paint C (L.row.toNat + 1) (L.cells ++ [_])) r) c = _
    rw [paint_snoc]; unfold paint1 rowF
    rw [rdA_set_ne _ _ _ _ _ (by exact hr0) b1 (by show L.row ≠ r; omega)]
  · show RowP C (rowF C (L.row.toNat + 1) (L.cells ++ [⟨⟨[q], a⟩, L.row, L.col⟩]) L.row) (L.col + W q)
    have hput := put1_setF (rdA [] (paint C (L.row.toNat + 1) L.cells) L.row) ⟨⟨[q], a⟩, L.row, L.col⟩ hc0 (by show L.col < _; rcases hq with g | g <;> omega) (fun hw => by
      have hw2 : W q = 2 := of_decide_eq_true (by rw [← wide_one q a]; exact hw)
      show L.col + 1 < _; omega)
    have hpl := paint_last C (L.row.toNat + 1) L.cells ⟨⟨[q], a⟩, L.row, L.col⟩ hr0 (by show L.row < _; omega)
    rcases hq with g | g
    · have hw : wide ⟨[q], a⟩ = false := by rw [wide_one, g]; rfl
      rw [g]
      refine (hr.now.one ⟨[q], a⟩ hg hw (by omega)).congr fun c c0 _ => ?_
      unfold rowF
      have := hput c c0
      rw [if_neg (by rw [hw]; decide)] at this
      exact (congrArg (fun R => rdA z_impl_Cell R c) hpl).trans this
    · have hw : wide ⟨[q], a⟩ = true := by rw [wide_one, g]; rfl
      rw [g]
      refine (hr.now.two ⟨[q], a⟩ hg hw (by omega)).congr fun c c0 _ => ?_
      unfold rowF
      have := hput c c0
      rw [if_pos hw] at this
      exact (congrArg (fun R => rdA z_impl_Cell R c) hpl).trans this
  · rcases List.mem_append.1 hs with e | e
    · exact hr.good s e
    · rw [List.mem_singleton.1 e]; exact hg
theorem Rows.mark {C : Int} {n : Nat} {L : T_impl_layout} (h : Inv C n L) (hr : Rows C L) (hi : L.inRow = true) (q : Int) (hq : W q = 0) (hp : ptOk q = true ∧ ¬ ctl q) (hl : (lastOf L.cells).cell.Points.length < 4) :
    Rows C ⟨L.cols, L.row, L.col, L.cells.set ((L.cells.length : Int) - 1).toNat (ext (lastOf L.cells) q), L.inRow, L.spots⟩ := by
  have hC := h.hC; have hr0 := h.r0; have hc0 := h.c0
  obtain ⟨init, s, q0, rest, e1, e2, e3, e4, e5⟩ := h.last hi
  have hs := h.cells s (by rw [e1]; simp)
  have hsg := hr.good s (by rw [e1]; simp)
  have hlast : lastOf L.cells = s := by rw [e1]; exact lastOf_snoc init s
  rw [hlast] at hl ⊢
  have hset : L.cells.set ((L.cells.length : Int) - 1).toNat (ext s q) = init ++ [ext s q] := by rw [e1]; exact set_snoc init s _
  obtain ⟨q', rest', f1, f2, f3⟩ := hsg.head
  have hxg : CellGood (ext s q).cell := by
    refine ⟨⟨q', rest' ++ [q], by show s.cell.Points ++ [q] = _; rw [f1]; rfl, f2, fun x hx => ?_⟩, fun x hx => ?_, ?_, hsg.a0, hsg.a1⟩
    · rcases List.mem_append.1 hx with e | e
      · exact f3 x e
      · rw [List.mem_singleton.1 e]; exact hq
    · rcases List.mem_append.1 hx with e | e
      · exact hsg.pts x e
      · rw [List.mem_singleton.1 e]; exact hp
    · show (s.cell.Points ++ [q]).length ≤ 4
      rw [List.length_append]; simp; omega
  have hwx : wide (ext s q).cell = wide s.cell := by rw [wide_cons f1, wide_cons (c := (ext s q).cell) (q := q') (rest := rest' ++ [q]) (by show s.cell.Points ++ [q] = _; rw [f1]; rfl)]
  have hag := paint_again C (L.row.toNat + 1) init s (ext s q).cell hwx rfl hs.c0 hs.r0 (by omega)
  have hqq : q' = q0 := by rw [e3] at f1; exact (List.cons.inj f1).1.symm
  have hsc : s.col < L.col := by subst hqq; rcases f2 with g | g <;> omega
  have hsc0 := hs.c0
  have hc1 := h.c1
  have hrow : ((rdA [] (paint C (L.row.toNat + 1) (init ++ [s])) s.row).length : Int) = C := paint_row (by omega) hs.r0 (by omega)
  have hfs : rowF C (L.row.toNat + 1) L.cells L.row s.col = s.cell := by
    unfold rowF
    rw [e1, ← e2, paint_last C _ init s hs.r0 (by omega)]
    exact put1_at _ _ hs.c0 (by rw [paint_row (by omega) hs.r0 (by omega)]; omega)
  have hlen := paint_len C (L.row.toNat + 1) (init ++ [s])
  refine ⟨fun r b1 b2 => ?_, ?_, fun x hx => ?_⟩
  · have b3 : r < L.row := b2
    obtain ⟨k, hk⟩ := hr.old r b1 b3
    refine ⟨k, hk.congr fun c _ _ => ?_⟩
    show rdA z_impl_Cell (rdA [] (paint C (L.row.toNat + 1) (L.cells.set _ (ext s q))) r) c = _
    rw [hset]
    have : init ++ [ext s q] = init ++ [⟨(ext s q).cell, s.row, s.col⟩] := rfl
    rw [this, ← hag, rdA_set_ne _ _ _ _ _ hs.r0 b1 (by omega), ← e1]; rfl
  · show RowP C (rowF C (L.row.toNat + 1) (L.cells.set _ (ext s q)) L.row) L.col
    rw [hset]
    refine (hr.now.again (i := s.col) (ext s q).cell hxg (by rw [hfs]; exact hsg) (by rw [hfs]; exact hwx) (by rw [hfs]; rfl) hs.c0 hsc).congr fun c c0 _ => ?_
    have : init ++ [ext s q] = init ++ [⟨(ext s q).cell, s.row, s.col⟩] := rfl
    unfold rowF
    rw [this, ← hag, ← e2, rdA_set _ _ hs.r0 (by rw [paint_len]; omega), rdA_setF _ _ _ hs.c0 (by rw [paint_row (by omega) hs.r0 (by omega)]; omega) c c0, e1]
  · have hx' : x ∈ init ++ [ext s q] := hset ▸ hx
    rcases List.mem_append.1 hx' with e | e
    · exact hr.good x (by rw [e1]; exact List.mem_append_left _ e)
    · rw [List.mem_singleton.1 e]; exact hxg
end Go.Proofs.Ytnhnipdanpcbeaa
