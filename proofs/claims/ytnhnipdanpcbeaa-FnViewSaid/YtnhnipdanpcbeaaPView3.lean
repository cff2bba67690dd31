/- The window of a view: the program's and the reference's grid. -/
import Derived.Test.YtnhnipdanpcbeaaPView2
namespace Go.Proofs.Ytnhnipdanpcbeaa
open Go Eng
set_option linter.unusedVariables false
set_option linter.unusedSimpArgs false

theorem mul_bound {R C : Int} (hR : 1 ≤ R ∧ R ≤ 24) (hC : 2 ≤ C ∧ C ≤ 80) : 0 ≤ R * C ∧ R * C ≤ 1920 := by
  refine ⟨Int.mul_nonneg (by omega) (by omega), ?_⟩
  have h1 : R * C ≤ 24 * C := Int.mul_le_mul_of_nonneg_right hR.2 (by omega)
  omega
theorem idx_lt {R C r c : Int} (hC : 2 ≤ C) (h0 : 0 ≤ r) (h1 : r < R) (h2 : 0 ≤ c) (h3 : c < C) : 0 ≤ r * C + c ∧ r * C + c < R * C := by
  have a1 : 0 ≤ r * C := Int.mul_nonneg h0 (by omega)
  have a2 : (r + 1) * C ≤ R * C := Int.mul_le_mul_of_nonneg_right (by omega) (by omega)
  rw [Int.add_mul, Int.one_mul] at a2
  omega
theorem idx_inj {C r c r' c' : Int} (hC : 2 ≤ C) (h2 : 0 ≤ c) (h3 : c < C) (h2' : 0 ≤ c') (h3' : c' < C) (h : r * C + c = r' * C + c') : r = r' ∧ c = c' := by
  have key : ∀ {a b x y : Int}, 0 ≤ x → x < C → 0 ≤ y → y < C → a * C + x = b * C + y → ¬ a < b := by
    intro a b x y x0 x1 y0 y1 e hlt
    have a2 : (a + 1) * C ≤ b * C := Int.mul_le_mul_of_nonneg_right (by omega) (by omega)
    rw [Int.add_mul, Int.one_mul] at a2
    omega
  have e1 := key h2 h3 h2' h3' h
  have e2 := key h2' h3' h2 h3 h.symm
  have e : r = r' := by omega
  subst e
  exact ⟨rfl, by omega⟩
structure GridIs (g : List T_impl_Cell) (f : Int → Int → T_impl_Cell) (R C : Int) : Prop where
  len : (g.length : Int) = R * C
  at_ : ∀ r c, 0 ≤ r → r < R → 0 ≤ c → c < C → rdA z_impl_Cell g (r * C + c) = f r c
theorem GridIs.set {g : List T_impl_Cell} {f : Int → Int → T_impl_Cell} {R C : Int} (hC : 2 ≤ C) (h : GridIs g f R C) (r c : Int) (x : T_impl_Cell) (h0 : 0 ≤ r) (h1 : r < R) (h2 : 0 ≤ c) (h3 : c < C) :
    GridIs (g.set (r * C + c).toNat x) (fun r' c' => if r' = r ∧ c' = c then x else f r' c') R C := by
  have hi := idx_lt hC h0 h1 h2 h3
  refine ⟨by rw [List.length_set]; exact h.len, fun r' c' a0 a1 a2 a3 => ?_⟩
  by_cases e : r' = r ∧ c' = c
  · rw [if_pos e, e.1, e.2]; exact rdA_set _ _ hi.1 (by rw [h.len]; exact hi.2)
  · rw [if_neg e, rdA_set_ne _ _ _ _ _ hi.1 (idx_lt hC a0 a1 a2 a3).1 (fun he => e (by have := idx_inj hC h2 h3 a2 a3 he; exact ⟨this.1.symm, this.2.symm⟩))]
    exact h.at_ r' c' a0 a1 a2 a3
theorem GridIs.congr {g : List T_impl_Cell} {f f' : Int → Int → T_impl_Cell} {R C : Int} (h : GridIs g f R C) (e : ∀ r c, 0 ≤ r → r < R → 0 ≤ c → c < C → f' r c = f r c) : GridIs g f' R C :=
  ⟨h.len, fun r c a b d d' => (h.at_ r c a b d d').trans (e r c a b d d').symm⟩
theorem GridIs.eq {g g' : List T_impl_Cell} {f : Int → Int → T_impl_Cell} {R C : Int} (hR : 1 ≤ R ∧ R ≤ 24) (hC : 2 ≤ C ∧ C ≤ 80) (h : GridIs g f R C) (h' : GridIs g' f R C) : g = g' := by
  have hl : g.length = g'.length := by have := h.len; have := h'.len; omega
  refine List.ext_getElem hl fun j h1 h2 => ?_
  have hlen := h.len
  have e : ((j : Int) / C) * C + (j : Int) % C = (j : Int) := by rw [Int.mul_comm]; exact Int.mul_ediv_add_emod _ _
  have m0 := Int.emod_nonneg (j : Int) (show C ≠ 0 by omega)
  have m1 := Int.emod_lt_of_pos (j : Int) (show 0 < C by omega)
  have d0 : 0 ≤ (j : Int) / C := Int.ediv_nonneg (by omega) (by omega)
  have d1 : (j : Int) / C < R := by
    refine Classical.byContradiction fun hn => ?_
    have : R * C ≤ ((j : Int) / C) * C := Int.mul_le_mul_of_nonneg_right (by omega) (by omega)
    omega
  have k1 := h.at_ _ _ d0 d1 m0 m1
  have k2 := h'.at_ _ _ d0 d1 m0 m1
  rw [e] at k1 k2
  rw [rdA_get _ _ _ h1] at k1
  rw [rdA_get _ _ _ h2] at k2
  rw [k1, k2]
def winF (C : Int) (n : Nat) (cs : List T_impl_seen) (T : Int) : Int → Int → T_impl_Cell := fun r c => rowF C n cs (T + r) c
theorem isWide_ev (g : List T_impl_Cell) (i : Int) : Ev (fun k => impl_Cell_isWide k g i) (wide (rdA z_impl_Cell g i)) := by
  unfold impl_Cell_isWide wide
  cases h : (rdA z_impl_Cell g i).Points with
  | nil => exact Ev.ifn (by simp) (Ev.pure _)
  | cons q rest =>
    refine Ev.ifp (by simp) (Ev.ifp (by simp) ?_)
    have e : rdA 0 (q :: rest) 0 = q := rfl
    rw [e]
    refine Ev.bind (width_ev q) ?_
    refine Ev.eq ?_
    rfl
def viewV (R C : Int) (g : List T_impl_Cell) (sp : T_impl_Spot) (T : Int) : T_impl_View := ⟨⟨R, C, g, sp.Line - T, sp.Col, false, 0⟩, T, 0⟩
def gridB (R C : Int) : List T_impl_Cell := List.replicate (R * C).toNat z_impl_Cell
theorem gridB_is {R C : Int} (hR : 1 ≤ R ∧ R ≤ 24) (hC : 2 ≤ C ∧ C ≤ 80) {f : Int → Int → T_impl_Cell} (hf : ∀ r c, 0 ≤ r → r < R → 0 ≤ c → c < C → f r c = z_impl_Cell) : GridIs (gridB R C) f R C := by
  have hb := mul_bound hR hC
  refine ⟨by unfold gridB; rw [List.length_replicate]; omega, fun r c a b d e => ?_⟩
  rw [hf r c a b d e]
  unfold rdA gridB
  simp only [List.getD_eq_getElem?_getD, List.getElem?_replicate]
  split <;> rfl
theorem win_place {C : Int} (hC : 2 ≤ C) {n : Nat} {cs : List T_impl_seen} {s : T_impl_seen} {T R : Int} (hT : 0 ≤ T) (hs : 0 ≤ s.row) (hsn : s.row < (n : Int)) (hc0 : 0 ≤ s.col) (hc1 : s.col < C) (hc2 : wide s.cell = true → s.col + 1 < C) (r c : Int) (hr : 0 ≤ r) (hc : 0 ≤ c) :
    winF C n (cs ++ [s]) T r c = (if T + r = s.row then (if wide s.cell = true then (if c = s.col + 1 then ⟨[], s.cell.Attr⟩ else if c = s.col then s.cell else winF C n cs T r c) else (if c = s.col then s.cell else winF C n cs T r c)) else winF C n cs T r c) := by
  unfold winF rowF
  by_cases e : T + r = s.row
  · rw [if_pos e, e, paint_last C n cs s hs hsn]
    have hrow : ((rdA [] (paint C n cs) s.row).length : Int) = C := paint_row (by omega) hs hsn
    rw [put1_setF _ s hc0 (by omega) (fun h => by have := hc2 h; omega) c hc]
    unfold setF
    split
    · rfl
    · rfl
  · rw [if_neg e, paint_snoc]; unfold paint1
    rw [rdA_set_ne _ _ _ _ _ hs (by omega) (fun h => e h.symm)]
theorem implGrid {C R T : Int} (hC : 2 ≤ C ∧ C ≤ 80) (hR : 1 ≤ R ∧ R ≤ 24) (hT : 0 ≤ T) (hT2 : T ≤ 4000000) (L : T_impl_layout) (G : T_impl_Grid) (b : T_impl_Buf) (n : Nat) (hL : Inv C 10000 L) (hn : L.row < (n : Int))
    (eT : mx (IntKind.i64.wrap ((IntKind.i64.wrap (((rdA z_impl_Spot L.spots b.Cursor).Line) - R)) + 1)) 0 = T) (hline : 0 ≤ (rdA z_impl_Spot L.spots b.Cursor).Line - T ∧ (rdA z_impl_Spot L.spots b.Cursor).Line ≤ 4000000) :
    ∀ (m i : Nat) (g : List T_impl_Cell), i + m = L.cells.length → GridIs g (winF C n (L.cells.take i) T) R C →
    ∃ g', GridIs g' (winF C n L.cells T) R C ∧ Ev (fun k => impl_ViewOf_l0 k L.cells (i : Int) g L G b R C) ⟨⟨G.Rows, G.Cols, g', (rdA z_impl_Spot L.spots b.Cursor).Line - T, (rdA z_impl_Spot L.spots b.Cursor).Col, G.Hang, G.Attr⟩, T, 0⟩
  | 0, i, g, hi, hg => by
    rw [List.take_of_length_le (by omega)] at hg
    refine ⟨g, hg, Ev.succ ?_⟩
    refine Ev.ifn (by omega) (Ev.succ ?_)
    simp only [impl_ViewOf_j1, eT]
    rw [wi (by omega) (by omega)]
    exact Ev.pure _
  | m + 1, i, g, hi, hg => by
    have hlt : i < L.cells.length := by omega
    have hnum := hL.num
    have ew : IntKind.i64.wrap ((i : Int) + 1) = ((i + 1 : Nat) : Int) := by rw [wi (by omega) (by omega)]; omega
    have er : rdA z_impl_seen L.cells (i : Int) = L.cells[i] := rdA_get _ _ _ hlt
    have hs := hL.cells _ (List.getElem_mem hlt)
    have htake : L.cells.take (i + 1) = L.cells.take i ++ [L.cells[i]] := List.take_succ_eq_append_getElem hlt
    obtain ⟨q, rest, f1, f2, f3⟩ := hs.pts
    have hc0 := hs.c0; have hr0 := hs.r0; have hr1 := hs.r1
    have hLr := hL.r1
    generalize hsv : L.cells[i] = s at *
    have hw2 : wide s.cell = true → s.col + 1 < C := fun hw => by
      rw [wide_cons f1] at hw
      have := of_decide_eq_true hw; omega
    have hwin := fun r c hr hc => win_place (C := C) (n := n) (cs := L.cells.take i) (s := s) (T := T) (R := R) hC.1 hT hr0 (by omega) hc0 (by rcases f2 with g | g <;> omega) hw2 r c hr hc
    have e1 : IntKind.i64.wrap (IntKind.i64.wrap (T + R) - 1) = T + R - 1 := by rw [wi (x := T + R) (by omega) (by omega), wi (by omega) (by omega)]
    by_cases hin : T ≤ s.row ∧ s.row ≤ T + R - 1
    · have hb := idx_lt (R := R) hC.1 (show 0 ≤ s.row - T by omega) (by omega) hc0 (show s.col < C by rcases f2 with g | g <;> omega)
      have hRC := mul_bound hR hC
      have hrC : 0 ≤ (s.row - T) * C ∧ (s.row - T) * C ≤ 1920 := ⟨Int.mul_nonneg (by omega) (by omega), by omega⟩
      have e2 : IntKind.i64.wrap (IntKind.i64.wrap (IntKind.i64.wrap (s.row - T) * C) + s.col) = (s.row - T) * C + s.col := by
        rw [wi (x := s.row - T) (by omega) (by omega), wi (x := (s.row - T) * C) (by omega) (by omega), wi (by omega) (by omega)]
      have e3 : IntKind.i64.wrap ((s.row - T) * C + s.col + 1) = (s.row - T) * C + s.col + 1 := wi (by omega) (by omega)
      have hg1 := hg.set hC.1 (s.row - T) s.col s.cell (by omega) (by omega) hc0 (show s.col < C by rcases f2 with g | g <;> omega)
      have hat : rdA z_impl_Cell (g.set ((s.row - T) * C + s.col).toNat s.cell) ((s.row - T) * C + s.col) = s.cell := rdA_set _ _ hb.1 (by rw [hg.len]; exact hb.2)
      have hlen1 := hg1.len
      by_cases hw : wide s.cell = true
      · have hcw := hw2 hw
        have hg2 := hg1.set hC.1 (s.row - T) (s.col + 1) ⟨[], s.cell.Attr⟩ (by omega) (by omega) (by omega) hcw
        have e4 : (s.row - T) * C + (s.col + 1) = (s.row - T) * C + s.col + 1 := by omega
        rw [e4] at hg2
        have hb2 := idx_lt (R := R) hC.1 (show 0 ≤ s.row - T by omega) (by omega) (show 0 ≤ s.col + 1 by omega) hcw
        rw [e4] at hb2
        have hg3 : GridIs ((g.set ((s.row - T) * C + s.col).toNat s.cell).set ((s.row - T) * C + s.col + 1).toNat ⟨[], s.cell.Attr⟩) (winF C n (L.cells.take (i + 1)) T) R C := hg2.congr fun r c a0 a1 a2 a3 => by
          rw [htake, hwin r c a0 a2]
          by_cases er2 : T + r = s.row
          · rw [if_pos er2, if_pos hw]
            by_cases ec : c = s.col + 1
            · rw [if_pos ec, if_pos (show r = s.row - T ∧ c = s.col + 1 from ⟨by omega, ec⟩)]
            · rw [if_neg ec, if_neg (show ¬ (r = s.row - T ∧ c = s.col + 1) from fun h => ec h.2)]
              by_cases ec2 : c = s.col
              · rw [if_pos ec2, if_pos (show r = s.row - T ∧ c = s.col from ⟨by omega, ec2⟩)]
              · rw [if_neg ec2, if_neg (show ¬ (r = s.row - T ∧ c = s.col) from fun h => ec2 h.2)]
          · rw [if_neg er2, if_neg (show ¬ (r = s.row - T ∧ c = s.col + 1) from fun h => er2 (by omega)), if_neg (show ¬ (r = s.row - T ∧ c = s.col) from fun h => er2 (by omega))]
        obtain ⟨g', hgr, hev⟩ := implGrid hC hR hT hT2 L G b n hL hn eT hline m (i + 1) _ (by omega) hg3
        refine ⟨g', hgr, Ev.succ ?_⟩
        simp only [impl_ViewOf_l0, er, hsv, eT, e1, e2, e3, ew]
        refine Ev.ifp (by omega) (Ev.ifp (by omega) (Ev.ifp (by omega) (Ev.bind (Ev.eq (within_eq _ _ _)) (Ev.ifp (decide_eq_true hin) ?_))))
        refine Ev.ifp hb.1 (Ev.ifp (by rw [hg.len]; exact hb.2) (Ev.ifp (by rw [List.length_set, hg.len]; exact hb.2) (Ev.bind (isWide_ev _ _) ?_)))
        refine Ev.ifp (by rw [hat]; exact hw) (Ev.ifp (by omega) (Ev.ifp (by rw [List.length_set, hg.len]; exact hb2.2) hev))
      · have hg3 : GridIs (g.set ((s.row - T) * C + s.col).toNat s.cell) (winF C n (L.cells.take (i + 1)) T) R C := hg1.congr fun r c a0 a1 a2 a3 => by
          rw [htake, hwin r c a0 a2]
          by_cases er2 : T + r = s.row
          · rw [if_pos er2, if_neg hw]
            by_cases ec2 : c = s.col
            · rw [if_pos ec2, if_pos (show r = s.row - T ∧ c = s.col from ⟨by omega, ec2⟩)]
            · rw [if_neg ec2, if_neg (show ¬ (r = s.row - T ∧ c = s.col) from fun h => ec2 h.2)]
          · rw [if_neg er2, if_neg (show ¬ (r = s.row - T ∧ c = s.col) from fun h => er2 (by omega))]
        obtain ⟨g', hgr, hev⟩ := implGrid hC hR hT hT2 L G b n hL hn eT hline m (i + 1) _ (by omega) hg3
        refine ⟨g', hgr, Ev.succ ?_⟩
        simp only [impl_ViewOf_l0, er, hsv, eT, e1, e2, e3, ew]
        refine Ev.ifp (by omega) (Ev.ifp (by omega) (Ev.ifp (by omega) (Ev.bind (Ev.eq (within_eq _ _ _)) (Ev.ifp (decide_eq_true hin) ?_))))
        refine Ev.ifp hb.1 (Ev.ifp (by rw [hg.len]; exact hb.2) (Ev.ifp (by rw [List.length_set, hg.len]; exact hb.2) (Ev.bind (isWide_ev _ _) ?_)))
        exact Ev.ifn (by rw [hat]; exact hw) hev
    · have hg3 : GridIs g (winF C n (L.cells.take (i + 1)) T) R C := hg.congr fun r c a0 a1 a2 a3 => by
        rw [htake, hwin r c a0 a2, if_neg (show ¬ T + r = s.row from fun h => hin (by omega))]
      obtain ⟨g', hgr, hev⟩ := implGrid hC hR hT hT2 L G b n hL hn eT hline m (i + 1) _ (by omega) hg3
      refine ⟨g', hgr, Ev.succ ?_⟩
      simp only [impl_ViewOf_l0, er, hsv, eT, e1, ew]
      exact Ev.ifp (by omega) (Ev.ifp (by omega) (Ev.ifp (by omega) (Ev.bind (Ev.eq (within_eq _ _ _)) (Ev.ifn (fun h => hin (of_decide_eq_true h)) hev))))
end Go.Proofs.Ytnhnipdanpcbeaa
