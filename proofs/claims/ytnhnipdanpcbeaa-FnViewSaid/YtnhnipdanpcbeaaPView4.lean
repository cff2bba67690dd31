/- The reference's grid; a grid's rows are right and flat; a grid is itself. -/
import Derived.Test.YtnhnipdanpcbeaaPView3
namespace Go.Proofs.Ytnhnipdanpcbeaa
open Go Eng
set_option linter.unusedVariables false
set_option linter.unusedSimpArgs false

def part (F : Int → Int → T_impl_Cell) (r c : Int) : Int → Int → T_impl_Cell := fun r' c' => if r' < r ∨ (r' = r ∧ c' < c) then F r' c' else z_impl_Cell
theorem specRow {C R T : Int} (hC : 2 ≤ C ∧ C ≤ 80) (hR : 1 ≤ R ∧ R ≤ 24) (hT : 0 ≤ T) (hT2 : T ≤ 4000000) (P : T_spec_l09Pen × List T_impl_Spot) (G : T_impl_Grid) (b : T_impl_Buf) (F : Int → Int → T_impl_Cell) (r : Nat) (hr : (r : Int) < R) (hrow : ((rdA [] P.1.rows (T + (r : Int))).length : Int) = C) (hF : ∀ c, F (r : Int) c = rdA z_impl_Cell (rdA [] P.1.rows (T + (r : Int))) c) :
    ∀ (m c : Nat) (g : List T_impl_Cell), (c : Int) + (m : Int) = C → GridIs g (part F (r : Int) (c : Int)) R C →
    ∃ g', GridIs g' (part F ((r + 1 : Nat) : Int) 0) R C ∧ ∀ v, Ev (fun k => spec_ViewOf_l0 k ((r + 1 : Nat) : Int) g' P G T b R C) v → Ev (fun k => spec_ViewOf_l1 k (c : Int) g P G T b R C (r : Int)) v
  | 0, c, g, hi, hg => by
    refine ⟨g, hg.congr fun r' c' a0 a1 a2 a3 => ?_, fun v hv => Ev.succ ?_⟩
    · unfold part
      by_cases h : r' < (r : Int) ∨ (r' = (r : Int) ∧ c' < (c : Int))
      · rw [if_pos h, if_pos (by omega)]
      · rw [if_neg h, if_neg (by omega)]
    · simp only [spec_ViewOf_l1]
      have ew : IntKind.i64.wrap ((r : Int) + 1) = ((r + 1 : Nat) : Int) := by rw [wi (by omega) (by omega)]; omega
      rw [ew]
      exact Ev.ifn (by omega) hv
  | m + 1, c, g, hi, hg => by
    have hb := idx_lt (R := R) hC.1 (show 0 ≤ (r : Int) by omega) hr (show 0 ≤ (c : Int) by omega) (show (c : Int) < C by omega)
    have hRC := mul_bound hR hC
    have hrC : 0 ≤ (r : Int) * C := Int.mul_nonneg (by omega) (by omega)
    have ew : IntKind.i64.wrap ((c : Int) + 1) = ((c + 1 : Nat) : Int) := by rw [wi (by omega) (by omega)]; omega
    have e1 : IntKind.i64.wrap (T + (r : Int)) = T + (r : Int) := wi (by omega) (by omega)
    have e2 : IntKind.i64.wrap (IntKind.i64.wrap ((r : Int) * C) + (c : Int)) = (r : Int) * C + (c : Int) := by rw [wi (x := (r : Int) * C) (by omega) (by omega), wi (by omega) (by omega)]
    have hg1 := hg.set hC.1 (r : Int) (c : Int) (rdA z_impl_Cell (rdA [] P.1.rows (T + (r : Int))) (c : Int)) (by omega) hr (by omega) (by omega)
    have hg2 := hg1.congr (f' := part F (r : Int) ((c + 1 : Nat) : Int)) fun r' c' a0 a1 a2 a3 => by
      unfold part
      by_cases h : r' = (r : Int) ∧ c' = (c : Int)
      · rw [if_pos (show r' < (r : Int) ∨ (r' = (r : Int) ∧ c' < ((c + 1 : Nat) : Int)) by omega)]
        show F r' c' = if r' = (r : Int) ∧ c' = (c : Int) then _ else _
        rw [if_pos h, h.1, h.2, hF]
      · show _ = if r' = (r : Int) ∧ c' = (c : Int) then _ else _
        rw [if_neg h]
        by_cases h2 : r' < (r : Int) ∨ (r' = (r : Int) ∧ c' < (c : Int))
        · rw [if_pos h2, if_pos (by omega)]
        · rw [if_neg h2, if_neg (by omega)]
    obtain ⟨g', h1, h2⟩ := specRow hC hR hT hT2 P G b F r hr hrow hF m (c + 1) _ (by omega) hg2
    refine ⟨g', h1, fun v hv => Ev.succ ?_⟩
    simp only [spec_ViewOf_l1, e1, e2, ew]
    exact Ev.ifp (by omega) (Ev.ifp (by omega) (Ev.ifp (by omega) (Ev.ifp (by omega) (Ev.ifp hb.1 (Ev.ifp (by rw [hg.len]; exact hb.2) (h2 v hv))))))
theorem specGrid {C R T : Int} (hC : 2 ≤ C ∧ C ≤ 80) (hR : 1 ≤ R ∧ R ≤ 24) (hT : 0 ≤ T) (hT2 : T ≤ 4000000) (P : T_spec_l09Pen × List T_impl_Spot) (G : T_impl_Grid) (b : T_impl_Buf) (n : Nat) (cs : List T_impl_seen) (hn : n ≤ 4000000) (hP : P.1.rows = paint C n cs)
    (hline : 0 ≤ (rdA z_impl_Spot P.2 b.Cursor).Line - T ∧ (rdA z_impl_Spot P.2 b.Cursor).Line ≤ 4000000) :
    ∀ (m r : Nat) (g : List T_impl_Cell), (r : Int) + (m : Int) = R → GridIs g (part (winF C n cs T) (r : Int) 0) R C →
    ∃ g', GridIs g' (winF C n cs T) R C ∧ Ev (fun k => spec_ViewOf_l0 k (r : Int) g P G T b R C) ⟨⟨G.Rows, G.Cols, g', (rdA z_impl_Spot P.2 b.Cursor).Line - T, (rdA z_impl_Spot P.2 b.Cursor).Col, G.Hang, G.Attr⟩, T, 0⟩
  | 0, r, g, hi, hg => by
    refine ⟨g, hg.congr fun r' c' a0 a1 a2 a3 => ?_, Ev.succ ?_⟩
    · unfold part; rw [if_pos (by omega)]
    · simp only [spec_ViewOf_l0]
      rw [wi (x := (rdA z_impl_Spot P.2 b.Cursor).Line - T) (by omega) (by omega)]
      exact Ev.ifn (by omega) (Ev.pure _)
  | m + 1, r, g, hi, hg => by
    have hlen : P.1.rows.length = n := by rw [hP]; exact paint_len C n cs
    have e1 : IntKind.i64.wrap (T + (r : Int)) = T + (r : Int) := wi (by omega) (by omega)
    by_cases hin : T + (r : Int) < (P.1.rows.length : Int)
    · have hrow : ((rdA [] P.1.rows (T + (r : Int))).length : Int) = C := by rw [hP]; exact paint_row (by omega) (by omega) (by omega)
      obtain ⟨g1, h1, h2⟩ := specRow hC hR hT hT2 P G b (winF C n cs T) r (by omega) hrow (fun c => by unfold winF rowF; rw [hP]) C.toNat 0 g (by omega) hg
      obtain ⟨g', h3, h4⟩ := specGrid hC hR hT hT2 P G b n cs hn hP hline m (r + 1) g1 (by omega) h1
      refine ⟨g', h3, Ev.succ ?_⟩
      simp only [spec_ViewOf_l0, e1]
      exact Ev.ifp (by omega) (Ev.ifp hin (h2 _ h4))
    · refine ⟨g, hg.congr fun r' c' a0 a1 a2 a3 => ?_, Ev.succ ?_⟩
      · unfold part
        by_cases h : r' < (r : Int) ∨ (r' = (r : Int) ∧ c' < 0)
        · rw [if_pos h]
        · rw [if_neg h]
          unfold winF rowF
          have : rdA [] (paint C n cs) (T + r') = [] := by
            have hl := paint_len C n cs
            unfold rdA
            rw [List.getD_eq_getElem?_getD, List.getElem?_eq_none (by omega)]; rfl
          rw [this]
          unfold rdA; simp
      · simp only [spec_ViewOf_l0, e1]
        rw [wi (x := (rdA z_impl_Spot P.2 b.Cursor).Line - T) (by omega) (by omega)]
        exact Ev.ifp (by omega) (Ev.ifn hin (Ev.pure _))
/-! ### right and flat -/
def CellR (c : T_impl_Cell) : Prop := CellGood c ∨ (c.Points = [] ∧ 0 ≤ c.Attr ∧ c.Attr ≤ 3)
theorem RowP.cellR {C k : Int} {f : Int → T_impl_Cell} (h : RowP C f k) {c : Int} (h0 : 0 ≤ c) (h1 : c < C) : CellR (f c) := by
  by_cases hk : c < k
  · rcases h.full c h0 hk with g | ⟨g1, g2, g3⟩
    · exact .inl g
    · rw [g3]
      rcases h.full (c - 1) (by omega) (by omega) with q | ⟨q1, q2, q3⟩
      · exact .inr ⟨rfl, q.a0, q.a1⟩
      · rw [q3, wide_nil] at g2; cases g2
  · rw [h.blank c (by omega) h1]; exact .inr ⟨rfl, by decide, by decide⟩
theorem isControl_eq (p : Int) : ∃ b, impl_isControl p = some b ∧ (b = true ↔ ctl p) := by
  unfold impl_isControl ctl
  by_cases h : p < 32
  · exact ⟨true, by rw [if_pos h], by simp [h]⟩
  · exact ⟨p == 127, by rw [if_neg h], by simp [h]⟩
theorem cellRight_l0 {c : T_impl_Cell} (h : CellR c) : ∀ (m i : Nat), i + m = c.Points.length → Ev (fun k => impl_cellRight_l0 k (i : Int) c) true
  | 0, i, hi => by
    have hl : c.Points.length ≤ 4 := by rcases h with g | g; exact g.len; rw [g.1]; simp
    have ha : 0 ≤ c.Attr ∧ c.Attr ≤ 3 := by rcases h with g | g; exact ⟨g.a0, g.a1⟩; exact g.2
    refine Ev.succ ?_
    simp only [impl_cellRight_l0]
    refine Ev.ifn (by omega) (Ev.ifp (by omega) ?_)
    rw [within_eq, decide_eq_true ha]
    exact Ev.pure _
  | m + 1, i, hi => by
    have hlt : i < c.Points.length := by omega
    rcases h with g | g
    · have hl := g.len
      have hp := g.pts _ (List.getElem_mem hlt)
      have er : rdA 0 c.Points (i : Int) = c.Points[i] := rdA_get _ _ _ hlt
      have ew : IntKind.i64.wrap ((i : Int) + 1) = ((i + 1 : Nat) : Int) := by rw [wi (by omega) (by omega)]; omega
      obtain ⟨b, hb, hb2⟩ := isControl_eq c.Points[i]
      have hbf : ¬ b = true := fun hh => hp.2 (hb2.1 hh)
      refine Ev.succ ?_
      simp only [impl_cellRight_l0, er, ew]
      refine Ev.ifp (by omega) (Ev.ifp (by omega) (Ev.bind (Ev.eq (isPoint_eq _)) (Ev.ifp hp.1 (Ev.bind (Ev.eq hb) (Ev.ifn hbf (Ev.bind (width_ev _) (Ev.ifp ?_ (cellRight_l0 (.inl g) m (i + 1) (by omega)))))))))
      obtain ⟨q, rest, f1, f2, f3⟩ := g.head
      cases i with
      | zero =>
        have e0 : c.Points[0] = q := by simp [f1]
        rw [e0]
        have : W q > 0 := by omega
        simp [this]
      | succ j =>
        have e0 : c.Points[j + 1] ∈ rest := by
          have hj : j < rest.length := by rw [f1] at hlt; simpa using hlt
          have : c.Points[j + 1] = rest[j] := by simp [f1]
          rw [this]; exact List.getElem_mem hj
        rw [f3 _ e0]
        have hne : ((((j + 1 : Nat) : Int)) == 0) = false := beq_eq_false_iff_ne.2 (by omega)
        rw [hne]; rfl
    · rw [g.1] at hlt; simp at hlt
theorem cellRight_ev {c : T_impl_Cell} (h : CellR c) : Ev (fun k => impl_cellRight k c) true := cellRight_l0 h c.Points.length 0 (by omega)
theorem isWide1_ev (c : T_impl_Cell) : Ev (fun k => impl_Cell_isWide' k c) (wide c) := by
  unfold impl_Cell_isWide' wide
  cases h : c.Points with
  | nil => exact Ev.ifn (by simp) (Ev.pure _)
  | cons q rest =>
    refine Ev.ifp (by simp) (Ev.ifp (by simp) ?_)
    have e : rdA 0 (q :: rest) 0 = q := rfl
    rw [e]
    exact Ev.bind (width_ev q) (Ev.eq rfl)
theorem isWide2_ev (g : List T_impl_Cell) (i : Int) : Ev (fun k => impl_Cell_isWide'' k g i) (wide (rdA z_impl_Cell g i)) := by
  unfold impl_Cell_isWide'' wide
  cases h : (rdA z_impl_Cell g i).Points with
  | nil => exact Ev.ifn (by simp) (Ev.pure _)
  | cons q rest =>
    refine Ev.ifp (by simp) (Ev.ifp (by simp) ?_)
    have e : rdA 0 (q :: rest) 0 = q := rfl
    rw [e]
    exact Ev.bind (width_ev q) (Ev.eq rfl)
theorem tmod_idx {C r c : Int} (hC : 2 ≤ C) (hr : 0 ≤ r) (h0 : 0 ≤ c) (h1 : c < C) : (r * C + c).tmod C = c := by
  have hn : 0 ≤ r * C + c := by have := Int.mul_nonneg hr (show 0 ≤ C by omega); omega
  rw [Int.tmod_eq_emod_of_nonneg hn, Int.add_comm, Int.add_mul_emod_self_right]
  exact Int.emod_eq_of_lt h0 h1
theorem idx_of {R C j : Int} (hC : 2 ≤ C) (h0 : 0 ≤ j) (h1 : j < R * C) : ∃ r c, j = r * C + c ∧ 0 ≤ r ∧ r < R ∧ 0 ≤ c ∧ c < C := by
  have e : (j / C) * C + j % C = j := by rw [Int.mul_comm]; exact Int.mul_ediv_add_emod _ _
  have m0 := Int.emod_nonneg j (show C ≠ 0 by omega)
  have m1 := Int.emod_lt_of_pos j (show 0 < C by omega)
  have d0 : 0 ≤ j / C := Int.ediv_nonneg h0 (by omega)
  refine ⟨j / C, j % C, e.symm, d0, ?_, m0, m1⟩
  refine Classical.byContradiction fun hn => ?_
  have : R * C ≤ (j / C) * C := Int.mul_le_mul_of_nonneg_right (by omega) (by omega)
  omega
theorem gridRight_l0 {R C : Int} (hC : 2 ≤ C ∧ C ≤ 80) (hR : 1 ≤ R ∧ R ≤ 24) (G : T_impl_Grid) (F : Int → Int → T_impl_Cell) (hG : GridIs G.Cells F R C) (hcols : G.Cols = C) (hF : ∀ r, 0 ≤ r → r < R → ∃ k, RowP C (F r) k) :
    ∀ (m j : Nat), (j : Int) + (m : Int) = R * C → Ev (fun k => impl_GridRight_l0 k (j : Int) G) true
  | 0, j, hj => by
    refine Ev.succ ?_
    simp only [impl_GridRight_l0]
    exact Ev.ifn (by have := hG.len; omega) (Ev.pure _)
  | m + 1, j, hj => by
    have hlen := hG.len
    have hRC := mul_bound hR hC
    obtain ⟨r, c, e, r0, r1, c0, c1⟩ := idx_of (R := R) hC.1 (show 0 ≤ (j : Int) by omega) (by omega)
    obtain ⟨k, hk⟩ := hF r r0 r1
    have eat : rdA z_impl_Cell G.Cells (j : Int) = F r c := by rw [e]; exact hG.at_ r c r0 r1 c0 c1
    have ew : IntKind.i64.wrap ((j : Int) + 1) = ((j + 1 : Nat) : Int) := by rw [wi (by omega) (by omega)]; omega
    have ih := gridRight_l0 hC hR G F hG hcols hF m (j + 1) (by omega)
    refine Ev.succ ?_
    simp only [impl_GridRight_l0, eat, ew, hcols]
    refine Ev.ifp (by omega) (Ev.ifp (by omega) (Ev.bind (cellRight_ev (hk.cellR c0 c1)) (Ev.ifp rfl (Ev.bind (isWide1_ev _) ?_))))
    by_cases hw : wide (F r c) = true
    · have hck : c < k := Classical.byContradiction fun hn => by rw [hk.blank c (by omega) c1] at hw; cases hw
      have hn := hk.next c c0 hck hw
      have hk1 := hk.k1
      have ej : ((j + 1 : Nat) : Int) = r * C + (c + 1) := by omega
      have ht : (((j + 1 : Nat) : Int)).tmod C = c + 1 := by rw [ej]; exact tmod_idx hC.1 r0 (by omega) (by omega)
      have hb := idx_lt (R := R) hC.1 r0 r1 (show 0 ≤ c + 1 by omega) (by omega)
      have eat2 : rdA z_impl_Cell G.Cells (((j + 1 : Nat) : Int)) = ⟨[], (F r c).Attr⟩ := by rw [ej, hG.at_ r (c + 1) r0 r1 (by omega) (by omega)]; exact hn.2
      refine Ev.ifp hw (Ev.ifp (by omega) (Ev.ifn (by rw [ht]; omega) (Ev.ifp (by omega) (Ev.ifp (by omega) ?_))))
      have ee : impl_Cell_isEmpty G.Cells (((j + 1 : Nat) : Int)) = some true := by unfold impl_Cell_isEmpty; rw [eat2]; rfl
      exact Ev.bind (Ev.eq ee) (Ev.ifp rfl (Ev.ifp (by rw [eat2]) ih))
    · exact Ev.ifn hw ih
theorem gridRight_ev {R C : Int} (hC : 2 ≤ C ∧ C ≤ 80) (hR : 1 ≤ R ∧ R ≤ 24) (g : List T_impl_Cell) (ro co : Int) (hro : 0 ≤ ro ∧ ro < R) (hco : 0 ≤ co ∧ co < C) (F : Int → Int → T_impl_Cell) (hG : GridIs g F R C) (hF : ∀ r, 0 ≤ r → r < R → ∃ k, RowP C (F r) k) :
    Ev (fun k => impl_GridRight k ⟨R, C, g, ro, co, false, 0⟩) true := by
  have hRC := mul_bound hR hC
  have hlen := hG.len
  unfold impl_GridRight impl_isRows impl_isCols impl_Cell
  simp only [within_eq, Option.bind_some]
  refine Ev.ifp (decide_eq_true hR) (Ev.ifp (decide_eq_true hC) (Ev.ifp (by rw [wi (by omega) (by omega)]; exact hlen) ?_))
  rw [wi (x := R - 1) (by omega) (by omega), wi (x := C - 1) (by omega) (by omega)]
  refine Ev.ifp (decide_eq_true (by omega)) (Ev.ifp (decide_eq_true (by omega)) (Ev.ifn (by decide) (Ev.ifp (by decide) ?_)))
  exact Ev.succ (gridRight_l0 hC hR ⟨R, C, g, ro, co, false, 0⟩ F hG rfl hF (R * C).toNat 0 (by omega))
theorem half_ev {R C : Int} (hC : 2 ≤ C ∧ C ≤ 80) (hR : 1 ≤ R ∧ R ≤ 24) (G : T_impl_Grid) (F : Int → Int → T_impl_Cell) (hG : GridIs G.Cells F R C) (hcols : G.Cols = C) {r c : Int} (r0 : 0 ≤ r) (r1 : r < R) (c0 : 0 ≤ c) (c1 : c < C) :
    Ev (fun k => impl_Grid_isRightHalf k G (r * C + c)) (decide (0 < c ∧ wide (F r (c - 1)) = true)) := by
  have hRC := mul_bound hR hC
  have hlen := hG.len
  have hb := idx_lt (R := R) hC.1 r0 r1 c0 c1
  have ht := tmod_idx (C := C) hC.1 r0 c0 c1
  unfold impl_Grid_isRightHalf
  rw [hcols, ht]
  refine Ev.ifp (by omega) ?_
  by_cases h : c > 0
  · have h2 := idx_lt (R := R) hC.1 r0 r1 (show 0 ≤ c - 1 by omega) (by omega)
    have e : IntKind.i64.wrap (r * C + c - 1) = r * C + (c - 1) := by rw [wi (by omega) (by omega)]; omega
    rw [e]
    refine Ev.ifp h (Ev.ifp h2.1 (Ev.ifp (by omega) (Ev.bind (isWide2_ev _ _) ?_)))
    rw [hG.at_ r (c - 1) r0 r1 (by omega) (by omega)]
    refine Ev.eq ?_
    congr 1
    cases hw : wide (F r (c - 1))
    · simp
    · simp; omega
  · refine Ev.ifn h (Ev.eq ?_)
    rw [decide_eq_false (fun hh => h hh.1)]
theorem flat_l0 {R C : Int} (hC : 2 ≤ C ∧ C ≤ 80) (hR : 1 ≤ R ∧ R ≤ 24) (G : T_impl_Grid) (F : Int → Int → T_impl_Cell) (hG : GridIs G.Cells F R C) (hcols : G.Cols = C) (hF : ∀ r, 0 ≤ r → r < R → ∃ k, RowP C (F r) k) :
    ∀ (m j : Nat) (fl : Bool), (j : Int) + (m : Int) = R * C → (∀ r c, 0 ≤ r → 0 < c → c < C → (j : Int) = r * C + c → fl = true → ∀ k, RowP C (F r) k → k ≤ c) → Ev (fun k => impl_FlatRight_l0 k fl (j : Int) (R * C) G) true
  | 0, j, fl, hj, hfl => by
    refine Ev.succ ?_
    simp only [impl_FlatRight_l0]
    exact Ev.ifn (by omega) (Ev.pure _)
  | m + 1, j, fl, hj, hfl => by
    have hlen := hG.len
    have hRC := mul_bound hR hC
    obtain ⟨r, c, e, r0, r1, c0, c1⟩ := idx_of (R := R) hC.1 (show 0 ≤ (j : Int) by omega) (by omega)
    obtain ⟨k, hk⟩ := hF r r0 r1
    have eat : rdA z_impl_Cell G.Cells (j : Int) = F r c := by rw [e]; exact hG.at_ r c r0 r1 c0 c1
    have ew : IntKind.i64.wrap ((j : Int) + 1) = ((j + 1 : Nat) : Int) := by rw [wi (by omega) (by omega)]; omega
    have ht : ((j : Int)).tmod C = c := by rw [e]; exact tmod_idx hC.1 r0 c0 c1
    -- what follows, whatever the flag, if it is right for this place
    have step : ∀ fl', (fl' = true → ∀ k, RowP C (F r) k → k ≤ c) → Ev (fun k => impl_FlatRight_j0 k fl' (R * C) G (j : Int)) true := by
      intro fl' hfl'
      have nextF : ∀ fl2, (fl2 = true → ∀ k, RowP C (F r) k → k ≤ c) → Ev (fun k => impl_FlatRight_l0 k fl2 ((j + 1 : Nat) : Int) (R * C) G) true := fun fl2 h2 =>
        flat_l0 hC hR G F hG hcols hF m (j + 1) fl2 (by omega) fun r' c' a0 a1 a2 ej hf k' hk' => by
          have ej2 : r * C + c = r' * C + (c' - 1) := by omega
          have := idx_inj hC.1 c0 c1 (show 0 ≤ c' - 1 by omega) (by omega) ej2
          have h3 := h2 hf k' (by rw [this.1]; exact hk')
          omega
      refine Ev.succ ?_
      simp only [impl_FlatRight_j0, ew]
      refine Ev.ifp (by omega) (Ev.ifp (by omega) ?_)
      have hh := half_ev hC hR G F hG hcols r0 r1 c0 c1
      rw [← e] at hh
      refine Ev.bind hh ?_
      by_cases hhalf : 0 < c ∧ wide (F r (c - 1)) = true
      · exact Ev.ifp (decide_eq_true hhalf) (nextF fl' hfl')
      · refine Ev.ifn (fun hd => hhalf (of_decide_eq_true hd)) ?_
        have ee : impl_Cell_isEmpty G.Cells (j : Int) = some (((F r c).Points.length : Int) == 0) := by unfold impl_Cell_isEmpty; rw [eat]
        refine Ev.bind (Ev.eq ee) ?_
        by_cases hck : c < k
        · have hgood : CellGood (F r c) := by rcases hk.full c c0 hck with g | ⟨g1, g2, _⟩; exact g; exact absurd ⟨g1, g2⟩ hhalf
          obtain ⟨q, rest, f1, _⟩ := hgood.head
          refine Ev.ifn (by rw [f1]; simp; omega) (Ev.ifn (fun hf => by have := hfl' hf k hk; omega) (nextF fl' hfl'))
        · have hz := hk.blank c (by omega) c1
          refine Ev.ifp (by rw [hz]; rfl) (Ev.ifp (by rw [eat, hz]; rfl) (nextF true fun _ k' hk' => ?_))
          refine Classical.byContradiction fun hn => ?_
          rcases hk'.full c c0 (by omega) with g | ⟨g1, g2, _⟩
          · obtain ⟨q, rest, f1, _⟩ := g.head
            rw [hz] at f1; cases f1
          · exact hhalf ⟨g1, g2⟩
    refine Ev.succ ?_
    simp only [impl_FlatRight_l0, hcols, ht]
    refine Ev.ifp (by omega) (Ev.ifp (by omega) ?_)
    by_cases hc : c = 0
    · exact Ev.ifp hc (step false fun h => nomatch h)
    · exact Ev.ifn hc (step fl fun hf => hfl r c r0 (by omega) c1 e hf)
theorem flat_ev {R C : Int} (hC : 2 ≤ C ∧ C ≤ 80) (hR : 1 ≤ R ∧ R ≤ 24) (g : List T_impl_Cell) (ro co : Int) (hro : 0 ≤ ro ∧ ro < R) (hco : 0 ≤ co ∧ co < C) (F : Int → Int → T_impl_Cell) (hG : GridIs g F R C) (hF : ∀ r, 0 ≤ r → r < R → ∃ k, RowP C (F r) k) :
    Ev (fun k => impl_FlatRight k ⟨R, C, g, ro, co, false, 0⟩) true := by
  have hRC := mul_bound hR hC
  unfold impl_FlatRight impl_Cell
  refine Ev.bind (gridRight_ev hC hR g ro co hro hco F hG hF) (Ev.ifp rfl (Ev.ifn (show ¬ false = true by decide) (Ev.ifp rfl ?_)))
  show Ev (fun k => impl_FlatRight_l0 k false 0 ((g.length : Nat) : Int) ⟨R, C, g, ro, co, false, 0⟩) true
  rw [hG.len]
  exact flat_l0 hC hR ⟨R, C, g, ro, co, false, 0⟩ F hG rfl hF (R * C).toNat 0 false (by omega) fun r c _ _ _ _ h => nomatch h
/-! ### a grid is itself -/
theorem equal_l0 (xs : List Int) (hx : xs.length ≤ 4000000) : ∀ (m i : Nat), i + m = xs.length → Ev (fun k => slices_Equal_int64_int64_l0 k (i : Int) xs xs) true
  | 0, i, hi => by
    refine Ev.succ ?_
    simp only [slices_Equal_int64_int64_l0]
    exact Ev.ifn (by omega) (Ev.pure _)
  | m + 1, i, hi => by
    have ew : IntKind.i64.wrap ((i : Int) + 1) = ((i + 1 : Nat) : Int) := by rw [wi (by omega) (by omega)]; omega
    refine Ev.succ ?_
    simp only [slices_Equal_int64_int64_l0, ew]
    exact Ev.ifp (by omega) (Ev.ifp (by omega) (Ev.ifp (by omega) (Ev.ifp trivial (equal_l0 xs hx m (i + 1) (by omega)))))
theorem sameCell_ev (c : T_impl_Cell) (h : c.Points.length ≤ 4) : Ev (fun k => impl_sameCells_1 k c c) true := by
  unfold impl_sameCells_1 slices_Equal_int64_int64
  exact Ev.ifp rfl (Ev.bind (Ev.ifp rfl (equal_l0 c.Points (by omega) c.Points.length 0 (by omega))) (Ev.pure _))
theorem sameCells_l0 (g : List T_impl_Cell) (hx : g.length ≤ 4000000) (hg : ∀ c ∈ g, c.Points.length ≤ 4) : ∀ (m i : Nat), i + m = g.length → Ev (fun k => impl_Cell_58_at_59_l0 k (i : Int) g g) true
  | 0, i, hi => by
    refine Ev.succ ?_
    simp only [impl_Cell_58_at_59_l0]
    exact Ev.ifn (by omega) (Ev.pure _)
  | m + 1, i, hi => by
    have hlt : i < g.length := by omega
    have ew : IntKind.i64.wrap ((i : Int) + 1) = ((i + 1 : Nat) : Int) := by rw [wi (by omega) (by omega)]; omega
    refine Ev.succ ?_
    simp only [impl_Cell_58_at_59_l0, ew, rdA_get z_impl_Cell g i hlt]
    exact Ev.ifp (by omega) (Ev.ifp (by omega) (Ev.ifp (by omega) (Ev.bind (sameCell_ev _ (hg _ (List.getElem_mem hlt))) (Ev.ifp rfl (sameCells_l0 g hx hg m (i + 1) (by omega))))))
theorem gridSame_ev (G : T_impl_Grid) (hx : G.Cells.length ≤ 4000000) (hg : ∀ c ∈ G.Cells, c.Points.length ≤ 4) : Ev (fun k => impl_GridSame k G G) true := by
  unfold impl_GridSame impl_sameCells impl_Cell_58_at_59
  refine Ev.ifp rfl (Ev.ifp rfl (Ev.bind (Ev.bind (Ev.ifp rfl (sameCells_l0 G.Cells hx hg G.Cells.length 0 (by omega))) (Ev.pure _)) (Ev.ifp rfl (Ev.ifp rfl (Ev.ifp rfl (Ev.ifp (by simp) (Ev.eq (by simp))))))))
end Go.Proofs.Ytnhnipdanpcbeaa
