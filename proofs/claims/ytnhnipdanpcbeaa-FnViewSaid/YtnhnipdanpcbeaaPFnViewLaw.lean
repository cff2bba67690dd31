/- 'laws.FnView' answers true, for every row of bytes. -/
import Derived.Test.YtnhnipdanpcbeaaPView4
namespace Go.Proofs.Ytnhnipdanpcbeaa
open Go Eng
set_option linter.unusedVariables false
set_option linter.unusedSimpArgs false

def badV (c : Int) : T_impl_View := ⟨⟨0, 0, [], 0, 0, false, 0⟩, 0, c⟩
theorem implGridNew_ev {R C : Int} (hR : 1 ≤ R ∧ R ≤ 24) (hC : 2 ≤ C ∧ C ≤ 80) : Ev (fun k => impl_GridNew k R C) ⟨R, C, gridB R C, 0, 0, false, 0⟩ := by
  have hb := mul_bound hR hC
  unfold impl_GridNew impl_isRows impl_isCols
  simp only [within_eq, Option.bind_some]
  refine Ev.ifp (decide_eq_true hR) ?_
  rw [decide_eq_true hC]
  refine Ev.succ ?_
  simp only [impl_GridNew_j1, Bool.not_true, Bool.false_eq_true, if_false]
  refine Ev.succ ?_
  simp only [impl_GridNew_j0]
  rw [wi (by omega) (by omega)]
  exact Ev.ifp (by omega) (Ev.ifp (by omega) (Ev.pure _))
theorem size_eq (R C : Int) : spec_l08Size R C = some (decide (1 ≤ R ∧ R ≤ 24) && colsOk C) := by
  unfold spec_l08Size colsOk
  refine itS (fun h1 => itS (fun h2 => itS (fun h3 => ?_) (fun h3 => ?_)) (fun h2 => ?_)) (fun h1 => ?_)
  · rw [decide_eq_true (show 1 ≤ R ∧ R ≤ 24 by omega), Bool.true_and]
    congr 1
    by_cases h : C ≤ 80
    · rw [decide_eq_true h, decide_eq_true ⟨h3, h⟩]
    · rw [decide_eq_false h, decide_eq_false (fun hh => h hh.2)]
  · rw [decide_eq_false (show ¬ (2 ≤ C ∧ C ≤ 80) by omega), Bool.and_false]
  · rw [decide_eq_false (show ¬ (1 ≤ R ∧ R ≤ 24) by omega), Bool.false_and]
  · rw [decide_eq_false (show ¬ (1 ≤ R ∧ R ≤ 24) by omega), Bool.false_and]
theorem specGridNew_eq {R C : Int} (hR : 1 ≤ R ∧ R ≤ 24) (hC : 2 ≤ C ∧ C ≤ 80) : spec_GridNew R C = some ⟨R, C, gridB R C, 0, 0, false, 0⟩ := by
  have hb := mul_bound hR hC
  unfold spec_GridNew
  rw [size_eq, decide_eq_true hR, show colsOk C = true from decide_eq_true hC, Bool.and_self, Option.bind_some, if_pos rfl, wi (by omega) (by omega), if_pos (by omega), if_pos (by omega)]
  rfl
theorem winF_nil (C : Int) (n : Nat) (T r c : Int) : winF C n [] T r c = z_impl_Cell := by
  unfold winF rowF paint
  have h : ∀ i : Int, rdA [] (List.replicate n (blank C)) i = blank C ∨ rdA [] (List.replicate n (blank C)) i = [] := fun i => by
    unfold rdA
    simp only [List.getD_eq_getElem?_getD, List.getElem?_replicate]
    split
    · exact .inl rfl
    · exact .inr rfl
  show rdA z_impl_Cell (rdA [] (List.replicate n (blank C)) (T + r)) c = z_impl_Cell
  rcases h (T + r) with e | e
  · rw [e]; exact blank_get C c
  · rw [e]; unfold rdA; simp
theorem view_ex {R C : Int} (p : List Int) (b : T_impl_Buf) (fl : Bool) (h : viewedOk p b C = true) (hR : 1 ≤ R ∧ R ≤ 24) :
    ∃ g T, 0 ≤ T ∧ 0 ≤ (rdA z_impl_Spot (layAll p b fl C).spots b.Cursor).Line - T ∧ (rdA z_impl_Spot (layAll p b fl C).spots b.Cursor).Line - T < R ∧ (T > 0 → (rdA z_impl_Spot (layAll p b fl C).spots b.Cursor).Line - T = R - 1) ∧ T ≤ 4000000 ∧
      GridIs g (winF C ((layAll p b fl C).row.toNat + 1) (layAll p b fl C).cells T) R C ∧
      Ev (fun k => impl_ViewOf k p b fl R C) (viewV R C g (rdA z_impl_Spot (layAll p b fl C).spots b.Cursor) T) ∧ Ev (fun k => spec_ViewOf k p b fl R C) (viewV R C g (rdA z_impl_Spot (layAll p b fl C).spots b.Cursor) T) := by
  obtain ⟨h1, h2, h3, hC, h5, h6⟩ := viewed_of h
  have hs := layAll_sp hC p b fl h5 h6
  have hi := layAll_inv hC p b fl h5 h6
  have hpl : 0 ≤ b.Cursor ∧ b.Cursor ≤ (b.Points.length : Int) := by
    have hb := h2; unfold bufOk placeOk at hb
    simp only [Bool.and_eq_true, decide_eq_true_eq] at hb
    exact hb.2.1
  have hlen := hs.len
  have hsp := hs.rng _ (rdA_in z_impl_Spot _ b.Cursor hpl.1 (by omega))
  have hil := implLay_ev hC p b fl h5 h2
  have hsl := specLay_ev hC p b fl h5 h2
  generalize hL : layAll p b fl C = L at *
  generalize hsv : rdA z_impl_Spot L.spots b.Cursor = sp at *
  have hr0 := hi.r0; have hr1 := hi.r1; have hcols := hi.cols
  have ew : IntKind.i64.wrap (IntKind.i64.wrap (sp.Line - R) + 1) = sp.Line - R + 1 := by rw [wi (x := sp.Line - R) (by omega) (by omega), wi (by omega) (by omega)]
  obtain ⟨T, hT⟩ : ∃ T, T = mx (sp.Line - R + 1) 0 := ⟨_, rfl⟩
  have hTm := hT
  rw [mx_max] at hTm
  have hn : L.row < ((L.row.toNat + 1 : Nat) : Int) := by omega
  obtain ⟨g1, hg1, he1⟩ := implGrid (R := R) (T := T) hC hR (by omega) (by omega) L ⟨R, C, gridB R C, 0, 0, false, 0⟩ b (L.row.toNat + 1) hi hn (by rw [hsv, ew, hT]) (by rw [hsv]; omega) L.cells.length 0 (gridB R C) (by omega) (gridB_is hR hC fun r c _ _ _ _ => by rw [List.take_zero]; exact winF_nil _ _ _ _ _)
  obtain ⟨g2, hg2, he2⟩ := specGrid (R := R) (T := T) hC hR (by omega) (by omega) (pen L, L.spots) ⟨R, C, gridB R C, 0, 0, false, 0⟩ b (L.row.toNat + 1) L.cells (by omega) (by show paint L.cols _ _ = _; rw [hcols]) (by show 0 ≤ (rdA z_impl_Spot L.spots b.Cursor).Line - T ∧ (rdA z_impl_Spot L.spots b.Cursor).Line ≤ 4000000; rw [hsv]; omega) R.toNat 0 (gridB R C) (by omega) (gridB_is hR hC fun r c a _ d _ => by unfold part; rw [if_neg (by omega)])
  have heq : g1 = g2 := GridIs.eq hR hC hg1 hg2
  subst heq
  refine ⟨g1, T, by omega, by omega, by omega, fun _ => by omega, by omega, hg1, ?_, ?_⟩
  · unfold impl_ViewOf impl_isMany
    refine Ev.bind (Ev.pure _) ?_
    refine Ev.ifn (by rw [decide_eq_false (by omega)]; decide) (Ev.bind (viewed_ev p b C) (Ev.ifp h ?_))
    unfold impl_isRows
    simp only [within_eq, Option.bind_some]
    rw [decide_eq_true hR]
    refine Ev.succ ?_
    simp only [impl_ViewOf_j2, Bool.not_true, Bool.false_eq_true, if_false]
    refine Ev.succ ?_
    simp only [impl_ViewOf_j0]
    refine Ev.bind hil (Ev.bind (implGridNew_ev hR hC) (Ev.ifp hpl.1 (Ev.ifp (by omega) ?_)))
    rw [hsv] at he1
    exact he1
  · unfold spec_ViewOf
    refine Ev.ifn (by omega) (Ev.bind (specPoints_ev p) (Ev.ifp h1 (Ev.bind (specBuf_ev b) (Ev.ifp h2 (Ev.bind (Ev.eq (size_eq R C)) ?_)))))
    rw [decide_eq_true hR, h3]
    refine Ev.succ ?_
    simp only [spec_ViewOf_j2, Bool.and_self, Bool.not_true, Bool.false_eq_true, if_false]
    refine Ev.succ ?_
    simp only [spec_ViewOf_j0]
    refine Ev.bind hsl (Ev.ifp hpl.1 (Ev.ifp (by show b.Cursor < (L.spots.length : Int); omega) (Ev.bind (Ev.eq (specGridNew_eq hR hC)) ?_)))
    have em : spec_l01Max 0 (IntKind.i64.wrap (IntKind.i64.wrap ((rdA z_impl_Spot L.spots b.Cursor).Line - R) + 1)) = some T := by
      rw [hsv, ew, hT, mx_max]; unfold spec_l01Max; split <;> congr 1 <;> omega
    refine Ev.bind (Ev.eq em) ?_
    refine Ev.succ ?_
    simp only [spec_ViewOf_j1]
    have he2' : Ev (fun k => spec_ViewOf_l0 k ((0 : Nat) : Int) (gridB R C) (pen L, L.spots) ⟨R, C, gridB R C, 0, 0, false, 0⟩ T b R C) ⟨⟨R, C, g1, (rdA z_impl_Spot L.spots b.Cursor).Line - T, (rdA z_impl_Spot L.spots b.Cursor).Col, false, 0⟩, T, 0⟩ := he2
    rw [hsv] at he2'
    exact he2'
theorem view_bad {R C : Int} (p : List Int) (b : T_impl_Buf) (fl : Bool) (h : ¬ (viewedOk p b C = true ∧ (1 ≤ R ∧ R ≤ 24))) :
    ∃ c, c ≠ 0 ∧ Ev (fun k => impl_ViewOf k p b fl R C) (badV c) ∧ Ev (fun k => spec_ViewOf k p b fl R C) (badV c) := by
  by_cases hl : (p.length : Int) > 400
  · refine ⟨2, by decide, ?_, ?_⟩
    · unfold impl_ViewOf impl_isMany
      refine Ev.bind (Ev.pure _) ?_
      exact Ev.ifp (decide_eq_true hl) (Ev.pure _)
    · unfold spec_ViewOf; exact Ev.ifp hl (Ev.pure _)
  · refine ⟨1, by decide, ?_, ?_⟩
    · have hj : Ev (fun k => impl_ViewOf_j2 k true p b fl R C) (badV 1) := by
        refine Ev.succ ?_
        simp only [impl_ViewOf_j2, if_true]
        exact Ev.pure _
      unfold impl_ViewOf impl_isMany
      refine Ev.bind (Ev.pure _) ?_
      refine Ev.ifn (by rw [decide_eq_false hl]; decide) (Ev.bind (viewed_ev p b C) ?_)
      by_cases hv : viewedOk p b C = true
      · refine Ev.ifp hv ?_
        unfold impl_isRows
        simp only [within_eq, Option.bind_some]
        rw [decide_eq_false (fun hr => h ⟨hv, hr⟩)]
        exact hj
      · exact Ev.ifn hv hj
    · have hj : Ev (fun k => spec_ViewOf_j2 k true p b fl R C) (badV 1) := by
        refine Ev.succ ?_
        simp only [spec_ViewOf_j2, if_true]
        exact Ev.pure _
      unfold spec_ViewOf
      refine Ev.ifn hl (Ev.bind (specPoints_ev p) ?_)
      by_cases h1 : ptsOk p = true
      · refine Ev.ifp h1 (Ev.bind (specBuf_ev b) ?_)
        by_cases h2 : bufOk b = true
        · refine Ev.ifp h2 (Ev.bind (Ev.eq (size_eq R C)) ?_)
          have : (decide (1 ≤ R ∧ R ≤ 24) && colsOk C) = false := by
            by_cases hr : 1 ≤ R ∧ R ≤ 24
            · have : ¬ colsOk C = true := fun hc => h ⟨by unfold viewedOk; rw [h1, h2, hc]; rfl, hr⟩
              rw [decide_eq_true hr, Bool.true_and]; simpa using this
            · rw [decide_eq_false hr, Bool.false_and]
          rw [this]
          exact hj
        · exact Ev.ifn h2 hj
      · exact Ev.ifn h1 hj
theorem law_ev (xs : List Int) : ∃ k, laws_FnView k xs = some true := by
  refine Ev.ex (F := fun k => laws_FnView k xs) ?_
  unfold laws_FnView
  by_cases h0 : (xs.length : Int) > 1048576
  · exact Ev.ifp h0 (Ev.pure _)
  · refine Ev.ifn h0 ?_
    obtain ⟨b1, e1, hS, hB⟩ := drawView_ex xs (by omega)
    refine Ev.bind e1 ?_
    by_cases hok : viewedOk b1.1 b1.2.1 b1.2.2.2.2 = true ∧ (1 ≤ b1.2.2.2.1 ∧ b1.2.2.2.1 ≤ 24)
    · obtain ⟨hv, hR⟩ := hok
      obtain ⟨h1, h2, h3, hC, h5, h6⟩ := viewed_of hv
      obtain ⟨g, T, t0, t1, t2, t3, t4, hg, he1, he2⟩ := view_ex b1.1 b1.2.1 b1.2.2.1 hv hR
      have hb2 := h2
      unfold bufOk placeOk at hb2
      simp only [Bool.and_eq_true, decide_eq_true_eq] at hb2
      have hcur := hb2.2.1
      have hsim := layAll_sim b1.1 b1.2.1 b1.2.2.1 false b1.2.2.2.2
      have hspots := implSpot_ev b1.1 b1.2.1 b1.2.2.2.2 hv b1.2.1.Cursor.toNat (by omega)
      rw [← hsim.spots, show ((b1.2.1.Cursor.toNat : Nat) : Int) = b1.2.1.Cursor by omega] at hspots
      have hs := layAll_sp hC b1.1 b1.2.1 b1.2.2.1 h5 h6
      have hi := layAll_inv hC b1.1 b1.2.1 b1.2.2.1 h5 h6
      have hlen := hs.len
      have hmem := rdA_in z_impl_Spot (layAll b1.1 b1.2.1 b1.2.2.1 b1.2.2.2.2).spots b1.2.1.Cursor hcur.1 (by omega)
      have hsp := hs.rng _ hmem
      have hup := hs.up _ hmem
      rw [hsim.spot] at hup
      have hrows := layAll_rows hC b1.1 b1.2.1 b1.2.2.1 h1 hb2.1
      have hF : ∀ r, 0 ≤ r → r < b1.2.2.2.1 → ∃ k, RowP b1.2.2.2.2 (winF b1.2.2.2.2 ((layAll b1.1 b1.2.1 b1.2.2.1 b1.2.2.2.2).row.toNat + 1) (layAll b1.1 b1.2.1 b1.2.2.1 b1.2.2.2.2).cells T r) k := fun r a0 a1 => by
        have hr0 := hi.r0
        by_cases ha : T + r < (layAll b1.1 b1.2.1 b1.2.2.1 b1.2.2.2.2).row
        · exact hrows.old (T + r) (by omega) ha
        · by_cases hb : T + r = (layAll b1.1 b1.2.1 b1.2.2.1 b1.2.2.2.2).row
          · have hnow := hrows.now
            rw [← hb] at hnow
            refine ⟨_, hnow.congr fun c _ _ => ?_⟩
            unfold winF
            rw [← hb]
          · refine ⟨0, RowP.zero (by omega) fun c _ _ => ?_⟩
            unfold winF rowF
            have hl := paint_len b1.2.2.2.2 ((layAll b1.1 b1.2.1 b1.2.2.1 b1.2.2.2.2).row.toNat + 1) (layAll b1.1 b1.2.1 b1.2.2.1 b1.2.2.2.2).cells
            have : rdA [] (paint b1.2.2.2.2 ((layAll b1.1 b1.2.1 b1.2.2.1 b1.2.2.2.2).row.toNat + 1) (layAll b1.1 b1.2.1 b1.2.2.1 b1.2.2.2.2).cells) (T + r) = [] := by
              unfold rdA
              rw [List.getD_eq_getElem?_getD, List.getElem?_eq_none (by omega)]; rfl
            rw [this]; unfold rdA; simp
      have hRC := mul_bound hR hC
      have hgl := hg.len
      have hpts : ∀ c ∈ g, c.Points.length ≤ 4 := fun c hc => by
        obtain ⟨j, hj, rfl⟩ := List.mem_iff_getElem.1 hc
        obtain ⟨r, c, e, r0, r1, c0, c1⟩ := idx_of (R := b1.2.2.2.1) hC.1 (show 0 ≤ (j : Int) by omega) (by omega)
        obtain ⟨k, hk⟩ := hF r r0 r1
        have ha := hg.at_ r c r0 r1 c0 c1
        rw [← e, rdA_get _ _ _ hj] at ha
        rw [ha]
        rcases hk.cellR c0 c1 with q | q
        · exact q.len
        · rw [q.1]; simp
      generalize hspv : rdA z_impl_Spot (layAll b1.1 b1.2.1 b1.2.2.1 b1.2.2.2.2).spots b1.2.1.Cursor = sp at *
      refine Ev.bind he2 (Ev.bind (Ev.eq (lwCopy_eq _ hS)) (Ev.bind he1 ?_))
      refine Ev.succ ?_
      simp only [laws_FnView_j0]
      refine Ev.ifp trivial (Ev.ifp rfl (Ev.bind (Ev.eq (lwCopy_eq _ hS)) (Ev.bind hspots ?_)))
      refine Ev.succ ?_
      simp only [laws_FnView_j1]
      have hj2 : Ev (fun k => laws_FnView_j2 k b1 (viewV b1.2.2.2.1 b1.2.2.2.2 g sp T) (viewV b1.2.2.2.1 b1.2.2.2.2 g sp T) sp) true := by
        refine Ev.succ ?_
        simp only [laws_FnView_j2]
        refine Ev.bind (Ev.eq (lwCopy_eq _ hS)) (Ev.bind (implRows_ev _ _ _) ?_)
        have hlt : sp.Line < rowsM b1.1 b1.2.1 b1.2.2.2.2 := by
          unfold rowsM; rw [if_pos hv]; unfold leS at hup; omega
        exact Ev.ifp hlt (Ev.bind (gridSame_ev _ (by show g.length ≤ 4000000; omega) hpts) (Ev.pure _))
      refine Ev.bind (gridRight_ev hC hR g _ _ ⟨t1, t2⟩ ⟨hsp.2.2.1, hsp.2.2.2⟩ _ hg hF) (Ev.ifp rfl (Ev.bind (flat_ev hC hR g _ _ ⟨t1, t2⟩ ⟨hsp.2.2.1, hsp.2.2.2⟩ _ hg hF) (Ev.ifp rfl (Ev.ifp rfl (Ev.ifp rfl ?_)))))
      have ew : IntKind.i64.wrap (T + (sp.Line - T)) = sp.Line := by rw [wi (by omega) (by omega)]; omega
      have ew2 : IntKind.i64.wrap (b1.2.2.2.1 - 1) = b1.2.2.2.1 - 1 := wi (by omega) (by omega)
      refine Ev.ifp ew (Ev.ifp rfl ?_)
      by_cases hT : T > 0
      · refine Ev.ifp hT (Ev.ifp ?_ (Ev.ifn (show ¬ T < 0 by omega) hj2))
        rw [ew2]; exact t3 hT
      · exact Ev.ifn hT (Ev.ifn (show ¬ T < 0 by omega) hj2)
    · obtain ⟨c, hc, he1, he2⟩ := view_bad (R := b1.2.2.2.1) (C := b1.2.2.2.2) b1.1 b1.2.1 b1.2.2.1 hok
      refine Ev.bind he2 (Ev.bind (Ev.eq (lwCopy_eq _ hS)) (Ev.bind he1 ?_))
      refine Ev.succ ?_
      simp only [laws_FnView_j0]
      exact Ev.ifp trivial (Ev.ifn hc (Ev.pure _))
end Go.Proofs.Ytnhnipdanpcbeaa
