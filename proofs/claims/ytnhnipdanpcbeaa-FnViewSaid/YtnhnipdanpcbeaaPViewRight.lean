/- What may be viewed: the program's and the reference's answer. -/
import Derived.Test.YtnhnipdanpcbeaaPWidth
namespace Go.Proofs.Ytnhnipdanpcbeaa
open Go Eng
set_option linter.unusedVariables false
set_option linter.unusedSimpArgs false

def ptsOk (l : List Int) : Bool := decide ((l.length : Int) ≤ 300) && l.all ptOk
theorem index63 : ∀ (m i : Nat) (xs : List Int), i + m = xs.length → xs.length ≤ 4000000000000000000 →
    ∃ r, Ev (fun k => slices_IndexFunc_int64_int64_at_63_l0 k (i : Int) xs) r ∧ decide (r ≥ 0) = !((xs.drop i).all ptOk)
  | 0, i, xs, hi, h => by
    refine Ev.succ_ex ?_
    simp only [slices_IndexFunc_int64_int64_at_63_l0]
    refine Ev.ite_ex (fun hl => absurd hl (by omega)) fun _ => Ev.pure_ex ?_
    rw [List.drop_eq_nil_of_le (by omega)]
    rfl
  | m + 1, i, xs, hi, h => by
    have hlt : i < xs.length := by omega
    refine Ev.succ_ex ?_
    simp only [slices_IndexFunc_int64_int64_at_63_l0, impl_PointsRight_1, isPoint_eq, Option.bind_some]
    refine Ev.ite_ex (fun hl => ?_) fun hn => absurd (show (i : Int) < (xs.length : Int) by omega) hn
    refine Ev.ite_ex (fun _ => ?_) fun hn => absurd (show (0 : Int) ≤ (i : Int) by omega) hn
    rw [rdA_get 0 xs i hlt, drop_cons hlt, List.all_cons]
    refine Ev.ite_ex (fun hb => Ev.pure_ex ?_) fun hb => ?_
    · have : ptOk xs[i] = false := by simpa using hb
      rw [this]
      simp
    · have : ptOk xs[i] = true := by simpa using hb
      rw [this, Bool.true_and, wi (by omega) (by omega), show (i : Int) + 1 = ((i + 1 : Nat) : Int) by omega]
      exact index63 m (i + 1) xs (by omega) h
theorem pointsRight_ev (xs : List Int) : Ev (fun k => impl_PointsRight k xs) (ptsOk xs) := by
  unfold impl_PointsRight slices_ContainsFunc_int64_int64_at_63 slices_IndexFunc_int64_int64_at_63 ptsOk
  by_cases h : (xs.length : Int) ≤ 300
  · obtain ⟨r, e, hr⟩ := index63 xs.length 0 xs (by omega) (by omega)
    simp only [if_pos h, decide_eq_true h, Bool.true_and]
    refine Ev.bind (Ev.bind e (Ev.pure _)) ?_
    rw [hr]
    simp only [List.drop_zero, Bool.not_not]
    exact Ev.pure _
  · simp only [if_neg h, decide_eq_false h, Bool.false_and]
    exact Ev.pure _
theorem specPoints_l0 : ∀ (m i : Nat) (xs : List Int), i + m = xs.length → xs.length ≤ 4000000000000000000 → Ev (fun k => spec_PointsRight_l0 k (i : Int) xs) ((xs.drop i).all ptOk)
  | 0, i, xs, hi, h => by
    refine Ev.succ ?_
    simp only [spec_PointsRight_l0, if_neg (show ¬ (i : Int) < (xs.length : Int) by omega)]
    rw [List.drop_eq_nil_of_le (by omega)]
    exact Ev.pure _
  | m + 1, i, xs, hi, h => by
    have hlt : i < xs.length := by omega
    refine Ev.succ ?_
    simp only [spec_PointsRight_l0, point_eq, Option.bind_some, if_pos (show (i : Int) < (xs.length : Int) by omega), if_pos (show (0 : Int) ≤ (i : Int) by omega)]
    rw [rdA_get 0 xs i hlt, drop_cons hlt, List.all_cons]
    by_cases hb : ptOk xs[i] = true
    · simp only [if_pos hb]
      rw [hb, Bool.true_and, wi (by omega) (by omega), show (i : Int) + 1 = ((i + 1 : Nat) : Int) by omega]
      exact specPoints_l0 m (i + 1) xs (by omega) h
    · have hb' : ptOk xs[i] = false := by simpa using hb
      simp only [if_neg hb]
      rw [hb', Bool.false_and]
      exact Ev.pure _
theorem specPoints_ev (xs : List Int) : Ev (fun k => spec_PointsRight k xs) (ptsOk xs) := by
  unfold spec_PointsRight ptsOk
  by_cases h : (xs.length : Int) ≤ 300
  · simp only [if_neg (show ¬ (xs.length : Int) > 300 by omega), decide_eq_true h, Bool.true_and]
    exact specPoints_l0 xs.length 0 xs (by omega) (by omega)
  · simp only [if_pos (show (xs.length : Int) > 300 by omega), decide_eq_false h, Bool.false_and]
    exact Ev.pure _
def placeOk (l : List Int) (i : Int) : Bool := decide (0 ≤ i ∧ i ≤ (l.length : Int))
def bufOk (b : T_impl_Buf) : Bool := ptsOk b.Points && (placeOk b.Points b.Cursor && placeOk b.Points b.Mark)
def colsOk (c : Int) : Bool := decide (2 ≤ c ∧ c ≤ 80)
def viewedOk (p : List Int) (b : T_impl_Buf) (c : Int) : Bool := ptsOk p && (bufOk b && colsOk c)
theorem bufRight_ev (b : T_impl_Buf) : Ev (fun k => impl_BufRight k b) (bufOk b) := by
  unfold impl_BufRight bufOk
  refine Ev.bind (pointsRight_ev b.Points) ?_
  cases h : ptsOk b.Points
  · exact Ev.ifn (by decide) (Ev.pure _)
  · refine Ev.ifp rfl ?_
    simp only [impl_Buf_isPlace, impl_size_int64, within_eq, Option.bind_some, Bool.true_and]
    unfold placeOk
    by_cases h1 : 0 ≤ b.Cursor ∧ b.Cursor ≤ (b.Points.length : Int)
    · rw [decide_eq_true h1]; exact Ev.ifp rfl (Ev.pure _)
    · rw [decide_eq_false h1]; exact Ev.ifn (by decide) (Ev.pure _)
theorem specBuf_ev (b : T_impl_Buf) : Ev (fun k => spec_BufRight k b) (bufOk b) := by
  unfold spec_BufRight bufOk
  refine Ev.bind (specPoints_ev b.Points) ?_
  cases h : ptsOk b.Points
  · exact Ev.ifn (by decide) (Ev.pure _)
  · refine Ev.ifp rfl ?_
    refine Ev.eq ?_
    unfold placeOk
    simp only [Bool.true_and]
    refine itS (fun h1 => itS (fun h2 => itS (fun h3 => ?_) (fun h3 => ?_)) (fun h2 => ?_)) (fun h1 => ?_)
    · rw [decide_eq_true (show 0 ≤ b.Cursor ∧ b.Cursor ≤ (b.Points.length : Int) from ⟨h1, h2⟩)]
      simp [h3]
    · simp; omega
    · simp; omega
    · simp; omega
theorem viewed_ev (p : List Int) (b : T_impl_Buf) (c : Int) : Ev (fun k => impl_isViewed k p b c) (viewedOk p b c) := by
  unfold impl_isViewed viewedOk
  refine Ev.bind (pointsRight_ev p) ?_
  cases h : ptsOk p
  · exact Ev.ifn (by decide) (Ev.pure _)
  · refine Ev.ifp rfl (Ev.bind (bufRight_ev b) ?_)
    cases h2 : bufOk b
    · exact Ev.ifn (by decide) (Ev.pure _)
    · refine Ev.ifp rfl ?_
      unfold impl_isCols
      rw [within_eq]
      exact Ev.pure _
theorem size1_eq (c : Int) : spec_l08Size 1 c = some (colsOk c) := by
  unfold spec_l08Size colsOk
  rw [if_pos (by decide), if_pos (by decide)]
  refine itS (fun h => ?_) (fun h => ?_)
  · simp; omega
  · simp; omega
theorem ptsOk_len {l : List Int} (h : ptsOk l = true) : l.length ≤ 300 := by
  unfold ptsOk at h
  simp only [Bool.and_eq_true, decide_eq_true_eq] at h
  omega
end Go.Proofs.Ytnhnipdanpcbeaa
