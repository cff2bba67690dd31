/- Right points, items and rings: what the program and the reference find. -/
import Derived.Test.YtabdhegmepaeiaaJ9
import Derived.Test.YtabdhegmepaeiaaEng15
namespace Go.Proofs.Ytabdhegmepaeiaa
open Go Eng
set_option linter.unusedVariables false
set_option linter.unusedSimpArgs false

def ptOk (p : Int) : Bool := decide (0 ≤ p) && decide (p ≤ 1114111) && !(decide (55296 ≤ p) && decide (p ≤ 57343))
def ptsOk (l : List Int) : Bool := decide ((l.length : Int) ≤ 300) && l.all ptOk
def itemOk (l : List Int) : Bool := decide ((l.length : Int) > 0) && ptsOk l
theorem isPoint_eq (p : Int) : impl_isPoint p = some (ptOk p) := by
  unfold impl_isPoint impl_within ptOk
  by_cases h1 : 0 ≤ p <;> by_cases h2 : p ≤ 1114111 <;> by_cases h3 : 55296 ≤ p <;> by_cases h4 : p ≤ 57343 <;> simp [h1, h2, h3, h4]
theorem point_eq (p : Int) : spec_l01Point p = some (ptOk p) := by
  unfold spec_l01Point ptOk
  by_cases h1 : 0 ≤ p <;> by_cases h2 : p ≤ 1114111 <;> by_cases h3 : 55296 ≤ p <;> by_cases h4 : p ≤ 57343 <;> simp [h1, h2, h3, h4]
theorem index84 : ∀ (m i : Nat) (xs : List Int), i + m = xs.length → xs.length ≤ 4000000000000000000 →
    ∃ r, Ev (fun k => slices_IndexFunc_int64_int64_at_62_l0 k (i : Int) xs) r ∧ decide (r ≥ 0) = !((xs.drop i).all ptOk)
  | 0, i, xs, hi, h => by
    refine Ev.succ_ex ?_
    simp only [slices_IndexFunc_int64_int64_at_62_l0]
    refine Ev.ite_ex (fun hl => absurd hl (by omega)) fun _ => Ev.pure_ex ?_
    rw [List.drop_eq_nil_of_le (by omega)]
    rfl
  | m + 1, i, xs, hi, h => by
    have hlt : i < xs.length := by omega
    refine Ev.succ_ex ?_
    simp only [slices_IndexFunc_int64_int64_at_62_l0, impl_PointsRight_1, isPoint_eq, Option.bind_some]
    refine Ev.ite_ex (fun hl => ?_) fun hn => absurd (show (i : Int) < (xs.length : Int) by omega) hn
    refine Ev.ite_ex (fun _ => ?_) fun hn => absurd (show (0 : Int) ≤ (i : Int) by omega) hn
    rw [rdA_get 0 xs i hlt, drop_cons hlt, List.all_cons]
    refine Ev.ite_ex (fun hb => Ev.pure_ex ?_) fun hb => ?_
    · have : ptOk xs[i] = false := by simpa using hb
      rw [this]
      simp
    · have : ptOk xs[i] = true := by simpa using hb
      rw [this, Bool.true_and, wi (by omega) (by omega), show (i : Int) + 1 = ((i + 1 : Nat) : Int) by omega]
      exact index84 m (i + 1) xs (by omega) h
theorem pointsRight_ev (xs : List Int) : Ev (fun k => impl_PointsRight k xs) (ptsOk xs) := by
  unfold impl_PointsRight slices_ContainsFunc_int64_int64_at_62 slices_IndexFunc_int64_int64_at_62 ptsOk
  by_cases h : (xs.length : Int) ≤ 300
  · obtain ⟨r, e, hr⟩ := index84 xs.length 0 xs (by omega) (by omega)
    simp only [if_pos h, decide_eq_true h, Bool.true_and]
    refine Ev.bind (Ev.bind e (Ev.pure _)) ?_
    rw [hr]
    simp only [List.drop_zero, Bool.not_not]
    exact Ev.pure _
  · simp only [if_neg h, decide_eq_false h, Bool.false_and]
    exact Ev.pure _
theorem specPoints_l0 : ∀ (m i : Nat) (xs : List Int), i + m = xs.length → xs.length ≤ 4000000000000000000 → Ev (fun k => spec_PointsRight_l0 k (i : Int) xs) ((xs.drop i).all ptOk)
  | 0, i, xs, hi, h => by
    refine Ev.succ ?_
    simp only [spec_PointsRight_l0, if_neg (show ¬ (i : Int) < (xs.length : Int) by omega)]
    rw [List.drop_eq_nil_of_le (by omega)]
    exact Ev.pure _
  | m + 1, i, xs, hi, h => by
    have hlt : i < xs.length := by omega
    refine Ev.succ ?_
    simp only [spec_PointsRight_l0, point_eq, Option.bind_some, if_pos (show (i : Int) < (xs.length : Int) by omega), if_pos (show (0 : Int) ≤ (i : Int) by omega)]
    rw [rdA_get 0 xs i hlt, drop_cons hlt, List.all_cons]
    by_cases hb : ptOk xs[i] = true
    · simp only [if_pos hb]
      rw [hb, Bool.true_and, wi (by omega) (by omega), show (i : Int) + 1 = ((i + 1 : Nat) : Int) by omega]
      exact specPoints_l0 m (i + 1) xs (by omega) h
    · have hb' : ptOk xs[i] = false := by simpa using hb
      simp only [if_neg hb]
      rw [hb', Bool.false_and]
      exact Ev.pure _
theorem specPoints_ev (xs : List Int) : Ev (fun k => spec_PointsRight k xs) (ptsOk xs) := by
  unfold spec_PointsRight ptsOk
  by_cases h : (xs.length : Int) ≤ 300
  · simp only [if_neg (show ¬ (xs.length : Int) > 300 by omega), decide_eq_true h, Bool.true_and]
    exact specPoints_l0 xs.length 0 xs (by omega) (by omega)
  · simp only [if_pos (show (xs.length : Int) > 300 by omega), decide_eq_false h, Bool.false_and]
    exact Ev.pure _
theorem isItem_ev (xs : List Int) : Ev (fun k => impl_isItem k xs) (itemOk xs) := by
  unfold impl_isItem itemOk
  by_cases h : (xs.length : Int) > 0
  · simp only [if_pos h, decide_eq_true h, Bool.true_and]
    exact Ev.bind (pointsRight_ev xs) (Ev.pure _)
  · simp only [if_neg h, decide_eq_false h, Bool.false_and]
    exact Ev.pure _
theorem index81 : ∀ (m i : Nat) (xs : List (List Int)), i + m = xs.length → xs.length ≤ 4000000000000000000 →
    ∃ r, Ev (fun k => slices_IndexFunc_int64_int64_at_59_l0 k (i : Int) xs) r ∧ decide (r ≥ 0) = !((xs.drop i).all itemOk)
  | 0, i, xs, hi, h => by
    refine Ev.succ_ex ?_
    simp only [slices_IndexFunc_int64_int64_at_59_l0]
    refine Ev.ite_ex (fun hl => absurd hl (by omega)) fun _ => Ev.pure_ex ?_
    rw [List.drop_eq_nil_of_le (by omega)]
    rfl
  | m + 1, i, xs, hi, h => by
    have hlt : i < xs.length := by omega
    refine Ev.succ_ex ?_
    simp only [slices_IndexFunc_int64_int64_at_59_l0]
    refine Ev.ite_ex (fun hl => ?_) fun hn => absurd (show (i : Int) < (xs.length : Int) by omega) hn
    refine Ev.ite_ex (fun _ => ?_) fun hn => absurd (show (0 : Int) ≤ (i : Int) by omega) hn
    rw [rdA_get [] xs i hlt, drop_cons hlt, List.all_cons]
    refine Ev.bind_ex (R := fun b => b = !itemOk xs[i]) ⟨_, Ev.bind (isItem_ev xs[i]) (Ev.pure _), rfl⟩ ?_
    rintro b rfl
    refine Ev.ite_ex (fun hb => Ev.pure_ex ?_) fun hb => ?_
    · have : itemOk xs[i] = false := by simpa using hb
      rw [this]
      simp
    · have : itemOk xs[i] = true := by simpa using hb
      rw [this, Bool.true_and, wi (by omega) (by omega), show (i : Int) + 1 = ((i + 1 : Nat) : Int) by omega]
      exact index81 m (i + 1) xs (by omega) h
theorem areItems_ev (xs : List (List Int)) (h : xs.length ≤ 4000000000000000000) : Ev (fun k => impl_areItems k xs) (xs.all itemOk) := by
  unfold impl_areItems slices_ContainsFunc_int64_int64_at_59 slices_IndexFunc_int64_int64_at_59
  obtain ⟨r, e, hr⟩ := index81 xs.length 0 xs (by omega) h
  refine Ev.bind (Ev.bind e (Ev.pure _)) ?_
  rw [hr]
  simp only [List.drop_zero, Bool.not_not]
  exact Ev.pure _
theorem specItems_l0 : ∀ (m i : Nat) (xs : List (List Int)), i + m = xs.length → xs.length ≤ 4000000000000000000 → Ev (fun k => spec_l04Items_l0 k (i : Int) xs) ((xs.drop i).all itemOk)
  | 0, i, xs, hi, h => by
    refine Ev.succ ?_
    simp only [spec_l04Items_l0, if_neg (show ¬ (i : Int) < (xs.length : Int) by omega)]
    rw [List.drop_eq_nil_of_le (by omega)]
    exact Ev.pure _
  | m + 1, i, xs, hi, h => by
    have hlt : i < xs.length := by omega
    refine Ev.succ ?_
    simp only [spec_l04Items_l0, if_pos (show (i : Int) < (xs.length : Int) by omega), if_pos (show (0 : Int) ≤ (i : Int) by omega)]
    rw [rdA_get [] xs i hlt, drop_cons hlt, List.all_cons]
    by_cases h0 : (xs[i].length : Int) = 0
    · simp only [if_pos h0]
      have : itemOk xs[i] = false := by simp [itemOk]; omega
      rw [this, Bool.false_and]
      exact Ev.pure _
    · simp only [if_neg h0]
      have hi' : itemOk xs[i] = ptsOk xs[i] := by simp [itemOk]; omega
      rw [hi']
      refine Ev.bind (specPoints_ev xs[i]) ?_
      by_cases hb : ptsOk xs[i] = true
      · simp only [if_pos hb]
        rw [hb, Bool.true_and, wi (by omega) (by omega), show (i : Int) + 1 = ((i + 1 : Nat) : Int) by omega]
        exact specItems_l0 m (i + 1) xs (by omega) h
      · have hb' : ptsOk xs[i] = false := by simpa using hb
        simp only [if_neg hb]
        rw [hb', Bool.false_and]
        exact Ev.pure _
end Go.Proofs.Ytabdhegmepaeiaa
