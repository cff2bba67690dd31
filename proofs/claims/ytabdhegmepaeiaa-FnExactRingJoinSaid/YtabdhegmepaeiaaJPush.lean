/- What is pushed into a ring: the program's and the reference's answer; a ring turned. -/
import Derived.Test.YtabdhegmepaeiaaJRight
namespace Go.Proofs.Ytabdhegmepaeiaa
open Go Eng
set_option linter.unusedVariables false
set_option linter.unusedSimpArgs false

def atOk (r : T_impl_Ring) : Bool := decide (0 ≤ r.At) && (decide (r.At < (r.Items.length : Int)) || (decide (r.At = 0) && decide ((r.Items.length : Int) = 0)))
def ringOk (r : T_impl_Ring) : Bool := decide ((r.Items.length : Int) ≤ 10) && (r.Items.all itemOk && atOk r)
theorem ringRight_ev (r : T_impl_Ring) : Ev (fun k => impl_RingRight k r) (ringOk r) := by
  unfold impl_RingRight ringOk
  by_cases h : (r.Items.length : Int) ≤ 10
  · simp only [if_pos h, decide_eq_true h, Bool.true_and]
    refine Ev.bind (areItems_ev r.Items (by omega)) ?_
    by_cases hb : r.Items.all itemOk = true
    · simp only [if_pos hb, impl_size_int64, impl_within, Option.bind_some]
      rw [hb, Bool.true_and, wi (by omega) (by omega)]
      refine Ev.eq ?_
      unfold atOk mx
      by_cases h0 : 0 ≤ r.At
      · simp only [if_pos h0, decide_eq_true h0, Bool.true_and, Option.bind_some, Option.some.injEq]
        rw [Bool.eq_iff_iff]
        simp only [decide_eq_true_eq, Bool.or_eq_true, Bool.and_eq_true]
        split <;> omega
      · simp only [if_neg h0, decide_eq_false h0, Bool.false_and, Option.bind_some]
    · have hb' : r.Items.all itemOk = false := by simpa using hb
      simp only [if_neg hb]
      rw [hb', Bool.false_and]
      exact Ev.pure _
  · simp only [if_neg h, decide_eq_false h, Bool.false_and]
    exact Ev.pure _
theorem specRight_ev (r : T_impl_Ring) (hl : r.Items.length ≤ 4000000000000000000) : Ev (fun k => spec_RingRight k r) (ringOk r) := by
  unfold spec_RingRight spec_l04Items ringOk
  by_cases h : (r.Items.length : Int) ≤ 10
  · simp only [if_neg (show ¬ (r.Items.length : Int) > 10 by omega), decide_eq_true h, Bool.true_and]
    refine Ev.bind (specItems_l0 r.Items.length 0 r.Items (by omega) (by omega)) ?_
    rw [List.drop_zero]
    by_cases hb : r.Items.all itemOk = true
    · simp only [if_pos hb]
      rw [hb, Bool.true_and]
      refine Ev.eq ?_
      unfold atOk
      generalize (r.Items.length : Int) = n
      by_cases h0 : 0 ≤ r.At
      · simp only [ge_iff_le, if_pos h0, decide_eq_true h0, Bool.true_and]
        by_cases h1 : r.At < n
        · simp only [if_pos h1, decide_eq_true h1, Bool.true_or]
        · by_cases h2 : r.At = 0
          · simp only [if_neg h1, if_pos h2, decide_eq_false h1, Bool.false_or, decide_eq_true h2, Bool.true_and]
            rfl
          · simp only [if_neg h1, if_neg h2, decide_eq_false h1, Bool.false_or, decide_eq_false h2, Bool.false_and]
      · simp only [ge_iff_le, if_neg h0, decide_eq_false h0, Bool.false_and]
    · have hb' : r.Items.all itemOk = false := by simpa using hb
      simp only [if_neg hb]
      rw [hb', Bool.false_and]
      exact Ev.pure _
  · simp only [if_pos (show (r.Items.length : Int) > 10 by omega), Option.bind_some, decide_eq_false h, Bool.false_and]
    exact Ev.pure _
def Fits (l : List (List Int)) : Prop := l.length ≤ 2000000 ∧ ∀ x ∈ l, x.length ≤ 2000000
theorem own_l0 : ∀ (m i : Nat) (a xs : List (List Int)), i + m = xs.length → Fits xs → a = xs.take i → Ev (fun k => impl_ownLists_l0 k a (i : Int) xs) xs
  | 0, i, a, xs, hi, hf, ha => by
    refine Ev.succ ?_
    simp only [impl_ownLists_l0, if_neg (show ¬ (i : Int) < (xs.length : Int) by omega)]
    rw [ha, List.take_of_length_le (by omega)]
    exact Ev.pure _
  | m + 1, i, a, xs, hi, hf, ha => by
    have hlt : i < xs.length := by omega
    have hx := hf.2 xs[i] (List.getElem_mem hlt)
    have hl := hf.1
    have hal : a.length = i := by rw [ha, List.length_take]; omega
    refine Ev.succ ?_
    simp only [impl_ownLists_l0, slices_Clone_int64_int64, if_pos (show (i : Int) < (xs.length : Int) by omega), if_pos (show (0 : Int) ≤ (i : Int) by omega)]
    rw [rdA_get [] xs i hlt]
    simp only [if_pos (show ([] : List Int).length + xs[i].length ≤ 17592186044416 by simp; omega), Option.bind_some, List.nil_append]
    simp only [if_pos (show a.length + [xs[i]].length ≤ 5864062014805 by simp; omega)]
    rw [wi (by omega) (by omega), show (i : Int) + 1 = ((i + 1 : Nat) : Int) by omega]
    exact own_l0 m (i + 1) _ xs (by omega) hf (by rw [ha, List.take_succ_eq_append_getElem hlt])
theorem own_ev (xs : List (List Int)) (h : Fits xs) : Ev (fun k => impl_ownLists k xs) xs := own_l0 xs.length 0 [] xs (by omega) h (by simp)
theorem copy_l0 : ∀ (m i : Nat) (a xs : List (List Int)), i + m = xs.length → Fits xs → a = xs.take i → Ev (fun k => spec_l04CopyAll_l0 k a (i : Int) xs) xs
  | 0, i, a, xs, hi, hf, ha => by
    refine Ev.succ ?_
    simp only [spec_l04CopyAll_l0, if_neg (show ¬ (i : Int) < (xs.length : Int) by omega)]
    rw [ha, List.take_of_length_le (by omega)]
    exact Ev.pure _
  | m + 1, i, a, xs, hi, hf, ha => by
    have hlt : i < xs.length := by omega
    have hx := hf.2 xs[i] (List.getElem_mem hlt)
    have hl := hf.1
    have hal : a.length = i := by rw [ha, List.length_take]; omega
    refine Ev.succ ?_
    simp only [spec_l04CopyAll_l0, spec_l01Copy, if_pos (show (i : Int) < (xs.length : Int) by omega), if_pos (show (0 : Int) ≤ (i : Int) by omega)]
    rw [rdA_get [] xs i hlt]
    simp only [if_pos (show ([] : List Int).length + xs[i].length ≤ 17592186044416 by simp; omega), Option.bind_some, List.nil_append]
    simp only [if_pos (show a.length + [xs[i]].length ≤ 5864062014805 by simp; omega)]
    rw [wi (by omega) (by omega), show (i : Int) + 1 = ((i + 1 : Nat) : Int) by omega]
    exact copy_l0 m (i + 1) _ xs (by omega) hf (by rw [ha, List.take_succ_eq_append_getElem hlt])
theorem copy_ev (xs : List (List Int)) (h : Fits xs) : Ev (fun k => spec_l04CopyAll k xs) xs := copy_l0 xs.length 0 [] xs (by omega) h (by simp)
end Go.Proofs.Ytabdhegmepaeiaa
