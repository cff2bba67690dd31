/- The two pushes are one; a ring turned as often as it has items. -/
import Derived.Test.YtabdhegmepaeiaaJPush
namespace Go.Proofs.Ytabdhegmepaeiaa
open Go Eng
set_option linter.unusedVariables false
set_option linter.unusedSimpArgs false

def pushM (r : T_impl_Ring) (p : List Int) : T_impl_Ring := if (p.length : Int) > 400 then ⟨[], 0⟩ else if ringOk r && itemOk p then ⟨(p :: r.Items).take 10, 0⟩ else r
theorem ringOk_len {r : T_impl_Ring} (h : ringOk r = true) : r.Items.length ≤ 10 := by
  unfold ringOk at h
  simp only [Bool.and_eq_true, decide_eq_true_eq] at h
  omega
theorem push_ev (r : T_impl_Ring) (p : List Int) (hf : Fits r.Items) (hp : p.length ≤ 2000000) : Ev (fun k => impl_push k r p) ⟨(p :: r.Items).take 10, 0⟩ := by
  have hl := hf.1
  unfold impl_push
  refine Ev.bind (own_ev r.Items hf) ?_
  simp only [slices_Clone_int64_int64, slices_Insert_int64_int64', if_pos (show ([] : List Int).length + p.length ≤ 17592186044416 by simp; omega), Option.bind_some, List.nil_append]
  simp only [if_pos (show r.Items.length + [p].length ≤ 5864062014805 by simp; omega), if_pos (show (0 : Int) ≤ 0 by decide), if_pos (show (0 : Int) ≤ (r.Items.length : Int) by omega), Option.bind_some, Int.toNat_zero, List.take_zero, List.drop_zero, List.nil_append, List.singleton_append]
  have e : (mn ((p :: r.Items).length : Int) 10) = ((min (p :: r.Items).length 10 : Nat) : Int) := by unfold mn; split <;> omega
  rw [e]
  simp only [if_pos (show (0 : Int) ≤ ((min (p :: r.Items).length 10 : Nat) : Int) by omega), if_pos (show ((min (p :: r.Items).length 10 : Nat) : Int) ≤ ((p :: r.Items).length : Int) by omega), Int.toNat_natCast]
  have : (p :: r.Items).take (min (p :: r.Items).length 10) = (p :: r.Items).take 10 := by
    rw [Nat.min_comm, ← List.take_take, List.take_length]
  rw [this]
  exact Ev.pure _
theorem ownRing_ev (r : T_impl_Ring) (hf : Fits r.Items) : Ev (fun k => impl_ownRing k r) r := Ev.bind (own_ev r.Items hf) (Ev.pure _)
theorem copyRing_ev (r : T_impl_Ring) (hf : Fits r.Items) : Ev (fun k => spec_l04Copy k r) r := Ev.bind (copy_ev r.Items hf) (Ev.pure _)
theorem specPush_ev (r : T_impl_Ring) (p : List Int) (hf : Fits r.Items) (hp : p.length ≤ 2000000) : Ev (fun k => spec_RingPush k r p) (pushM r p) := by
  have hl := hf.1
  unfold spec_RingPush pushM
  by_cases h : (p.length : Int) > 400
  · simp only [if_pos h]; exact Ev.pure _
  · simp only [if_neg h]
    refine Ev.bind (specRight_ev r (by omega)) ?_
    have hcopy : Ev (fun k => spec_RingPush_j2 k true r p) r := by
      refine Ev.succ ?_
      simp only [spec_RingPush_j2, if_true]
      exact Ev.bind (copyRing_ev r hf) (Ev.pure _)
    by_cases hr : ringOk r = true
    · simp only [if_pos hr]
      refine Ev.bind (specPoints_ev p) ?_
      rw [hr, Bool.true_and]
      by_cases hi : ptsOk p = true
      · simp only [if_pos hi]
        unfold itemOk
        rw [hi, Bool.and_true]
        by_cases h0 : (p.length : Int) = 0
        · rw [beq_iff_eq.2 h0, decide_eq_false (show ¬ (p.length : Int) > 0 by omega)]
          simp only [Bool.false_eq_true, if_false]
          exact hcopy
        · rw [beq_eq_false_iff_ne.2 h0, decide_eq_true (show (p.length : Int) > 0 by omega)]
          simp only [if_true]
          refine Ev.succ ?_
          simp only [spec_RingPush_j2, Bool.false_eq_true, if_false]
          refine Ev.succ ?_
          simp only [spec_RingPush_j0, spec_l01Copy, if_pos (show ([] : List Int).length + p.length ≤ 17592186044416 by simp; omega), Option.bind_some, List.nil_append]
          refine Ev.bind (copy_ev r.Items hf) ?_
          simp only [if_pos (show [p].length + r.Items.length ≤ 5864062014805 by simp; omega), List.singleton_append]
          by_cases h10 : ((p :: r.Items).length : Int) > 10
          · simp only [if_pos h10, if_pos (show (10 : Int) ≤ ((p :: r.Items).length : Int) by omega)]
            exact Ev.pure _
          · simp only [if_neg h10]
            rw [List.take_of_length_le (by omega)]
            exact Ev.pure _
      · have hi' : ptsOk p = false := by simpa using hi
        simp only [if_neg hi]
        have : itemOk p = false := by unfold itemOk; rw [hi', Bool.and_false]
        rw [this]
        simp only [Bool.false_eq_true, if_false]
        exact hcopy
    · have hr' : ringOk r = false := by simpa using hr
      simp only [if_neg hr]
      rw [hr', Bool.false_and]
      simp only [Bool.false_eq_true, if_false]
      exact hcopy
end Go.Proofs.Ytabdhegmepaeiaa
