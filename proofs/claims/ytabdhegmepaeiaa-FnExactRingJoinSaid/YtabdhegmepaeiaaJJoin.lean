/- The two joins are one. -/
import Derived.Test.YtabdhegmepaeiaaJMarks
namespace Go.Proofs.Ytabdhegmepaeiaa
open Go Eng
set_option linter.unusedVariables false
set_option linter.unusedSimpArgs false

theorem grow_eq (n : Int) (h0 : 0 ≤ n) (h1 : n ≤ 8000000) : slices_Grow_int64_int64 n = some [] := by
  unfold slices_Grow_int64_int64
  have e0 : ((([] : List Int).length : Nat) : Int) = 0 := rfl
  simp only [e0]
  rw [if_neg (by omega), wi (x := (0 : Int) - 0) (by omega) (by omega), wi (x := n - (0 - 0)) (by omega) (by omega)]
  by_cases h : n - (0 - 0) > 0
  · rw [if_pos h, if_pos (by omega), if_pos (by omega), if_pos (by omega)]; rfl
  · rw [if_neg h]
theorem concat_ev (a b : List Int) (ha : a.length ≤ 2000000) (hb : b.length ≤ 2000000) : Ev (fun k => slices_Concat_int64_int64 k [a, b]) (a ++ b) := by
  unfold slices_Concat_int64_int64
  have e2 : (([a, b].length : Nat) : Int) = 2 := rfl
  have r0 : rdA [] [a, b] 0 = a := rfl
  have r1 : rdA [] [a, b] 1 = b := rfl
  have w1 : IntKind.i64.wrap (0 + 1) = 1 := by decide
  have w2 : IntKind.i64.wrap (1 + 1) = 2 := by decide
  refine Ev.succ ?_
  simp only [slices_Concat_int64_int64_l1, e2, if_pos (show (0 : Int) < 2 by decide), if_pos (show (0 : Int) ≤ 0 by decide), r0, w1]
  rw [wi (x := 0 + (a.length : Int)) (by omega) (by omega)]
  simp only [if_neg (show ¬ 0 + (a.length : Int) < 0 by omega)]
  refine Ev.succ ?_
  simp only [slices_Concat_int64_int64_l1, e2, if_pos (show (1 : Int) < 2 by decide), if_pos (show (0 : Int) ≤ 1 by decide), r1, w2]
  rw [wi (x := 0 + (a.length : Int) + (b.length : Int)) (by omega) (by omega)]
  simp only [if_neg (show ¬ 0 + (a.length : Int) + (b.length : Int) < 0 by omega)]
  refine Ev.succ ?_
  simp only [slices_Concat_int64_int64_l1, e2, if_neg (show ¬ (2 : Int) < 2 by decide)]
  refine Ev.succ ?_
  simp only [slices_Concat_int64_int64_j0, grow_eq _ (show 0 ≤ 0 + (a.length : Int) + (b.length : Int) by omega) (by omega), Option.bind_some]
  refine Ev.succ ?_
  simp only [slices_Concat_int64_int64_l0, e2, if_pos (show (0 : Int) < 2 by decide), if_pos (show (0 : Int) ≤ 0 by decide), r0, w1, if_pos (show ([] : List Int).length + a.length ≤ 17592186044416 by simp; omega), List.nil_append]
  refine Ev.succ ?_
  simp only [slices_Concat_int64_int64_l0, e2, if_pos (show (1 : Int) < 2 by decide), if_pos (show (0 : Int) ≤ 1 by decide), r1, w2, if_pos (show a.length + b.length ≤ 17592186044416 by omega)]
  refine Ev.succ ?_
  simp only [slices_Concat_int64_int64_l0, e2, if_neg (show ¬ (2 : Int) < 2 by decide)]
  exact Ev.pure _
def joinI (r : T_impl_Ring) (p : List Int) (ahead : Bool) : T_impl_Ring :=
  if (r.Items.length : Int) = 0 then ⟨(p :: r.Items).take 10, 0⟩
  else if ((rdA [] r.Items 0).length : Int) + (p.length : Int) > 300 then ⟨(p :: r.Items).take 10, 0⟩
  else ⟨r.Items.set 0 (if ahead = true then p ++ rdA [] r.Items 0 else rdA [] r.Items 0 ++ p), 0⟩
def joinM (r : T_impl_Ring) (p : List Int) (ahead : Bool) : T_impl_Ring := if (p.length : Int) > 400 then ⟨[], 0⟩ else if ringOk r && itemOk p then joinI r p ahead else r
theorem rd0 {l : List (List Int)} (hf : Fits l) (h : (0 : Int) < (l.length : Int)) : (rdA [] l 0).length ≤ 2000000 := by
  have h2 : 0 < l.length := by omega
  have e : rdA [] l 0 = l[0] := rdA_get [] l 0 h2
  rw [e]; exact hf.2 _ (List.getElem_mem h2)
theorem implJoin0 (r : T_impl_Ring) (p : List Int) (ahead : Bool) (hf : Fits r.Items) (hp : p.length ≤ 2000000) (h : (0 : Int) < (r.Items.length : Int)) : Ev (fun k => impl_RingJoin_j0 k r p ahead) ⟨r.Items.set 0 (if ahead = true then p ++ rdA [] r.Items 0 else rdA [] r.Items 0 ++ p), 0⟩ := by
  have h0 := rd0 hf h
  refine Ev.succ ?_
  simp only [impl_RingJoin_j0]
  refine Ev.bind (ownRing_ev r hf) ?_
  by_cases ha : ahead = true
  · simp only [if_pos ha, if_pos h]
    refine Ev.bind (concat_ev p _ hp h0) ?_
    exact Ev.pure _
  · simp only [if_neg ha, if_pos h]
    refine Ev.bind (concat_ev _ p h0 hp) ?_
    exact Ev.pure _
theorem implJoin_ev (r : T_impl_Ring) (p : List Int) (ahead : Bool) (hf : Fits r.Items) (hp : p.length ≤ 2000000) : Ev (fun k => impl_RingJoin k r p ahead) (joinM r p ahead) := by
  unfold impl_RingJoin impl_isMany joinM
  simp only [Option.bind_some]
  by_cases h : (p.length : Int) > 400
  · simp only [decide_eq_true h, if_true, if_pos h]; exact Ev.pure _
  · simp only [decide_eq_false h, Bool.false_eq_true, if_false, if_neg h]
    refine Ev.bind (ringRight_ev r) ?_
    by_cases hr : ringOk r = true
    · simp only [if_pos hr]
      refine Ev.bind (isItem_ev p) ?_
      rw [hr, Bool.true_and]
      refine Ev.succ ?_
      simp only [impl_RingJoin_j1]
      by_cases hi : itemOk p = true
      · simp only [hi, Bool.not_true, Bool.false_eq_true, if_false, if_true]
        unfold joinI
        have hpush : Ev (fun k => impl_RingJoin_j2 k true r p ahead) ⟨(p :: r.Items).take 10, 0⟩ := by
          refine Ev.succ ?_
          simp only [impl_RingJoin_j2, if_true]
          exact Ev.bind (push_ev r p hf hp) (Ev.pure _)
        by_cases h0 : (r.Items.length : Int) = 0
        · simp only [if_pos h0]; exact hpush
        · have h1 : (0 : Int) < (r.Items.length : Int) := by omega
          have h2 := rd0 hf h1
          simp only [if_neg h0, if_pos h1]
          rw [wi (by omega) (by omega)]
          by_cases h3 : ((rdA [] r.Items 0).length : Int) + (p.length : Int) > 300
          · simp only [if_pos h3, decide_eq_true h3]; exact hpush
          · simp only [if_neg h3, decide_eq_false h3]
            refine Ev.succ ?_
            simp only [impl_RingJoin_j2, Bool.false_eq_true, if_false]
            exact implJoin0 r p ahead hf hp h1
      · have hi' : itemOk p = false := by simpa using hi
        simp only [hi', Bool.not_false, if_true, Bool.false_eq_true, if_false]
        exact Ev.bind (ownRing_ev r hf) (Ev.pure _)
    · have hr' : ringOk r = false := by simpa using hr
      simp only [if_neg hr]
      rw [hr', Bool.false_and]
      refine Ev.succ ?_
      simp only [impl_RingJoin_j1, if_true, Bool.false_eq_true, if_false]
      exact Ev.bind (ownRing_ev r hf) (Ev.pure _)
theorem specJoin1 (r : T_impl_Ring) (p : List Int) (ahead : Bool) (hf : Fits r.Items) (hp : p.length ≤ 2000000) (h : (0 : Int) < (r.Items.length : Int)) : Ev (fun k => spec_RingJoin_j1 k r p ahead) ⟨r.Items.set 0 (if ahead = true then p ++ rdA [] r.Items 0 else rdA [] r.Items 0 ++ p), 0⟩ := by
  have h0 := rd0 hf h
  refine Ev.succ ?_
  simp only [spec_RingJoin_j1]
  refine Ev.bind (copyRing_ev r hf) ?_
  by_cases ha : ahead = true
  · simp only [if_pos ha, if_pos h, spec_l01Copy, if_pos (show ([] : List Int).length + p.length ≤ 17592186044416 by simp; omega), Option.bind_some, List.nil_append, if_pos (show p.length + (rdA [] r.Items 0).length ≤ 17592186044416 by omega)]
    exact Ev.pure _
  · simp only [if_neg ha, if_pos h, spec_l01Copy, if_pos (show ([] : List Int).length + (rdA [] r.Items 0).length ≤ 17592186044416 by simp; omega), Option.bind_some, List.nil_append, if_pos (show (rdA [] r.Items 0).length + p.length ≤ 17592186044416 by omega)]
    exact Ev.pure _
theorem specJoin_ev (r : T_impl_Ring) (p : List Int) (ahead : Bool) (hf : Fits r.Items) (hp : p.length ≤ 2000000) : Ev (fun k => spec_RingJoin k r p ahead) (joinM r p ahead) := by
  have hl := hf.1
  unfold spec_RingJoin joinM
  by_cases h : (p.length : Int) > 400
  · simp only [if_pos h]; exact Ev.pure _
  · simp only [if_neg h]
    refine Ev.bind (specRight_ev r (by omega)) ?_
    have hcopy : Ev (fun k => spec_RingJoin_j3 k true r p ahead) r := by
      refine Ev.succ ?_
      simp only [spec_RingJoin_j3, if_true]
      exact Ev.bind (copyRing_ev r hf) (Ev.pure _)
    by_cases hr : ringOk r = true
    · simp only [if_pos hr]
      refine Ev.bind (specPoints_ev p) ?_
      rw [hr, Bool.true_and]
      by_cases hi : ptsOk p = true
      · simp only [if_pos hi]
        by_cases h0 : (p.length : Int) = 0
        · have : itemOk p = false := by unfold itemOk; rw [decide_eq_false (show ¬ (p.length : Int) > 0 by omega)]; rfl
          rw [beq_iff_eq.2 h0, this]
          simp only [Bool.false_eq_true, if_false]
          exact hcopy
        · have ht : itemOk p = true := by unfold itemOk; rw [decide_eq_true (show (p.length : Int) > 0 by omega), hi]; rfl
          rw [beq_eq_false_iff_ne.2 h0, ht]
          simp only [if_true]
          have hpm : pushM r p = ⟨(p :: r.Items).take 10, 0⟩ := by unfold pushM; rw [if_neg h, hr, ht]; rfl
          have hpush : Ev (fun k => spec_RingJoin_j2 k true r p ahead) ⟨(p :: r.Items).take 10, 0⟩ := by
            refine Ev.succ ?_
            simp only [spec_RingJoin_j2, if_true]
            refine Ev.bind (specPush_ev r p hf hp) ?_
            rw [hpm]; exact Ev.pure _
          refine Ev.succ ?_
          simp only [spec_RingJoin_j3, Bool.false_eq_true, if_false]
          refine Ev.succ ?_
          simp only [spec_RingJoin_j0]
          unfold joinI
          by_cases h1 : (r.Items.length : Int) = 0
          · simp only [if_pos h1]; exact hpush
          · have h2 : (0 : Int) < (r.Items.length : Int) := by omega
            have h4 := rd0 hf h2
            simp only [if_neg h1, if_pos h2]
            rw [wi (by omega) (by omega)]
            by_cases h3 : ((rdA [] r.Items 0).length : Int) + (p.length : Int) > 300
            · simp only [if_pos h3, decide_eq_true h3]; exact hpush
            · simp only [if_neg h3, decide_eq_false h3]
              refine Ev.succ ?_
              simp only [spec_RingJoin_j2, Bool.false_eq_true, if_false]
              exact specJoin1 r p ahead hf hp h2
      · have hi' : ptsOk p = false := by simpa using hi
        simp only [if_neg hi]
        have : itemOk p = false := by unfold itemOk; rw [hi', Bool.and_false]
        rw [this]
        simp only [Bool.false_eq_true, if_false]
        exact hcopy
    · have hr' : ringOk r = false := by simpa using hr
      simp only [if_neg hr]
      rw [hr', Bool.false_and]
      simp only [Bool.false_eq_true, if_false]
      exact hcopy
theorem fits_join {r : T_impl_Ring} {p : List Int} {ahead : Bool} (h : Fits r.Items) (hp : p.length ≤ 2000000) : Fits (joinM r p ahead).Items := by
  have ht : Fits ((p :: r.Items).take 10) := by
    refine ⟨by rw [List.length_take]; omega, fun x hx => ?_⟩
    have hx' := List.mem_of_mem_take hx
    rcases List.mem_cons.1 hx' with e | e
    · rw [e]; exact hp
    · exact h.2 x e
  unfold joinM
  split
  · exact ⟨by simp, by simp⟩
  · split
    · unfold joinI
      split
      · exact ht
      · rename_i h4 h1
        split
        · exact ht
        · rename_i h3
          have hn := h.1
          refine ⟨by rw [List.length_set]; exact h.1, fun x hx => ?_⟩
          rcases List.mem_or_eq_of_mem_set hx with e | e
          · exact h.2 x e
          · rw [e]; split <;> rw [List.length_append] <;> omega
    · exact h
end Go.Proofs.Ytabdhegmepaeiaa
