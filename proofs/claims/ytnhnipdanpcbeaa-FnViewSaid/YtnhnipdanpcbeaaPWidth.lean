/- How wide a point is: the program's and the reference's answer. -/
import Derived.Test.YtnhnipdanpcbeaaPViewDraw
namespace Go.Proofs.Ytnhnipdanpcbeaa
open Go Eng
set_option linter.unusedVariables false
set_option linter.unusedSimpArgs false

def ptOk (p : Int) : Bool := decide (0 ≤ p) && decide (p ≤ 1114111) && !(decide (55296 ≤ p) && decide (p ≤ 57343))
theorem isPoint_eq (p : Int) : impl_isPoint p = some (ptOk p) := by
  unfold impl_isPoint impl_within ptOk
  by_cases h1 : 0 ≤ p <;> by_cases h2 : p ≤ 1114111 <;> by_cases h3 : 55296 ≤ p <;> by_cases h4 : p ≤ 57343 <;> simp [h1, h2, h3, h4]
theorem point_eq (p : Int) : spec_l01Point p = some (ptOk p) := by
  unfold spec_l01Point ptOk
  by_cases h1 : 0 ≤ p <;> by_cases h2 : p ≤ 1114111 <;> by_cases h3 : 55296 ≤ p <;> by_cases h4 : p ≤ 57343 <;> simp [h1, h2, h3, h4]
def broad (p : Int) : Prop := (4352 ≤ p ∧ p ≤ 4447) ∨ (11904 ≤ p ∧ p ≤ 42191) ∨ (44032 ≤ p ∧ p ≤ 55203) ∨ (63744 ≤ p ∧ p ≤ 64255) ∨ (65281 ≤ p ∧ p ≤ 65376) ∨ (127744 ≤ p ∧ p ≤ 129791)
instance (p : Int) : Decidable (broad p) := by unfold broad; infer_instance
def W (p : Int) : Int := if ptOk p = true then (if 768 ≤ p ∧ p ≤ 879 then 0 else if p < 32 ∨ p = 127 ∨ broad p then 2 else 1) else 0
theorem within_eq (a b c : Int) : impl_within a b c = some (decide (b ≤ a ∧ a ≤ c)) := by
  unfold impl_within
  by_cases h : b ≤ a
  · rw [if_pos h]; simp [h]
  · rw [if_neg h]; simp [h]
def tab : List T_anon96 := [(⟨4352, 4447⟩ : T_anon96), (⟨11904, 42191⟩ : T_anon96), (⟨44032, 55203⟩ : T_anon96), (⟨63744, 64255⟩ : T_anon96), (⟨65281, 65376⟩ : T_anon96), (⟨127744, 129791⟩ : T_anon96)]
theorem tab_step (i : Nat) (hi : i < 6) (p : Int) {r : Int} (h1 : (rdA z_anon96 tab (i : Int)).e0 ≤ p ∧ p ≤ (rdA z_anon96 tab (i : Int)).e1 → r = 2)
    (h2 : ¬ ((rdA z_anon96 tab (i : Int)).e0 ≤ p ∧ p ≤ (rdA z_anon96 tab (i : Int)).e1) → Ev (fun k => impl_WidthOf_l0 k ((i + 1 : Nat) : Int) p) r) : Ev (fun k => impl_WidthOf_l0 k (i : Int) p) r := by
  refine Ev.succ ?_
  show Ev (fun k => if (i : Int) < (tab.length : Int) then _ else _) r
  refine Ev.ifp (show (i : Int) < (tab.length : Int) by show (i : Int) < 6; omega) (Ev.ifp (show (0 : Int) ≤ (i : Int) by omega) ?_)
  refine Ev.bind (Ev.eq (within_eq _ _ _)) ?_
  by_cases h : (rdA z_anon96 tab (i : Int)).e0 ≤ p ∧ p ≤ (rdA z_anon96 tab (i : Int)).e1
  · refine Ev.ifp (decide_eq_true h) ?_
    rw [h1 h]; exact Ev.pure _
  · refine Ev.ifn (fun hc => h (of_decide_eq_true hc)) ?_
    rw [wi (by omega) (by omega)]
    exact h2 h
theorem tab_end (p : Int) : Ev (fun k => impl_WidthOf_l0 k ((6 : Nat) : Int) p) 1 := by
  refine Ev.succ ?_
  show Ev (fun k => if ((6 : Nat) : Int) < (tab.length : Int) then _ else _) 1
  exact Ev.ifn (show ¬ ((6 : Nat) : Int) < (tab.length : Int) by decide) (Ev.pure _)
theorem tab_ev (p : Int) : Ev (fun k => impl_WidthOf_l0 k 0 p) (if broad p then 2 else 1) := by
  have e0 : (rdA z_anon96 tab ((0 : Nat) : Int)) = ⟨4352, 4447⟩ := rfl
  have e1 : (rdA z_anon96 tab ((1 : Nat) : Int)) = ⟨11904, 42191⟩ := rfl
  have e2 : (rdA z_anon96 tab ((2 : Nat) : Int)) = ⟨44032, 55203⟩ := rfl
  have e3 : (rdA z_anon96 tab ((3 : Nat) : Int)) = ⟨63744, 64255⟩ := rfl
  have e4 : (rdA z_anon96 tab ((4 : Nat) : Int)) = ⟨65281, 65376⟩ := rfl
  have e5 : (rdA z_anon96 tab ((5 : Nat) : Int)) = ⟨127744, 129791⟩ := rfl
  refine tab_step 0 (by decide) p (fun h => ?_) fun h0 => tab_step 1 (by decide) p (fun h => ?_) fun h1 => tab_step 2 (by decide) p (fun h => ?_) fun h2 => tab_step 3 (by decide) p (fun h => ?_) fun h3 => tab_step 4 (by decide) p (fun h => ?_) fun h4 => tab_step 5 (by decide) p (fun h => ?_) fun h5 => ?_
  · rw [e0] at h; exact if_pos (.inl h)
  · rw [e1] at h; exact if_pos (.inr (.inl h))
  · rw [e2] at h; exact if_pos (.inr (.inr (.inl h)))
  · rw [e3] at h; exact if_pos (.inr (.inr (.inr (.inl h))))
  · rw [e4] at h; exact if_pos (.inr (.inr (.inr (.inr (.inl h)))))
  · rw [e5] at h; exact if_pos (.inr (.inr (.inr (.inr (.inr h)))))
  · rw [e0] at h0; rw [e1] at h1; rw [e2] at h2; rw [e3] at h3; rw [e4] at h4; rw [e5] at h5
    rw [if_neg (by rintro (h | h | h | h | h | h) <;> contradiction)]
    exact tab_end p
theorem width_ev (p : Int) : Ev (fun k => impl_WidthOf k p) (W p) := by
  unfold impl_WidthOf W
  refine Ev.bind (Ev.eq (isPoint_eq p)) ?_
  by_cases h : ptOk p = true
  · refine Ev.ifp h ?_
    rw [if_pos h]
    refine Ev.bind (Ev.eq (within_eq _ _ _)) ?_
    by_cases h1 : 768 ≤ p ∧ p ≤ 879
    · rw [if_pos h1]; exact Ev.ifp (decide_eq_true h1) (Ev.pure _)
    · rw [if_neg h1]
      refine Ev.ifn (fun hc => h1 (of_decide_eq_true hc)) ?_
      have hc : impl_isControl p = some (decide (p < 32 ∨ p = 127)) := by
        unfold impl_isControl
        by_cases h2 : p < 32
        · simp [h2]
        · simp only [if_neg h2, h2, false_or]; rfl
      refine Ev.bind (Ev.eq hc) ?_
      by_cases h2 : p < 32 ∨ p = 127
      · refine Ev.ifp (decide_eq_true h2) ?_
        rw [if_pos (by rcases h2 with h | h; exact .inl h; exact .inr (.inl h))]; exact Ev.pure _
      · refine Ev.ifn (fun hc => h2 (of_decide_eq_true hc)) ?_
        have e : (p < 32 ∨ p = 127 ∨ broad p) ↔ broad p := ⟨fun h => by rcases h with h | h | h; exact absurd (.inl h) h2; exact absurd (.inr h) h2; exact h, fun h => .inr (.inr h)⟩
        simp only [e]
        exact tab_ev p
  · rw [if_neg h]; exact Ev.ifn h (Ev.pure _)
theorem itS {α : Type} {c : Prop} {_ : Decidable c} {a b x : α} (h1 : c → a = x) (h2 : ¬ c → b = x) : (if c then a else b) = x := by
  by_cases h : c
  · rw [if_pos h]; exact h1 h
  · rw [if_neg h]; exact h2 h
theorem specWidth_j0 (p : Int) (k : Nat) : spec_WidthOf_j0 (k + 1) p = some (if p < 32 ∨ p = 127 ∨ broad p then 2 else 1) := by
  by_cases hb : p < 32 ∨ p = 127 ∨ broad p
  · rw [if_pos hb]; unfold broad at hb
    simp only [spec_WidthOf_j0]
    repeat' refine itS (fun _ => ?_) (fun _ => ?_)
    all_goals first | rfl | (exfalso; omega)
  · rw [if_neg hb]; unfold broad at hb
    simp only [spec_WidthOf_j0]
    repeat' refine itS (fun _ => ?_) (fun _ => ?_)
    all_goals first | rfl | (exfalso; omega)
theorem specWidth_ev (p : Int) : Ev (fun k => spec_WidthOf k p) (W p) := by
  unfold spec_WidthOf W
  refine Ev.bind (Ev.eq (point_eq p)) ?_
  have hj : Ev (fun k => spec_WidthOf_j0 k p) (if p < 32 ∨ p = 127 ∨ broad p then 2 else 1) := Ev.succ (Ev.of fun k => specWidth_j0 p k)
  by_cases h : ptOk p = true
  · refine Ev.ifp h ?_
    rw [if_pos h]
    by_cases h1 : p ≥ 768
    · refine Ev.ifp h1 ?_
      by_cases h2 : p ≤ 879
      · rw [if_pos ⟨h1, h2⟩]; exact Ev.ifp h2 (Ev.pure _)
      · rw [if_neg (fun hc => h2 hc.2)]; exact Ev.ifn h2 hj
    · rw [if_neg (fun hc => h1 hc.1)]; exact Ev.ifn h1 hj
  · rw [if_neg h]; exact Ev.ifn h (Ev.pure _)
theorem W_range (p : Int) : W p = 0 ∨ W p = 1 ∨ W p = 2 := by
  unfold W
  repeat' split
  all_goals simp
end Go.Proofs.Ytnhnipdanpcbeaa
