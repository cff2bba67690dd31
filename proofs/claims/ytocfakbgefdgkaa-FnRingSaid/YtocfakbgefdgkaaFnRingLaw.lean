/- 'laws.FnRing' answers true, for every row of bytes. -/
import Derived.Test.YtocfakbgefdgkaaPush2
import Derived.Test.YtocfakbgefdgkaaG13
namespace Go.Proofs.Ytocfakbgefdgkaa
open Go Eng
set_option linter.unusedVariables false
set_option linter.unusedSimpArgs false

theorem Fits.of {l : List (List Int)} (h : Small l) : Fits l := ⟨by have := h.1; omega, fun x hx => by have := h.2 x hx; omega⟩
theorem fits_push {r : T_impl_Ring} {p : List Int} (h : Fits r.Items) (hp : p.length ≤ 2000000) : Fits (pushM r p).Items := by
  unfold pushM
  split
  · exact ⟨by simp, by simp⟩
  · split
    · refine ⟨by show ((p :: r.Items).take 10).length ≤ 1000000; rw [List.length_take]; omega, fun x hx => ?_⟩
      have hx' := List.mem_of_mem_take hx
      rcases List.mem_cons.1 hx' with e | e
      · rw [e]; exact hp
      · exact h.2 x e
    · exact h
theorem turn_ev (items : List (List Int)) (i : Nat) (hi : i < items.length) (hf : Fits items) (hr : ringOk ⟨items, i⟩ = true) :
    Ev (fun k => impl_RingTurn k ⟨items, i⟩) ⟨items, (((i + 1) % items.length : Nat) : Int)⟩ := by
  have hl := ringOk_len hr
  have hl' : items.length ≤ 10 := hl
  unfold impl_RingTurn
  refine Ev.bind (ownRing_ev _ hf) ?_
  refine Ev.bind (ringRight_ev _) ?_
  simp only [hr, if_true]
  refine Ev.succ ?_
  simp only [impl_RingTurn_j0, decide_eq_true (show (items.length : Int) > 0 by omega), if_true, impl_size_int64_60, Option.bind_some, if_pos (show ¬ (items.length : Int) = 0 by omega)]
  rw [wi (by omega) (by omega), show (i : Int) + 1 = ((i + 1 : Nat) : Int) by omega, ← Int.ofNat_tmod]
  exact Ev.pure _
theorem ringOk_at {items : List (List Int)} {i j : Nat} (hi : i < items.length) (hj : j < items.length) (h : ringOk ⟨items, i⟩ = true) : ringOk ⟨items, j⟩ = true := by
  unfold ringOk atOk at *
  simp only [Bool.and_eq_true, Bool.or_eq_true, decide_eq_true_eq] at *
  exact ⟨h.1, h.2.1, by omega, .inl (by omega)⟩
theorem loop_ev : ∀ (m i : Nat) (r : T_impl_Ring) (b : T_impl_Ring), i + m = r.Items.length → 0 < r.Items.length → Fits r.Items → ringOk r = true → r.At = 0 → b.Items = r.Items →
    Ev (fun k => laws_FnRing_l0 k (i : Int) r.Items ((i % r.Items.length : Nat) : Int) b r) true
  | 0, i, r, b, hi, h0, hf, hr, ha, hb => by
    have hl := ringOk_len hr
    refine Ev.succ ?_
    simp only [laws_FnRing_l0, hb, if_neg (show ¬ (i : Int) < (r.Items.length : Int) by omega)]
    have e : ((i % r.Items.length : Nat) : Int) = r.At := by
      rw [ha, show i = r.Items.length by omega, Nat.mod_self]; rfl
    rw [e]
    exact Ev.bind (lwRing_ev r hf) (Ev.pure _)
  | m + 1, i, r, b, hi, h0, hf, hr, ha, hb => by
    have hl := ringOk_len hr
    have hlt : i < r.Items.length := by omega
    refine Ev.succ ?_
    simp only [laws_FnRing_l0, hb, if_pos (show (i : Int) < (r.Items.length : Int) by omega)]
    rw [Nat.mod_eq_of_lt hlt]
    have hr0 : ringOk ⟨r.Items, ((0 : Nat) : Int)⟩ = true := by
      have : (⟨r.Items, ((0 : Nat) : Int)⟩ : T_impl_Ring) = r := by cases r; simp_all
      rw [this]; exact hr
    refine Ev.bind (turn_ev r.Items i hlt hf (ringOk_at h0 hlt hr0)) ?_
    rw [wi (by omega) (by omega), show (i : Int) + 1 = ((i + 1 : Nat) : Int) by omega]
    exact loop_ev m (i + 1) r b (by omega) h0 hf hr ha hb
theorem law_ev (xs : List Int) : ∃ k, laws_FnRing k xs = some true := by
  refine Ev.ex (F := fun k => laws_FnRing k xs) ?_
  unfold laws_FnRing
  by_cases hx : (xs.length : Int) > 1048576
  · simp only [if_pos hx]; exact Ev.pure _
  · simp only [if_neg hx]
    obtain ⟨s, e1, hs⟩ := source_ex xs (by omega)
    obtain ⟨r1, e2, hs2, hsm⟩ := ring_ex s hs
    obtain ⟨r2, e3, hl⟩ := some_ex r1.2 hs2
    have ed : Ev (fun k => spec_DrawRingPush k xs) (r1.1, r2.1) := Ev.bind e1 (Ev.bind e2 (Ev.bind e3 (Ev.pure _)))
    refine Ev.bind ed ?_
    have hf := Fits.of hsm
    generalize r1.1 = r at *
    generalize r2.1 = p at *
    have hp : p.length ≤ 2000000 := by omega
    have hf2 := fits_push hf hp
    refine Ev.bind (specPush_ev r p hf hp) ?_
    simp only [laws_lwCopy, if_pos (show ([] : List Int).length + p.length ≤ 17592186044416 by simp; omega), Option.bind_some, List.nil_append]
    refine Ev.bind (implPush_ev r p hf hp) ?_
    refine Ev.bind (lwRing_ev _ hf2) ?_
    simp only [if_true]
    refine Ev.bind (specRight_ev r (by have := hf.1; omega)) ?_
    by_cases hr : ringOk r = true
    · simp only [if_pos hr]
      refine Ev.bind (specPoints_ev p) ?_
      by_cases hi : ptsOk p = true
      · simp only [if_pos hi]
        by_cases h0 : (p.length : Int) = 0
        · simp only [if_pos h0]; exact Ev.pure _
        · simp only [if_neg h0]
          have h300 : (p.length : Int) ≤ 300 := by
            have := hi
            unfold ptsOk at this
            simp only [Bool.and_eq_true, decide_eq_true_eq] at this
            exact this.1
          have hit : itemOk p = true := by unfold itemOk; rw [hi, Bool.and_true]; exact decide_eq_true (by omega)
          have hpm : pushM r p = ⟨(p :: r.Items).take 10, 0⟩ := by
            unfold pushM
            rw [if_neg (by omega), hr, hit]; rfl
          have hlen : 0 < (pushM r p).Items.length := by rw [hpm]; simp
          have hro : ringOk (pushM r p) = true := by
            rw [hpm]
            unfold ringOk atOk at hr ⊢
            simp only [Bool.and_eq_true, Bool.or_eq_true, decide_eq_true_eq, List.all_eq_true] at hr ⊢
            refine ⟨by rw [List.length_take]; omega, fun x hx => ?_, Int.le_refl _, .inl (by rw [List.length_take]; simp only [List.length_cons]; omega)⟩
            rcases List.mem_cons.1 (List.mem_of_mem_take hx) with e | e
            · rw [e]; exact hit
            · exact hr.2.1 x e
          refine Ev.bind (ringRight_ev _) ?_
          simp only [hro, if_true]
          have htop : Ev (fun k => impl_RingTop k (pushM r p)) p := by
            unfold impl_RingTop
            refine Ev.bind (ringRight_ev _) ?_
            simp only [hro, if_true, if_neg (show ¬ ((pushM r p).Items.length : Int) = 0 by omega)]
            rw [hpm]
            simp only [if_pos (show (0 : Int) ≤ 0 by decide), if_pos (show (0 : Int) < (((p :: r.Items).take 10).length : Int) by simp), slices_Clone_int64_int64]
            have : rdA [] ((p :: r.Items).take 10) 0 = p := rfl
            rw [this]
            simp only [if_pos (show ([] : List Int).length + p.length ≤ 17592186044416 by simp; omega), Option.bind_some, List.nil_append]
            exact Ev.pure _
          refine Ev.bind htop ?_
          refine Ev.bind (same_ev p (by omega)) ?_
          simp only [if_true]
          have hat : (pushM r p).At = 0 := by rw [hpm]
          have := loop_ev (pushM r p).Items.length 0 (pushM r p) (pushM r p) (by omega) hlen hf2 hro hat rfl
          rw [Nat.zero_mod] at this
          rw [hat]
          exact this
      · simp only [if_neg hi]; exact Ev.pure _
    · simp only [if_neg hr]; exact Ev.pure _
end Go.Proofs.Ytocfakbgefdgkaa
