/- What the drawing functions answer: something, within bounds (the part that every law with draws has). -/
import Derived.Test.YtnhnipdanpcbeaaV18
import Derived.Test.YtnhnipdanpcbeaaEng15
namespace Go.Proofs.Ytnhnipdanpcbeaa
open Go Eng
set_option linter.unusedVariables false
set_option linter.unusedSimpArgs false

structure SrcOk (s : T_spec_l01Src) : Prop where
  a0 : 0 ≤ s.at_
  a1 : s.at_ ≤ (s.b.length : Int)
  b1 : s.b.length ≤ 1048576
  z0 : 0 ≤ s.size
  z1 : s.size ≤ 12
theorem modv (X p : Int) (h1 : 2 ≤ p) (h2 : p ≤ 2147483648) : 0 ≤ IntKind.i64.wrap ((IntKind.u64.wrap X).tmod (IntKind.u64.wrap p)) ∧ IntKind.i64.wrap ((IntKind.u64.wrap X).tmod (IntKind.u64.wrap p)) ≤ p - 1 := by
  rw [wu (x := p) (by omega) (by omega)]
  have h0 := (wu_range X).1
  have e1 := Int.tmod_nonneg p h0
  have e2 := Int.tmod_lt_of_pos (IntKind.u64.wrap X) (show 0 < p by omega)
  rw [wi (by omega) (by omega)]
  omega
theorem n_j0_ev (a b : Int) (s : T_spec_l01Src) (p : Int) (h1 : 2 ≤ p) (h2 : p ≤ 2147483648) :
    ∃ v mix, Ev (fun k => spec_l01Src_n_j0 k a b s p) (v, ⟨s.b, b, mix, s.size⟩) ∧ 0 ≤ v ∧ v ≤ p - 1 := by
  have hw : ¬ IntKind.u64.wrap p = 0 := by rw [wu (by omega) (by omega)]; omega
  exact ⟨_, _, Ev.succ (Ev.of fun k => if_pos hw), modv _ _ h1 h2⟩
theorem n_ev (s : T_spec_l01Src) (h : SrcOk s) (p : Int) (h2 : p ≤ 2147483648) :
    ∃ v s', Ev (fun k => spec_l01Src_n k s p) (v, s') ∧ SrcOk s' ∧ 0 ≤ v ∧ (v ≤ p - 1 ∨ v = 0) := by
  by_cases h1 : p ≤ 1
  · exact ⟨0, s, by simp only [spec_l01Src_n, if_pos h1]; exact Ev.pure _, h, Int.le_refl _, .inr rfl⟩
  · by_cases hl : s.at_ < (s.b.length : Int)
    · obtain ⟨v, mix, he, hv0, hv1⟩ := n_j0_ev (IntKind.u64.wrap (rdA 0 s.b s.at_)) (IntKind.i64.wrap (s.at_ + 1)) s p (by omega) h2
      refine ⟨v, _, by simp only [spec_l01Src_n, if_neg h1, if_pos hl, if_pos h.a0]; exact he, ?_, hv0, .inl hv1⟩
      have := h.a0; have := h.b1
      rw [wi (by omega) (by omega)]
      exact ⟨by show 0 ≤ s.at_ + 1; omega, by show s.at_ + 1 ≤ (s.b.length : Int); omega, h.b1, h.z0, h.z1⟩
    · obtain ⟨v, mix, he, hv0, hv1⟩ := n_j0_ev 0 s.at_ s p (by omega) h2
      exact ⟨v, ⟨s.b, s.at_, mix, s.size⟩, by simp only [spec_l01Src_n, if_neg h1, if_neg hl]; exact he, ⟨h.a0, h.a1, h.b1, h.z0, h.z1⟩, hv0, .inl hv1⟩
/-- Of what a source answers: it is still one, and its size is as it was. -/
def Nn (p : Int) (r : Int × T_spec_l01Src) : Prop := SrcOk r.2 ∧ 0 ≤ r.1 ∧ (r.1 ≤ p - 1 ∨ r.1 = 0)
theorem n_ex (s : T_spec_l01Src) (h : SrcOk s) (p : Int) (h2 : p ≤ 2147483648) : ∃ r, Ev (fun k => spec_l01Src_n k s p) r ∧ Nn p r := by
  obtain ⟨v, s', he, hs, h0, h1⟩ := n_ev s h p h2
  exact ⟨(v, s'), he, hs, h0, h1⟩
theorem src_eta (s : T_spec_l01Src) : (⟨s.b, s.at_, s.mix, s.size⟩ : T_spec_l01Src) = s := rfl
theorem rdA_in {α : Type} (d : α) (l : List α) (i : Int) (h0 : 0 ≤ i) (h1 : i < (l.length : Int)) : rdA d l i ∈ l := by
  have : i.toNat < l.length := by omega
  simp [rdA, List.getD_eq_getElem?_getD, List.getElem?_eq_getElem this]
theorem source_j0_ex (mix : Int) (xs : List Int) (h : xs.length ≤ 1048576) : ∃ r, Ev (fun k => spec_l01Source_j0 k mix xs) r ∧ SrcOk r := by
  have h0 : 0 ≤ (xs.length : Int).tdiv 20 := Int.tdiv_nonneg (by omega) (by decide)
  have h1 : (xs.length : Int).tdiv 20 ≤ (xs.length : Int) := Int.tdiv_le_self _ (by omega)
  refine Ev.succ_ex ?_
  simp only [spec_l01Source_j0]
  rw [wi (by omega) (by omega)]
  refine Ev.ite_ex (fun _ => Ev.pure_ex ?_) fun hn => Ev.pure_ex ?_
  · exact ⟨Int.le_refl _, by show (0 : Int) ≤ _; omega, h, by show (0 : Int) ≤ 12; decide, by show (12 : Int) ≤ 12; decide⟩
  · exact ⟨Int.le_refl _, by show (0 : Int) ≤ _; omega, h, h0, by show (xs.length : Int).tdiv 20 ≤ 12; omega⟩
theorem source_l0_ex : ∀ (m i : Nat) (mix : Int) (xs : List Int), i + m = 64 → xs.length ≤ 1048576 → ∃ r, Ev (fun k => spec_l01Source_l0 k (i : Int) mix xs) r ∧ SrcOk r
  | 0, i, mix, xs, hi, h => by
    refine Ev.succ_ex ?_
    simp only [spec_l01Source_l0]
    refine Ev.ite_ex (fun _ => ?_) fun _ => source_j0_ex mix xs h
    refine Ev.ite_ex (fun h64 => absurd h64 (by omega)) fun _ => source_j0_ex mix xs h
  | m + 1, i, mix, xs, hi, h => by
    refine Ev.succ_ex ?_
    simp only [spec_l01Source_l0]
    refine Ev.ite_ex (fun _ => ?_) fun _ => source_j0_ex mix xs h
    refine Ev.ite_ex (fun h64 => ?_) fun _ => source_j0_ex mix xs h
    refine Ev.ite_ex (fun _ => ?_) fun hn => absurd (show (0 : Int) ≤ (i : Int) by omega) hn
    rw [wi (by omega) (by omega), show (i : Int) + 1 = ((i + 1 : Nat) : Int) by omega]
    exact source_l0_ex m (i + 1) _ xs (by omega) h
theorem source_ex (xs : List Int) (h : xs.length ≤ 1048576) : ∃ r, Ev (fun k => spec_l01Source k xs) r ∧ SrcOk r := source_l0_ex 64 0 _ xs (by omega) h
theorem one_ex (s : T_spec_l01Src) (h : SrcOk s) (p : Int) (h1 : p ≤ 2147483648) : ∃ r, Ev (fun k => spec_l01Src_one k s p) r ∧ SrcOk r.2 :=
  Ev.bind_ex (n_ex s h p h1) fun b hb => Ev.pure_ex hb.1
end Go.Proofs.Ytnhnipdanpcbeaa
