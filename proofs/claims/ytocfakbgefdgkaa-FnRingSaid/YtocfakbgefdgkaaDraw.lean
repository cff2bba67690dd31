/- What the drawing functions answer: something, within bounds. -/
import Derived.Test.YtocfakbgefdgkaaG12
import Derived.Test.YtocfakbgefdgkaaEng15
namespace Go.Proofs.Ytocfakbgefdgkaa
open Go Eng
set_option linter.unusedVariables false

structure SrcOk (s : T_spec_l01Src) : Prop where
  a0 : 0 ≤ s.at_
  a1 : s.at_ ≤ (s.b.length : Int)
  b1 : s.b.length ≤ 1048576
  z0 : 0 ≤ s.size
  z1 : s.size ≤ 1048576
theorem modv (X p : Int) (h1 : 2 ≤ p) (h2 : p ≤ 2147483648) : 0 ≤ IntKind.i64.wrap ((IntKind.u64.wrap X).tmod (IntKind.u64.wrap p)) ∧ IntKind.i64.wrap ((IntKind.u64.wrap X).tmod (IntKind.u64.wrap p)) ≤ p - 1 := by
  rw [wu (x := p) (by omega) (by omega)]
  have h0 := (wu_range X).1
  have e1 := Int.tmod_nonneg p h0
  have e2 := Int.tmod_lt_of_pos (IntKind.u64.wrap X) (show 0 < p by omega)
  rw [wi (by omega) (by omega)]
  omega
theorem n_j0_ev (a b : Int) (s : T_spec_l01Src) (p : Int) (h1 : 2 ≤ p) (h2 : p ≤ 2147483648) :
    ∃ v mix, Ev (fun k => spec_l01Src_n_j0 k a b s p) (v, ⟨s.b, b, mix, s.size⟩) ∧ 0 ≤ v ∧ v ≤ p - 1 := by
  have hw : ¬ IntKind.u64.wrap p = 0 := by rw [wu (by omega) (by omega)]; omega
  exact ⟨_, _, Ev.succ (Ev.of fun k => if_pos hw), modv _ _ h1 h2⟩
theorem n_ev (s : T_spec_l01Src) (h : SrcOk s) (p : Int) (h2 : p ≤ 2147483648) :
    ∃ v s', Ev (fun k => spec_l01Src_n k s p) (v, s') ∧ SrcOk s' ∧ 0 ≤ v ∧ (v ≤ p - 1 ∨ v = 0) := by
  by_cases h1 : p ≤ 1
  · exact ⟨0, s, by simp only [spec_l01Src_n, if_pos h1]; exact Ev.pure _, h, Int.le_refl _, .inr rfl⟩
  · by_cases hl : s.at_ < (s.b.length : Int)
    · obtain ⟨v, mix, he, hv0, hv1⟩ := n_j0_ev (IntKind.u64.wrap (rdA 0 s.b s.at_)) (IntKind.i64.wrap (s.at_ + 1)) s p (by omega) h2
      refine ⟨v, _, by simp only [spec_l01Src_n, if_neg h1, if_pos hl, if_pos h.a0]; exact he, ?_, hv0, .inl hv1⟩
      have := h.a0; have := h.b1
      rw [wi (by omega) (by omega)]
      exact ⟨by show 0 ≤ s.at_ + 1; omega, by show s.at_ + 1 ≤ (s.b.length : Int); omega, h.b1, h.z0, h.z1⟩
    · obtain ⟨v, mix, he, hv0, hv1⟩ := n_j0_ev 0 s.at_ s p (by omega) h2
      exact ⟨v, ⟨s.b, s.at_, mix, s.size⟩, by simp only [spec_l01Src_n, if_neg h1, if_neg hl]; exact he, ⟨h.a0, h.a1, h.b1, h.z0, h.z1⟩, hv0, .inl hv1⟩
/-- Of what a source answers: it is still one, and its size is as it was. -/
def Nn (s : T_spec_l01Src) (p : Int) (r : Int × T_spec_l01Src) : Prop := SrcOk r.2 ∧ 0 ≤ r.1 ∧ (r.1 ≤ p - 1 ∨ r.1 = 0)
theorem n_ex (s : T_spec_l01Src) (h : SrcOk s) (p : Int) (h2 : p ≤ 2147483648) : ∃ r, Ev (fun k => spec_l01Src_n k s p) r ∧ Nn s p r := by
  obtain ⟨v, s', he, hs, h0, h1⟩ := n_ev s h p h2
  exact ⟨(v, s'), he, hs, h0, h1⟩
theorem src_eta (s : T_spec_l01Src) : (⟨s.b, s.at_, s.mix, s.size⟩ : T_spec_l01Src) = s := rfl
theorem pick_ex (s : T_spec_l01Src) (h : SrcOk s) (l : List Int) (p : Int) (h1 : 2 ≤ p) (hp : p = (l.length : Int)) (h2 : p ≤ 2147483648) :
    ∃ r, Ev (fun k => (spec_l01Src_n k s p).bind fun b => (if 0 ≤ b.1 then (if b.1 < (l.length : Int) then (some (rdA 0 l b.1, b.2)) else none) else none)) r ∧ SrcOk r.2 :=
  Ev.bind_ex (n_ex s h p h2) fun b hb => Ev.ite_ex (fun _ => Ev.ite_ex (fun _ => Ev.pure_ex hb.1) fun hn => absurd (show b.1 < (l.length : Int) by have := hb.2; omega) hn) fun hn => absurd hb.2.1 hn
theorem point_ex (s : T_spec_l01Src) (h : SrcOk s) : ∃ r, Ev (fun k => spec_l01Src_point k s) r ∧ SrcOk r.2 := by
  unfold spec_l01Src_point
  refine Ev.bind_ex (n_ex s h 14 (by omega)) fun b hb => ?_
  refine Ev.ite_ex (fun _ => Ev.pure_ex hb.1) fun _ => ?_
  refine Ev.ite_ex (fun _ => Ev.pure_ex hb.1) fun _ => ?_
  refine Ev.ite_ex (fun _ => pick_ex b.2 hb.1 _ _ (by decide) rfl (by decide)) fun _ => ?_
  refine Ev.ite_ex (fun _ => pick_ex b.2 hb.1 _ _ (by decide) rfl (by decide)) fun _ => ?_
  refine Ev.ite_ex (fun _ => pick_ex b.2 hb.1 _ _ (by decide) rfl (by decide)) fun _ => ?_
  refine Ev.ite_ex (fun _ => pick_ex b.2 hb.1 _ _ (by decide) rfl (by decide)) fun _ => ?_
  refine Ev.ite_ex (fun _ => ?_) fun _ => ?_
  · exact Ev.bind_ex (n_ex b.2 hb.1 10 (by omega)) fun c hc => Ev.pure_ex hc.1
  · exact Ev.bind_ex (n_ex b.2 hb.1 6 (by omega)) fun c hc => Ev.pure_ex hc.1
theorem points_l0_ex : ∀ (m : Nat) (l : List Int) (s : T_spec_l01Src), SrcOk s → l.length + m ≤ 2000000 →
    ∃ r, Ev (fun k => spec_l01Src_points_l0 k (m : Int) l s.b s.at_ s.mix s.size) r ∧ SrcOk r.2 ∧ r.1.length = l.length + m
  | 0, l, s, h, hl => by
    refine Ev.succ_ex ?_
    simp only [spec_l01Src_points_l0]
    exact ⟨(l, s), Ev.pure _, h, by simp⟩
  | m + 1, l, s, h, hl => by
    refine Ev.succ_ex ?_
    simp only [spec_l01Src_points_l0, if_pos (show ((m + 1 : Nat) : Int) > 0 by omega)]
    refine Ev.bind_ex (point_ex s h) fun b hb => ?_
    have h1 : l.length + ([b.1] : List Int).length ≤ 17592186044416 := by simp; omega
    simp only [if_pos h1]
    rw [wi (by omega) (by omega), show ((m + 1 : Nat) : Int) - 1 = (m : Int) by omega]
    obtain ⟨r, e, hr, hn⟩ := points_l0_ex m (l ++ [b.1]) b.2 hb (by simp; omega)
    exact ⟨r, e, hr, by rw [hn]; simp; omega⟩
theorem points_ex (s : T_spec_l01Src) (h : SrcOk s) (p : Int) (h0 : 0 ≤ p) (h1 : p ≤ 2000000) : ∃ r, Ev (fun k => spec_l01Src_points k s p) r ∧ SrcOk r.2 ∧ (r.1.length : Int) = p := by
  obtain ⟨m, rfl⟩ : ∃ m : Nat, p = m := ⟨p.toNat, by omega⟩
  obtain ⟨r, e, hr, hn⟩ := points_l0_ex m [] s h (by simp; omega)
  exact ⟨r, e, hr, by rw [hn]; simp⟩
theorem one_ex (s : T_spec_l01Src) (h : SrcOk s) (p : Int) (h1 : p ≤ 2147483648) : ∃ r, Ev (fun k => spec_l01Src_one k s p) r ∧ SrcOk r.2 :=
  Ev.bind_ex (n_ex s h p h1) fun b hb => Ev.pure_ex hb.1
end Go.Proofs.Ytocfakbgefdgkaa
