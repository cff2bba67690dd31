/- What DrawViewRows and DrawViewOf draw: something, within bounds. -/
import Derived.Test.YtnhnipdanpcbeaaPDraw0
namespace Go.Proofs.Ytnhnipdanpcbeaa
open Go Eng
set_option linter.unusedVariables false
set_option linter.unusedSimpArgs false

theorem pick_ex (s : T_spec_l01Src) (h : SrcOk s) (l : List Int) (p : Int) (h1 : 2 ≤ p) (hp : p = (l.length : Int)) (h2 : p ≤ 2147483648) :
    ∃ r, Ev (fun k => (spec_l01Src_n k s p).bind fun b => (if 0 ≤ b.1 then (if b.1 < (l.length : Int) then (some (rdA 0 l b.1, b.2)) else none) else none)) r ∧ SrcOk r.2 :=
  Ev.bind_ex (n_ex s h p h2) fun b hb => Ev.ite_ex (fun _ => Ev.ite_ex (fun _ => Ev.pure_ex hb.1) fun hn => absurd (show b.1 < (l.length : Int) by have := hb.2; omega) hn) fun hn => absurd hb.2.1 hn
theorem point_ex (s : T_spec_l01Src) (h : SrcOk s) : ∃ r, Ev (fun k => spec_l01Src_point k s) r ∧ SrcOk r.2 := by
  unfold spec_l01Src_point
  refine Ev.bind_ex (n_ex s h 14 (by omega)) fun b hb => ?_
  refine Ev.ite_ex (fun _ => Ev.pure_ex hb.1) fun _ => ?_
  refine Ev.ite_ex (fun _ => Ev.pure_ex hb.1) fun _ => ?_
  refine Ev.ite_ex (fun _ => pick_ex b.2 hb.1 _ _ (by decide) rfl (by decide)) fun _ => ?_
  refine Ev.ite_ex (fun _ => pick_ex b.2 hb.1 _ _ (by decide) rfl (by decide)) fun _ => ?_
  refine Ev.ite_ex (fun _ => pick_ex b.2 hb.1 _ _ (by decide) rfl (by decide)) fun _ => ?_
  refine Ev.ite_ex (fun _ => pick_ex b.2 hb.1 _ _ (by decide) rfl (by decide)) fun _ => ?_
  refine Ev.ite_ex (fun _ => ?_) fun _ => ?_
  · exact Ev.bind_ex (n_ex b.2 hb.1 10 (by omega)) fun c hc => Ev.pure_ex hc.1
  · exact Ev.bind_ex (n_ex b.2 hb.1 6 (by omega)) fun c hc => Ev.pure_ex hc.1
theorem points_l0_ex : ∀ (m : Nat) (l : List Int) (s : T_spec_l01Src), SrcOk s → l.length + m ≤ 2000000 →
    ∃ r, Ev (fun k => spec_l01Src_points_l0 k (m : Int) l s.b s.at_ s.mix s.size) r ∧ SrcOk r.2 ∧ r.1.length = l.length + m
  | 0, l, s, h, hl => by
    refine Ev.succ_ex ?_
    simp only [spec_l01Src_points_l0]
    exact ⟨(l, s), Ev.pure _, h, by simp⟩
  | m + 1, l, s, h, hl => by
    refine Ev.succ_ex ?_
    simp only [spec_l01Src_points_l0, if_pos (show ((m + 1 : Nat) : Int) > 0 by omega)]
    refine Ev.bind_ex (point_ex s h) fun b hb => ?_
    have h1 : l.length + ([b.1] : List Int).length ≤ 17592186044416 := by simp; omega
    simp only [if_pos h1]
    rw [wi (by omega) (by omega), show ((m + 1 : Nat) : Int) - 1 = (m : Int) by omega]
    obtain ⟨r, e, hr, hn⟩ := points_l0_ex m (l ++ [b.1]) b.2 hb (by simp; omega)
    exact ⟨r, e, hr, by rw [hn]; simp; omega⟩
theorem points_ex (s : T_spec_l01Src) (h : SrcOk s) (p : Int) (h0 : 0 ≤ p) (h1 : p ≤ 2000000) : ∃ r, Ev (fun k => spec_l01Src_points k s p) r ∧ SrcOk r.2 ∧ (r.1.length : Int) = p := by
  obtain ⟨m, rfl⟩ : ∃ m : Nat, p = m := ⟨p.toNat, by omega⟩
  obtain ⟨r, e, hr, hn⟩ := points_l0_ex m [] s h (by simp; omega)
  exact ⟨r, e, hr, by rw [hn]; simp⟩
/-- What is drawn lies within bounds. -/
def Short (l : List Int) : Prop := l.length ≤ 1000000
theorem prompt_ex (s : T_spec_l01Src) (h : SrcOk s) : ∃ r, Ev (fun k => spec_l01Src_l09Prompt k s) r ∧ SrcOk r.2 ∧ Short r.1 := by
  unfold spec_l01Src_l09Prompt
  refine Ev.bind_ex (n_ex s h 5 (by decide)) fun b hb => ?_
  have hb' := hb.2
  refine Ev.bind_ex (points_ex b.2 hb.1 b.1 hb.2.1 (by omega)) fun c hc => ?_
  have hl := hc.2
  refine Ev.bind_ex (one_ex c.2 hc.1 30 (by decide)) fun e he => ?_
  refine Ev.ite_ex (fun _ => Ev.ite_ex (fun _ => Ev.pure_ex ⟨he, ?_⟩) fun hn => absurd (show c.1.length + ([(-1)] : List Int).length ≤ 17592186044416 by simp; omega) hn) fun _ => Ev.pure_ex ⟨he, ?_⟩
  · show (c.1 ++ [(-1)]).length ≤ 1000000
    rw [List.length_append]; simp; omega
  · show c.1.length ≤ 1000000
    omega
theorem bufEnd_ex (l : List Int) (s : T_spec_l01Src) (h : SrcOk s) (hl : l.length ≤ 900000) : ∃ r, Ev (fun k => spec_l01Src_l02Buf_j0 k s.b s.at_ s.mix s.size l) r ∧ SrcOk r.2 ∧ Short r.1.Points := by
  refine Ev.succ_ex ?_
  simp only [spec_l01Src_l02Buf_j0]
  rw [wi (by omega) (by omega)]
  have hs : l.length ≤ 1000000 := by omega
  refine Ev.bind_ex (n_ex s h _ (by omega)) fun b hb => ?_
  refine Ev.bind_ex (n_ex b.2 hb.1 _ (by omega)) fun c hc => ?_
  refine Ev.bind_ex (one_ex c.2 hc.1 15 (by decide)) fun e he => ?_
  refine Ev.ite_ex (fun _ => ?_) fun _ => Ev.pure_ex ⟨he, hs⟩
  refine Ev.bind_ex (n_ex e.2 he 3 (by decide)) fun f hf => ?_
  refine Ev.ite_ex (fun _ => ?_) fun _ => Ev.ite_ex (fun _ => ?_) fun _ => ?_
  · refine Ev.bind_ex (n_ex f.2 hf.1 2 (by decide)) fun g hg => ?_
    refine Ev.ite_ex (fun _ => ?_) fun hn => absurd hg.2.1 hn
    exact Ev.ite_ex (fun _ => Ev.pure_ex ⟨hg.1, hs⟩) fun hn => absurd (show g.1 < (([(-1), (l.length : Int) + 1] : List Int).length : Int) by have := hg.2.2; simp; omega) hn
  · refine Ev.bind_ex (n_ex f.2 hf.1 2 (by decide)) fun g hg => ?_
    refine Ev.ite_ex (fun _ => ?_) fun hn => absurd hg.2.1 hn
    exact Ev.ite_ex (fun _ => Ev.pure_ex ⟨hg.1, hs⟩) fun hn => absurd (show g.1 < (([(-1), (l.length : Int) + 1] : List Int).length : Int) by have := hg.2.2; simp; omega) hn
  · refine Ev.ite_ex (fun _ => Ev.pure_ex ⟨hf.1, ?_⟩) fun hn => absurd (show l.length + ([55296] : List Int).length ≤ 17592186044416 by simp; omega) hn
    show (l ++ [55296]).length ≤ 1000000
    rw [List.length_append]; simp; omega
theorem buf_ex (s : T_spec_l01Src) (h : SrcOk s) : ∃ r, Ev (fun k => spec_l01Src_l02Buf k s) r ∧ SrcOk r.2 ∧ Short r.1.Points := by
  have h0 := h.z0; have h1 := h.z1
  unfold spec_l01Src_l02Buf
  rw [wi (x := 2 * s.size) (by omega) (by omega), wi (by omega) (by omega)]
  refine Ev.bind_ex (n_ex s h _ (by omega)) fun b hb => ?_
  have hb' := hb.2
  refine Ev.bind_ex (points_ex b.2 hb.1 b.1 hb.2.1 (by omega)) fun c hc => ?_
  have hl := hc.2
  refine Ev.bind_ex (one_ex c.2 hc.1 50 (by decide)) fun e he => ?_
  refine Ev.ite_ex (fun _ => ?_) fun _ => bufEnd_ex c.1 e.2 he (by omega)
  refine Ev.bind_ex (n_ex e.2 he 4 (by decide)) fun f hf => ?_
  have hf' := hf.2
  rw [wi (by omega) (by omega)]
  refine Ev.bind_ex (points_ex f.2 hf.1 (298 + f.1) (by omega) (by omega)) fun g hg => ?_
  have hl2 := hg.2
  exact bufEnd_ex g.1 g.2 hg.1 (by omega)
theorem cols_ex (s : T_spec_l01Src) (h : SrcOk s) : ∃ r, Ev (fun k => spec_l01Src_l09Cols k s) r ∧ SrcOk r.2 := by
  unfold spec_l01Src_l09Cols
  refine Ev.bind_ex (one_ex s h 15 (by decide)) fun b hb => ?_
  refine Ev.ite_ex (fun _ => pick_ex b.2 hb _ _ (by decide) rfl (by decide)) fun _ => ?_
  exact Ev.bind_ex (n_ex b.2 hb 12 (by decide)) fun c hc => Ev.pure_ex hc.1
theorem drawEnd_ex (rows : Int) (s : T_spec_l01Src) (h : SrcOk s) (b2 : List Int × T_spec_l01Src) (b3 : T_impl_Buf × T_spec_l01Src) (h2 : Short b2.1) (h3 : Short b3.1.Points) : ∃ r, Ev (fun k => spec_DrawViewOf_j0 k rows s.b s.at_ s.mix s.size b2 b3) r ∧ Short r.1 ∧ Short r.2.1.Points := by
  refine Ev.succ_ex ?_
  simp only [spec_DrawViewOf_j0]
  refine Ev.bind_ex (one_ex s h 2 (by decide)) fun e he => ?_
  exact Ev.bind_ex (cols_ex e.2 he) fun f hf => Ev.pure_ex ⟨h2, h3⟩
theorem drawView_ex (xs : List Int) (h : xs.length ≤ 1048576) : ∃ r, Ev (fun k => spec_DrawViewOf k xs) r ∧ Short r.1 ∧ Short r.2.1.Points := by
  unfold spec_DrawViewOf
  refine Ev.bind_ex (source_ex xs h) fun b hb => ?_
  refine Ev.bind_ex (prompt_ex b hb) fun c hc => ?_
  refine Ev.bind_ex (buf_ex c.2 hc.1) fun d hd => ?_
  refine Ev.bind_ex (n_ex d.2 hd.1 6 (by decide)) fun e he => ?_
  refine Ev.bind_ex (one_ex e.2 he.1 15 (by decide)) fun f hf => ?_
  refine Ev.ite_ex (fun _ => ?_) fun _ => drawEnd_ex _ f.2 hf c d hc.2 hd.2
  refine Ev.bind_ex (n_ex f.2 hf 3 (by decide)) fun g hg => ?_
  refine Ev.ite_ex (fun _ => ?_) fun hn => absurd hg.2.1 hn
  exact Ev.ite_ex (fun _ => drawEnd_ex _ g.2 hg.1 c d hc.2 hd.2) fun hn => absurd (show g.1 < (([0, 24, 25] : List Int).length : Int) by have := hg.2.2; simp; omega) hn
end Go.Proofs.Ytnhnipdanpcbeaa
