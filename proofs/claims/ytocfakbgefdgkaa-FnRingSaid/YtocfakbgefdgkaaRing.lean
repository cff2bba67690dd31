/- The drawn ring and points; what is pushed. -/
import Derived.Test.YtocfakbgefdgkaaDraw
namespace Go.Proofs.Ytocfakbgefdgkaa
open Go Eng
set_option linter.unusedVariables false

theorem source_j0_ex (mix : Int) (xs : List Int) (h : xs.length ≤ 1048576) : ∃ r, Ev (fun k => spec_l01Source_j0 k mix xs) r ∧ SrcOk r := by
  have h0 : 0 ≤ (xs.length : Int).tdiv 20 := Int.tdiv_nonneg (by omega) (by decide)
  have h1 : (xs.length : Int).tdiv 20 ≤ (xs.length : Int) := Int.tdiv_le_self _ (by omega)
  refine Ev.succ_ex ?_
  simp only [spec_l01Source_j0]
  rw [wi (by omega) (by omega)]
  refine Ev.ite_ex (fun _ => Ev.pure_ex ?_) fun hn => Ev.pure_ex ?_
  · exact ⟨Int.le_refl _, by show (0 : Int) ≤ _; omega, h, by show (0 : Int) ≤ 12; decide, by show (12 : Int) ≤ 1048576; decide⟩
  · exact ⟨Int.le_refl _, by show (0 : Int) ≤ _; omega, h, h0, by show (xs.length : Int).tdiv 20 ≤ 1048576; omega⟩
theorem source_l0_ex : ∀ (m i : Nat) (mix : Int) (xs : List Int), i + m = 64 → xs.length ≤ 1048576 → ∃ r, Ev (fun k => spec_l01Source_l0 k (i : Int) mix xs) r ∧ SrcOk r
  | 0, i, mix, xs, hi, h => by
    refine Ev.succ_ex ?_
    simp only [spec_l01Source_l0]
    refine Ev.ite_ex (fun _ => ?_) fun _ => source_j0_ex mix xs h
    refine Ev.ite_ex (fun h64 => absurd h64 (by omega)) fun _ => source_j0_ex mix xs h
  | m + 1, i, mix, xs, hi, h => by
    refine Ev.succ_ex ?_
    simp only [spec_l01Source_l0]
    refine Ev.ite_ex (fun _ => ?_) fun _ => source_j0_ex mix xs h
    refine Ev.ite_ex (fun h64 => ?_) fun _ => source_j0_ex mix xs h
    refine Ev.ite_ex (fun _ => ?_) fun hn => absurd (show (0 : Int) ≤ (i : Int) by omega) hn
    rw [wi (by omega) (by omega), show (i : Int) + 1 = ((i + 1 : Nat) : Int) by omega]
    exact source_l0_ex m (i + 1) _ xs (by omega) h
theorem source_ex (xs : List Int) (h : xs.length ≤ 1048576) : ∃ r, Ev (fun k => spec_l01Source k xs) r ∧ SrcOk r := source_l0_ex 64 0 _ xs (by omega) h

def Small (l : List (List Int)) : Prop := l.length ≤ 20 ∧ ∀ x ∈ l, x.length ≤ 1000
theorem Small.snoc {l : List (List Int)} {x : List Int} (h : ∀ x ∈ l, x.length ≤ 1000) (hx : x.length ≤ 1000) : ∀ y ∈ l ++ [x], y.length ≤ 1000 := by
  intro y hy
  rcases List.mem_append.1 hy with hy | hy
  · exact h y hy
  · rw [List.mem_singleton.1 hy]; exact hx
theorem ring_j2_ex (s : T_spec_l01Src) (h : SrcOk s) (a : Int) (l : List (List Int)) (hl : l.length ≤ 15) (hx : ∀ x ∈ l, x.length ≤ 1000) :
    ∃ r, Ev (fun k => spec_l01Src_l04Ring_j2 k s.b s.at_ s.mix s.size a l) r ∧ SrcOk r.2 ∧ Small r.1.Items := by
  refine Ev.succ_ex ?_
  simp only [spec_l01Src_l04Ring_j2]
  refine Ev.bind_ex (one_ex s h 20 (by omega)) fun b hb => ?_
  refine Ev.ite_ex (fun _ => ?_) fun _ => Ev.pure_ex ⟨hb, by show l.length ≤ 20; omega, hx⟩
  refine Ev.bind_ex (n_ex b.2 hb 3 (by omega)) fun c hc => ?_
  refine Ev.ite_ex (fun _ => ?_) fun _ => Ev.ite_ex (fun _ => ?_) fun _ => ?_
  · refine Ev.bind_ex (n_ex c.2 hc.1 2 (by omega)) fun d hd => ?_
    have h0 := hd.2.1
    have h1 := hd.2.2
    refine Ev.ite_ex (fun _ => Ev.ite_ex (fun _ => Ev.pure_ex ⟨hd.1, by show l.length ≤ 20; omega, hx⟩) fun hn => absurd (show d.1 < 2 by omega) hn) fun hn => absurd h0 hn
  · refine Ev.ite_ex (fun _ => Ev.pure_ex ⟨hc.1, by show (l ++ [[]]).length ≤ 20; simp; omega, Small.snoc hx (by simp)⟩) fun hn => absurd (show l.length + 1 ≤ 5864062014805 by omega) hn
  · refine Ev.bind_ex (n_ex c.2 hc.1 5 (by omega)) fun d hd => ?_
    have h0 := hd.2.1
    have h1 := hd.2.2
    rw [wi (by omega) (by omega)]
    refine Ev.bind_ex (points_ex d.2 hd.1 (297 + d.1) (by omega) (by omega)) fun e he => ?_
    refine Ev.ite_ex (fun _ => Ev.pure_ex ⟨he.1, by show (l ++ [e.1]).length ≤ 20; simp; omega, Small.snoc hx (by have := he.2; omega)⟩) fun hn => absurd (show l.length + 1 ≤ 5864062014805 by omega) hn
theorem ring_j1_ex (s : T_spec_l01Src) (h : SrcOk s) (l : List (List Int)) (hl : l.length ≤ 15) (hx : ∀ x ∈ l, x.length ≤ 1000) :
    ∃ r, Ev (fun k => spec_l01Src_l04Ring_j1 k s.b s.at_ s.mix s.size l) r ∧ SrcOk r.2 ∧ Small r.1.Items := by
  refine Ev.succ_ex ?_
  simp only [spec_l01Src_l04Ring_j1]
  refine Ev.ite_ex (fun _ => ?_) fun _ => ring_j2_ex s h 0 l hl hx
  refine Ev.bind_ex (n_ex s h _ (by omega)) fun b hb => ?_
  exact ring_j2_ex b.2 hb.1 _ l hl hx
theorem ring_l0_ex : ∀ (m : Nat) (s : T_spec_l01Src) (l : List (List Int)), SrcOk s → l.length + m ≤ 15 → (∀ x ∈ l, x.length ≤ 1000) →
    ∃ r, Ev (fun k => spec_l01Src_l04Ring_l0 k (m : Int) s.b s.at_ s.mix s.size l) r ∧ SrcOk r.2 ∧ Small r.1.Items
  | 0, s, l, h, hl, hx => by
    refine Ev.succ_ex ?_
    simp only [spec_l01Src_l04Ring_l0]
    exact Ev.ite_ex (fun h0 => absurd h0 (by omega)) fun _ => ring_j1_ex s h l hl hx
  | m + 1, s, l, h, hl, hx => by
    refine Ev.succ_ex ?_
    simp only [spec_l01Src_l04Ring_l0, if_pos (show ((m + 1 : Nat) : Int) > 0 by omega)]
    refine Ev.bind_ex (n_ex s h 5 (by omega)) fun b hb => ?_
    have h0 := hb.2.1
    have h1 := hb.2.2
    rw [wi (x := 1 + b.1) (by omega) (by omega)]
    refine Ev.bind_ex (points_ex b.2 hb.1 (1 + b.1) (by omega) (by omega)) fun c hc => ?_
    refine Ev.ite_ex (fun _ => ?_) fun hn => absurd (show l.length + 1 ≤ 5864062014805 by omega) hn
    rw [wi (by omega) (by omega), show ((m + 1 : Nat) : Int) - 1 = (m : Int) by omega]
    exact ring_l0_ex m c.2 _ hc.1 (by simp; omega) (Small.snoc hx (by have := hc.2; omega))
theorem ring_j0_ex (p : Int) (h0 : 0 ≤ p) (h1 : p ≤ 15) (s : T_spec_l01Src) (h : SrcOk s) : ∃ r, Ev (fun k => spec_l01Src_l04Ring_j0 k p s.b s.at_ s.mix s.size) r ∧ SrcOk r.2 ∧ Small r.1.Items := by
  obtain ⟨m, rfl⟩ : ∃ m : Nat, p = m := ⟨p.toNat, by omega⟩
  exact Ev.succ_ex (ring_l0_ex m s [] h (by simp; omega) (by simp))
theorem ring_ex (s : T_spec_l01Src) (h : SrcOk s) : ∃ r, Ev (fun k => spec_l01Src_l04Ring k s) r ∧ SrcOk r.2 ∧ Small r.1.Items := by
  unfold spec_l01Src_l04Ring
  refine Ev.bind_ex (n_ex s h 4 (by omega)) fun b hb => ?_
  have h0 := hb.2.1
  have h1 := hb.2.2
  refine Ev.bind_ex (one_ex b.2 hb.1 12 (by omega)) fun c hc => ?_
  refine Ev.ite_ex (fun _ => ?_) fun _ => ring_j0_ex b.1 h0 (by omega) c.2 hc
  refine Ev.bind_ex (n_ex c.2 hc 3 (by omega)) fun d hd => ?_
  have h2 := hd.2.1
  have h3 := hd.2.2
  rw [wi (by omega) (by omega)]
  exact ring_j0_ex _ (by omega) (by omega) d.2 hd.1
theorem some_j0_ex (l : List Int) (s : T_spec_l01Src) (h : SrcOk s) (hl : l.length ≤ 1048600) : ∃ r, Ev (fun k => spec_l01Src_some_j0 k l s.b s.at_ s.mix s.size) r ∧ r.1.length ≤ 1048601 := by
  refine Ev.succ_ex ?_
  simp only [spec_l01Src_some_j0]
  refine Ev.bind_ex (one_ex s h 20 (by omega)) fun b hb => ?_
  refine Ev.ite_ex (fun _ => ?_) fun _ => Ev.pure_ex (by show l.length ≤ 1048601; omega)
  refine Ev.bind_ex (n_ex b.2 hb 5 (by omega)) fun d hd => ?_
  have h0 := hd.2.1
  have h1 := hd.2.2
  refine Ev.ite_ex (fun _ => Ev.ite_ex (fun _ => Ev.ite_ex (fun _ => Ev.pure_ex (by simp; omega)) fun hn => absurd (show l.length + 1 ≤ 17592186044416 by omega) hn) fun hn => absurd (show d.1 < 5 by omega) hn) fun hn => absurd h0 hn
theorem some_ex (s : T_spec_l01Src) (h : SrcOk s) : ∃ r, Ev (fun k => spec_l01Src_some k s) r ∧ r.1.length ≤ 1048601 := by
  unfold spec_l01Src_some
  have hz0 := h.z0
  have hz1 := h.z1
  rw [wi (by omega) (by omega)]
  refine Ev.bind_ex (n_ex s h _ (by omega)) fun b hb => ?_
  have h0 := hb.2.1
  have h1 := hb.2.2
  refine Ev.bind_ex (points_ex b.2 hb.1 b.1 h0 (by omega)) fun c hc => ?_
  have hcl := hc.2
  refine Ev.bind_ex (one_ex c.2 hc.1 50 (by omega)) fun d hd => ?_
  refine Ev.ite_ex (fun _ => ?_) fun _ => some_j0_ex c.1 d.2 hd (by omega)
  refine Ev.bind_ex (n_ex d.2 hd 3 (by omega)) fun e he => ?_
  have h2 := he.2.1
  have h3 := he.2.2
  rw [wi (by omega) (by omega)]
  refine Ev.bind_ex (points_ex e.2 he.1 (299 + e.1) (by omega) (by omega)) fun q hq => ?_
  have hql := hq.2
  exact some_j0_ex q.1 q.2 hq.1 (by omega)
end Go.Proofs.Ytocfakbgefdgkaa
