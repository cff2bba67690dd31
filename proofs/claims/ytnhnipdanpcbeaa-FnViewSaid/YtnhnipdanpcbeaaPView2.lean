/- The rows of a view laid out; marks do not move it. -/
import Derived.Test.YtnhnipdanpcbeaaPView1
import Derived.Test.YtnhnipdanpcbeaaPFnSpotsLaw
namespace Go.Proofs.Ytnhnipdanpcbeaa
open Go Eng
set_option linter.unusedVariables false
set_option linter.unusedSimpArgs false

def PtGood (q : Int) : Prop := ptOk q = true ∧ ¬ ctl q
theorem Rows.put {C : Int} {n : Nat} {L : T_impl_layout} (h : Inv C n L) (hr : Rows C L) (q a : Int) (hp : PtGood q) (ha : 0 ≤ a ∧ a ≤ 3) : Rows C (putL L q a) := by
  unfold putL
  split
  · rename_i hq
    split
    · rename_i hi
      split
      · exact hr.mark h hi q hq hp (by omega)
      · exact hr
    · exact hr
  · rename_i hq
    have hq' : W q = 1 ∨ W q = 2 := by rcases W_range q with g | g | g; exact absurd g hq; exact .inl g; exact .inr g
    have hC := h.hC; have hc := h.cols
    split
    · exact (hr.next h).place h.next q a hq' (by show 0 + W q ≤ C; omega) hp ha
    · exact hr.place h q a hq' (by omega) hp ha
theorem Rows.puts {C : Int} (a : Int) (ha : 0 ≤ a ∧ a ≤ 3) : ∀ (qs : List Int) {n : Nat} {L : T_impl_layout}, Inv C n L → Rows C L → (∀ q ∈ qs, PtGood q) → Rows C (putsL L qs a)
  | [], n, L, h, hr, hq => hr
  | q :: qs, n, L, h, hr, hq => Rows.puts a ha qs (putL_inv h q a) (hr.put h q a (hq q (.head _)) ha) fun x hx => hq x (.tail _ hx)
theorem xor_ok : ∀ p : Nat, p < 32 → (64 ≤ bitsV .xor .i64 (p : Int) 64 ∧ bitsV .xor .i64 (p : Int) 64 ≤ 95) := by decide +kernel
theorem xor_127 : bitsV .xor .i64 127 64 = 63 := by decide +kernel
theorem small_good {q : Int} (h0 : 33 ≤ q) (h1 : q ≤ 126) : PtGood q := by
  refine ⟨?_, ?_⟩
  · unfold ptOk; simp; omega
  · unfold ctl; omega
theorem shownq_good {p : Int} (h : ptOk p = true) : ∀ q ∈ shownq p, PtGood q := by
  have h0 : 0 ≤ p := by unfold ptOk at h; simp only [Bool.and_eq_true, decide_eq_true_eq] at h; omega
  unfold shownq
  split
  · rename_i hc
    intro q hq
    rcases List.mem_cons.1 hq with e | e
    · rw [e]; exact small_good (by decide) (by decide)
    · rw [List.mem_singleton.1 e]
      by_cases h32 : p < 32
      · have := xor_ok p.toNat (by omega)
        rw [show ((p.toNat : Nat) : Int) = p by omega] at this
        exact small_good (by omega) (by omega)
      · have : p = 127 := by omega
        rw [this, xor_127]; exact small_good (by decide) (by decide)
  · rename_i hc
    intro q hq
    rw [List.mem_singleton.1 hq]; exact ⟨h, hc⟩
theorem Rows.pt {C : Int} {n : Nat} {L : T_impl_layout} (h : Inv C n L) (hr : Rows C L) (p a : Int) (hp : ptOk p = true) (ha : 0 ≤ a ∧ a ≤ 3) : Rows C (pt L p a) := by
  unfold Go.Proofs.Ytnhnipdanpcbeaa.pt
  split
  · exact hr.next h
  · exact Rows.puts a ha _ h hr (shownq_good hp)
theorem Rows.start {C : Int} (hC : 2 ≤ C ∧ C ≤ 80) : Rows C (startL C) := by
  refine ⟨fun r a b => absurd b (by show ¬ r < 0; omega), ?_, fun s hs => nomatch hs⟩
  refine RowP.zero (by omega) fun c _ _ => ?_
  exact blank_get C c
theorem Rows.prompt {C : Int} : ∀ (ps : List Int) {n : Nat} {L : T_impl_layout}, Inv C n L → Rows C L → (∀ p ∈ ps, ptOk p = true) → Rows C (promptL L ps)
  | [], n, L, h, hr, hq => hr
  | p :: ps, n, L, h, hr, hq => Rows.prompt ps (pt_inv h p 0) (hr.pt h p 0 (hq p (.head _)) ⟨by decide, by decide⟩) fun x hx => hq x (.tail _ hx)
theorem Rows.snap {C : Int} {L : T_impl_layout} (hr : Rows C L) : Rows C (snapL L) := ⟨hr.old, hr.now, hr.good⟩
theorem attr_rng (flag : Bool) (lo hi i : Int) : 0 ≤ attrOf flag lo hi i ∧ attrOf flag lo hi i ≤ 3 := by unfold attrOf; split <;> omega
theorem Rows.layC {C : Int} (flag : Bool) (lo hi : Int) : ∀ (ps : List Int) (i : Int) {n : Nat} {L : T_impl_layout}, Inv C n L → Rows C L → (∀ p ∈ ps, ptOk p = true) → Rows C (layC flag lo hi ps i L)
  | [], i, n, L, h, hr, hq => hr
  | p :: ps, i, n, L, h, hr, hq => Rows.layC flag lo hi ps (i + 1) (snap_inv (pt_inv h p _)) (hr.pt h p _ (hq p (.head _)) (attr_rng flag lo hi i)).snap fun x hx => hq x (.tail _ hx)
theorem layAll_rows {C : Int} (hC : 2 ≤ C ∧ C ≤ 80) (p : List Int) (b : T_impl_Buf) (flag : Bool) (hp : ptsOk p = true) (hb : ptsOk b.Points = true) : Rows C (layAll p b flag C) := by
  have hp' : ∀ x ∈ p, ptOk x = true := by unfold ptsOk at hp; simp only [Bool.and_eq_true, List.all_eq_true] at hp; exact hp.2
  have hb' : ∀ x ∈ b.Points, ptOk x = true := by unfold ptsOk at hb; simp only [Bool.and_eq_true, List.all_eq_true] at hb; exact hb.2
  exact Rows.layC flag _ _ b.Points 0 (snap_inv (prompt_inv p (start_inv hC))) (Rows.prompt p (start_inv hC) (Rows.start hC) hp').snap hb'
/-! marks do not move what is laid out -/
structure Sim (L M : T_impl_layout) : Prop where
  cols : L.cols = M.cols
  row : L.row = M.row
  col : L.col = M.col
  inRow : L.inRow = M.inRow
  spots : L.spots = M.spots
theorem Sim.put {L M : T_impl_layout} (h : Sim L M) (q a b : Int) : Sim (putL L q a) (putL M q b) := by
  have hc := h.cols; have hr := h.row; have ho := h.col; have hi := h.inRow; have hs := h.spots
  unfold putL
  by_cases h0 : W q = 0
  · rw [if_pos h0, if_pos h0]
    have key : ∀ N : T_impl_layout, Sim (if N.inRow = true then if ((lastOf N.cells).cell.Points.length : Int) < 4 then ⟨N.cols, N.row, N.col, N.cells.set ((N.cells.length : Int) - 1).toNat (ext (lastOf N.cells) q), N.inRow, N.spots⟩ else N else N) N := fun N => by
      repeat' split
      all_goals exact ⟨rfl, rfl, rfl, rfl, rfl⟩
    have k1 := key L; have k2 := key M
    exact ⟨by rw [k1.cols, k2.cols, hc], by rw [k1.row, k2.row, hr], by rw [k1.col, k2.col, ho], by rw [k1.inRow, k2.inRow, hi], by rw [k1.spots, k2.spots, hs]⟩
  · rw [if_neg h0, if_neg h0, hc, ho]
    split
    · exact ⟨hc, by show L.row + 1 = M.row + 1; omega, rfl, rfl, hs⟩
    · exact ⟨hc, hr, by show L.col + W q = M.col + W q; omega, rfl, hs⟩
theorem Sim.puts (a b : Int) : ∀ (qs : List Int) {L M : T_impl_layout}, Sim L M → Sim (putsL L qs a) (putsL M qs b)
  | [], L, M, h => h
  | q :: qs, L, M, h => Sim.puts a b qs (h.put q a b)
theorem Sim.pt {L M : T_impl_layout} (h : Sim L M) (p a b : Int) : Sim (Go.Proofs.Ytnhnipdanpcbeaa.pt L p a) (Go.Proofs.Ytnhnipdanpcbeaa.pt M p b) := by
  unfold Go.Proofs.Ytnhnipdanpcbeaa.pt
  split
  · exact ⟨h.cols, by show L.row + 1 = M.row + 1; rw [h.row], rfl, rfl, h.spots⟩
  · exact Sim.puts a b _ h
theorem Sim.spot {L M : T_impl_layout} (h : Sim L M) : spotL L = spotL M := by unfold spotL; rw [h.cols, h.row, h.col]
theorem Sim.snap {L M : T_impl_layout} (h : Sim L M) : Sim (snapL L) (snapL M) := ⟨h.cols, h.row, h.col, h.inRow, by show L.spots ++ [_] = M.spots ++ [_]; rw [h.spots, h.spot]⟩
theorem Sim.layC (f g : Bool) (lo hi : Int) : ∀ (ps : List Int) (i : Int) {L M : T_impl_layout}, Sim L M → Sim (layC f lo hi ps i L) (Go.Proofs.Ytnhnipdanpcbeaa.layC g lo hi ps i M)
  | [], i, L, M, h => h
  | p :: ps, i, L, M, h => Sim.layC f g lo hi ps (i + 1) (h.pt p _ _).snap
theorem layAll_sim (p : List Int) (b : T_impl_Buf) (f g : Bool) (C : Int) : Sim (layAll p b f C) (layAll p b g C) := Sim.layC f g _ _ _ _ ⟨rfl, rfl, rfl, rfl, rfl⟩
end Go.Proofs.Ytnhnipdanpcbeaa
