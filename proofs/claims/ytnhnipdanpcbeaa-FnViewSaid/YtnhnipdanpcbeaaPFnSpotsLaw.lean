/- 'laws.FnSpots' answers true, for every row of bytes. -/
import Derived.Test.YtnhnipdanpcbeaaPLay3
namespace Go.Proofs.Ytnhnipdanpcbeaa
open Go Eng
set_option linter.unusedVariables false
set_option linter.unusedSimpArgs false

def leS (a b : T_impl_Spot) : Prop := a.Line < b.Line ∨ (a.Line = b.Line ∧ a.Col ≤ b.Col)
theorem leS.refl (a : T_impl_Spot) : leS a a := .inr ⟨rfl, Int.le_refl _⟩
theorem leS.trans {a b c : T_impl_Spot} (h1 : leS a b) (h2 : leS b c) : leS a c := by unfold leS at *; omega
theorem next_le {C : Int} {n : Nat} {L : T_impl_layout} (h : Inv C n L) : leS (spotL L) (spotL (nextL L)) := by
  have hC := h.hC; have hcols := h.cols
  have e : spotL (nextL L) = ⟨L.row + 1, 0⟩ := by
    unfold spotL nextL; exact if_neg (by show ¬ (0 : Int) = L.cols; omega)
  rw [e]; unfold spotL leS
  split
  · exact .inr ⟨rfl, Int.le_refl _⟩
  · exact .inl (by show L.row < L.row + 1; omega)
theorem place_le {C : Int} {n : Nat} {L : T_impl_layout} (h : Inv C n L) (q a : Int) (hq : W q = 1 ∨ W q = 2) (hc : L.col + W q ≤ C) : leS (spotL L) (spotL (placeL L q a)) := by
  have hC := h.hC; have hcols := h.cols
  have e : spotL L = ⟨L.row, L.col⟩ := by unfold spotL; exact if_neg (by omega)
  rw [e]; unfold spotL leS placeL
  dsimp only
  split
  · exact .inl (by show L.row < L.row + 1; omega)
  · exact .inr ⟨rfl, by show L.col ≤ L.col + W q; omega⟩
theorem put_le {C : Int} {n : Nat} {L : T_impl_layout} (h : Inv C n L) (q a : Int) : leS (spotL L) (spotL (putL L q a)) := by
  unfold putL
  split
  · repeat' split
    all_goals exact leS.refl _
  · rename_i hq
    have hq' : W q = 1 ∨ W q = 2 := by rcases W_range q with g | g | g; exact absurd g hq; exact .inl g; exact .inr g
    have hC := h.hC; have hc := h.cols
    split
    · exact (next_le h).trans (place_le h.next q a hq' (by show 0 + W q ≤ C; omega))
    · exact place_le h q a hq' (by omega)
theorem puts_le {C : Int} (a : Int) : ∀ (qs : List Int) {n : Nat} {L : T_impl_layout}, Inv C n L → leS (spotL L) (spotL (putsL L qs a))
  | [], n, L, h => leS.refl _
  | q :: qs, n, L, h => (put_le h q a).trans (puts_le a qs (putL_inv h q a))
theorem pt_le {C : Int} {n : Nat} {L : T_impl_layout} (h : Inv C n L) (p a : Int) : leS (spotL L) (spotL (pt L p a)) := by
  unfold pt; split
  · exact next_le h
  · exact puts_le a _ h
structure Sp (C : Int) (m : Nat) (L : T_impl_layout) : Prop where
  pw : L.spots.Pairwise leS
  up : ∀ s ∈ L.spots, leS s (spotL L)
  rng : ∀ s ∈ L.spots, 0 ≤ s.Line ∧ s.Line ≤ 2000000 ∧ 0 ≤ s.Col ∧ s.Col < C
  len : L.spots.length = m + 1
  ne : ∃ init, L.spots = init ++ [spotL L]
theorem spot_rng {C : Int} {n : Nat} {L : T_impl_layout} (h : Inv C n L) (hn : n ≤ 1000000) : 0 ≤ (spotL L).Line ∧ (spotL L).Line ≤ 2000000 ∧ 0 ≤ (spotL L).Col ∧ (spotL L).Col < C := by
  have hC := h.hC; have hcols := h.cols; have hr0 := h.r0; have hr1 := h.r1; have hc0 := h.c0; have hc1 := h.c1
  unfold spotL
  split
  · exact ⟨by show 0 ≤ L.row + 1; omega, by show L.row + 1 ≤ 2000000; omega, Int.le_refl _, by show 0 < C; omega⟩
  · exact ⟨hr0, by show L.row ≤ 2000000; omega, hc0, by show L.col < C; omega⟩
theorem layC_sp {C : Int} (flag : Bool) (lo hi : Int) : ∀ (ps : List Int) (i : Int) {n m : Nat} {L : T_impl_layout}, Inv C n L → Sp C m L → n + 4 * ps.length ≤ 1000000 → Sp C (m + ps.length) (layC flag lo hi ps i L)
  | [], i, n, m, L, h, hs, hn => hs
  | p :: ps, i, n, m, L, h, hs, hn => by
    rw [List.length_cons] at hn
    have h2 := pt_inv h p (attrOf flag lo hi i)
    have hle := pt_le h p (attrOf flag lo hi i)
    have hr := spot_rng h2 (by omega)
    have hsp := pt_spots L p (attrOf flag lo hi i)
    have e1 : (snapL (pt L p (attrOf flag lo hi i))).spots = L.spots ++ [spotL (pt L p (attrOf flag lo hi i))] := by
      show (pt L _ _).spots ++ [_] = _
      rw [hsp]
    have e2 : spotL (snapL (pt L p (attrOf flag lo hi i))) = spotL (pt L p (attrOf flag lo hi i)) := rfl
    have hs' : Sp C (m + 1) (snapL (pt L p (attrOf flag lo hi i))) := by
      refine ⟨?_, ?_, ?_, ?_, ⟨L.spots, by rw [e1, e2]⟩⟩
      · rw [e1, List.pairwise_append]
        refine ⟨hs.pw, List.pairwise_singleton _ _, fun a ha b hb => ?_⟩
        rw [List.mem_singleton.1 hb]; exact (hs.up a ha).trans hle
      · rw [e1, e2]
        intro s hm
        rcases List.mem_append.1 hm with e | e
        · exact (hs.up s e).trans hle
        · rw [List.mem_singleton.1 e]; exact leS.refl _
      · rw [e1]
        intro s hm
        rcases List.mem_append.1 hm with e | e
        · exact hs.rng s e
        · rw [List.mem_singleton.1 e]; exact hr
      · rw [e1, List.length_append, hs.len]; rfl
    have := layC_sp flag lo hi ps (i + 1) (snap_inv h2) hs' (by omega)
    have e : m + 1 + ps.length = m + (p :: ps).length := by rw [List.length_cons]; omega
    rw [e] at this; exact this
theorem layAll_sp {C : Int} (hC : 2 ≤ C ∧ C ≤ 80) (p : List Int) (b : T_impl_Buf) (flag : Bool) (hp : p.length ≤ 300) (hb : b.Points.length ≤ 300) : Sp C b.Points.length (layAll p b flag C) := by
  have h := prompt_inv p (start_inv hC)
  have hsp : (promptL (startL C) p).spots = [] := putsL_nil _ _
  have e1 : (snapL (promptL (startL C) p)).spots = [spotL (promptL (startL C) p)] := by show (promptL (startL C) p).spots ++ [_] = _; rw [hsp]; rfl
  have hr := spot_rng h (by omega)
  have hs : Sp C 0 (snapL (promptL (startL C) p)) := by
    refine ⟨by rw [e1]; exact List.pairwise_singleton _ _, ?_, ?_, by rw [e1]; rfl, ⟨[], by rw [e1]; rfl⟩⟩
    · rw [e1]; intro s hm; rw [List.mem_singleton.1 hm]; exact leS.refl _
    · rw [e1]; intro s hm; rw [List.mem_singleton.1 hm]; exact hr
  have := layC_sp flag (loOf b) (hiOf b) b.Points 0 (snap_inv h) hs (by omega)
  rw [Nat.zero_add] at this
  exact this
theorem layAll_inv {C : Int} (hC : 2 ≤ C ∧ C ≤ 80) (p : List Int) (b : T_impl_Buf) (flag : Bool) (hp : p.length ≤ 300) (hb : b.Points.length ≤ 300) : Inv C 10000 (layAll p b flag C) :=
  (layC_inv flag (loOf b) (hiOf b) b.Points 0 (snap_inv (prompt_inv p (start_inv hC)))).mono (by omega)
theorem colsOk_of {c : Int} (h : colsOk c = true) : 2 ≤ c ∧ c ≤ 80 := by unfold colsOk at h; exact of_decide_eq_true h
theorem viewed_of {p : List Int} {b : T_impl_Buf} {c : Int} (h : viewedOk p b c = true) : ptsOk p = true ∧ bufOk b = true ∧ colsOk c = true ∧ (2 ≤ c ∧ c ≤ 80) ∧ p.length ≤ 300 ∧ b.Points.length ≤ 300 := by
  unfold viewedOk at h
  simp only [Bool.and_eq_true] at h
  have hb := h.2.1
  unfold bufOk at hb
  simp only [Bool.and_eq_true] at hb
  exact ⟨h.1, h.2.1, h.2.2, colsOk_of h.2.2, ptsOk_len h.1, ptsOk_len hb.1⟩
def rowsM (p : List Int) (b : T_impl_Buf) (c : Int) : Int := if viewedOk p b c = true then (spotL (layAll p b false c)).Line + 1 else 0
theorem implRows_ev (p : List Int) (b : T_impl_Buf) (c : Int) : Ev (fun k => impl_ViewRows k p b c) (rowsM p b c) := by
  unfold impl_ViewRows rowsM
  refine Ev.bind (viewed_ev p b c) ?_
  by_cases h : viewedOk p b c = true
  · rw [if_pos h]
    obtain ⟨h1, h2, h3, h4, h5, h6⟩ := viewed_of h
    have hi := layAll_inv h4 p b false h5 h6
    have hr := spot_rng hi (by omega)
    refine Ev.ifp h (Ev.bind (implLay_ev h4 p b false h5 h2) (Ev.bind (Ev.eq (spot_eq hi (by omega))) ?_))
    rw [wi (by omega) (by omega)]; exact Ev.pure _
  · rw [if_neg h]; exact Ev.ifn h (Ev.pure _)
theorem snoc_last {α : Type} (d : α) (init : List α) (x : α) : rdA d (init ++ [x]) (((init ++ [x]).length : Int) - 1) = x := by
  have : ((((init ++ [x]).length : Nat) : Int) - 1) = ((init.length : Nat) : Int) := by simp
  rw [this, rdA_get _ _ _ (by simp)]; simp
theorem implSpot_ev (p : List Int) (b : T_impl_Buf) (c : Int) (h : viewedOk p b c = true) (i : Nat) (hi : i ≤ b.Points.length) : Ev (fun k => impl_ViewSpot k p b (i : Int) c) (rdA z_impl_Spot (layAll p b false c).spots (i : Int)) := by
  obtain ⟨h1, h2, h3, h4, h5, h6⟩ := viewed_of h
  have hlen := (layAll_sp h4 p b false h5 h6).len
  unfold impl_ViewSpot
  refine Ev.bind (viewed_ev p b c) (Ev.ifp h ?_)
  have ep : impl_Buf_isPlace b (i : Int) = some true := by
    unfold impl_Buf_isPlace impl_size_int64
    rw [Option.bind_some, within_eq, decide_eq_true (show 0 ≤ (i : Int) ∧ (i : Int) ≤ (b.Points.length : Int) by omega)]; rfl
  refine Ev.bind (Ev.eq ep) ?_
  refine Ev.succ ?_
  simp only [impl_ViewSpot_j1, Bool.not_true, Bool.false_eq_true, if_false]
  refine Ev.succ ?_
  refine Ev.bind (implLay_ev h4 p b false h5 h2) ?_
  exact Ev.ifp (by omega) (Ev.ifp (by omega) (Ev.pure _))
theorem lwCopy_eq (l : List Int) (h : Short l) : laws_lwCopy l = some l := by
  unfold laws_lwCopy Short at *
  rw [if_pos (by simp; omega), List.nil_append]
end Go.Proofs.Ytnhnipdanpcbeaa
