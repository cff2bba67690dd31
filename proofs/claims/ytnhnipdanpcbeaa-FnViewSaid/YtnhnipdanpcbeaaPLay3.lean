/- A view laid out: the program's and the reference's answer; its places one after another. -/
import Derived.Test.YtnhnipdanpcbeaaPLay2
namespace Go.Proofs.Ytnhnipdanpcbeaa
open Go Eng
set_option linter.unusedVariables false
set_option linter.unusedSimpArgs false

def startL (C : Int) : T_impl_layout := ⟨C, 0, 0, [], false, []⟩
theorem start_inv {C : Int} (h : 2 ≤ C ∧ C ≤ 80) : Inv C 0 (startL C) where
  hC := h
  cols := rfl
  r0 := Int.le_refl _
  r1 := Int.le_refl _
  c0 := Int.le_refl _
  c1 := by show 0 ≤ C; omega
  num := Nat.le_refl _
  cells := fun s hs => nomatch hs
  last := fun hi => nomatch hi
  out := fun _ => rfl
def promptL (L : T_impl_layout) (ps : List Int) : T_impl_layout := ps.foldl (fun L p => pt L p 0) L
theorem prompt_inv {C : Int} : ∀ (ps : List Int) {n : Nat} {L : T_impl_layout}, Inv C n L → Inv C (n + 4 * ps.length) (promptL L ps)
  | [], n, L, h => h
  | p :: ps, n, L, h => by
    have := prompt_inv ps (pt_inv h p 0)
    have e : n + 4 + 4 * ps.length = n + 4 * (p :: ps).length := by rw [List.length_cons]; omega
    rw [e] at this; exact this
def spotL (L : T_impl_layout) : T_impl_Spot := if L.col = L.cols then ⟨L.row + 1, 0⟩ else ⟨L.row, L.col⟩
def snapL (L : T_impl_layout) : T_impl_layout := ⟨L.cols, L.row, L.col, L.cells, L.inRow, L.spots ++ [spotL L]⟩
theorem snap_inv {C : Int} {n : Nat} {L : T_impl_layout} (h : Inv C n L) : Inv C n (snapL L) where
  hC := h.hC
  cols := h.cols
  r0 := h.r0
  r1 := h.r1
  c0 := h.c0
  c1 := h.c1
  num := h.num
  cells := h.cells
  last := h.last
  out := h.out
theorem spot_eq {C : Int} {n : Nat} {L : T_impl_layout} (h : Inv C n L) (hn : n ≤ 4000000) : impl_layout_spot L = some (spotL L) := by
  have hr0 := h.r0; have hr1 := h.r1
  unfold impl_layout_spot spotL
  rw [wi (by omega) (by omega)]
  split <;> rfl
theorem specSpot_eq {C : Int} {n : Nat} {L : T_impl_layout} (h : Inv C n L) (hn : n ≤ 4000000) : spec_l09Pen_spot (pen L) = some (spotL L) := by
  have hr0 := h.r0; have hr1 := h.r1; have hc1 := h.c1; have hcols := h.cols
  obtain ⟨e1, e2, e3⟩ := pen_facts h hn
  unfold spec_l09Pen_spot spotL
  rw [e1, wi (by omega) (by omega)]
  have ec : (pen L).col = L.col := rfl
  have ecs : (pen L).cols = L.cols := rfl
  rw [ec, ecs]
  by_cases hc : L.col = L.cols
  · rw [if_pos hc, if_pos (by omega)]
  · rw [if_neg hc, if_neg (by omega)]
def attrOf (flag : Bool) (lo hi i : Int) : Int := if flag = true ∧ lo ≤ i ∧ i < hi then 1 else 0
def layC (flag : Bool) (lo hi : Int) : List Int → Int → T_impl_layout → T_impl_layout
  | [], _, L => L
  | p :: ps, i, L => layC flag lo hi ps (i + 1) (snapL (pt L p (attrOf flag lo hi i)))
theorem layC_inv {C : Int} (flag : Bool) (lo hi : Int) : ∀ (ps : List Int) (i : Int) {n : Nat} {L : T_impl_layout}, Inv C n L → Inv C (n + 4 * ps.length) (layC flag lo hi ps i L)
  | [], i, n, L, h => h
  | p :: ps, i, n, L, h => by
    have := layC_inv flag lo hi ps (i + 1) (snap_inv (pt_inv h p (attrOf flag lo hi i)))
    have e : n + 4 + 4 * ps.length = n + 4 * (p :: ps).length := by rw [List.length_cons]; omega
    rw [e] at this; exact this
theorem putL_spots (L : T_impl_layout) (q a : Int) : (putL L q a).spots = L.spots := by
  unfold putL placeL nextL; repeat' split
  all_goals rfl
theorem puts_spots (a : Int) : ∀ (qs : List Int) (L : T_impl_layout), (putsL L qs a).spots = L.spots
  | [], L => rfl
  | q :: qs, L => (puts_spots a qs (putL L q a)).trans (putL_spots L q a)
theorem pt_spots (L : T_impl_layout) (p a : Int) : (pt L p a).spots = L.spots := by
  unfold pt; split
  · rfl
  · exact puts_spots a _ L
def loOf (b : T_impl_Buf) : Int := mn b.Mark b.Cursor
def hiOf (b : T_impl_Buf) : Int := mx b.Mark b.Cursor
theorem mn_min (a b : Int) : mn a b = min a b := by unfold mn; split <;> omega
theorem mx_max (a b : Int) : mx a b = max a b := by unfold mx; split <;> omega
theorem implBuf {C : Int} (b : T_impl_Buf) (flag : Bool) (hb : b.Points.length ≤ 300) (hh0 : 0 ≤ hiOf b) (hh1 : hiOf b ≤ 300) : ∀ (m i n : Nat) (L : T_impl_layout), i + m = b.Points.length → Inv C n L → n + 4 * m ≤ 2000000 → L.spots.length + m ≤ 2000000 →
    Ev (fun k => impl_lay_l0 k (i : Int) L.cols L.row L.col L.cells L.inRow L.spots (mn b.Mark b.Cursor, mx b.Mark b.Cursor) b flag) (layC flag (loOf b) (hiOf b) (b.Points.drop i) (i : Int) (snapL L))
  | 0, i, n, L, hi, h, hn, hs => by
    refine Ev.succ ?_
    rw [List.drop_of_length_le (by omega)]
    refine Ev.ifn (by omega) (Ev.succ ?_)
    refine Ev.bind (Ev.eq (spot_eq (L := L) h (by omega))) ?_
    exact Ev.ifp (by simp; omega) (Ev.pure _)
  | m + 1, i, n, L, hi, h, hn, hs => by
    have hlt : i < b.Points.length := by omega
    have ew : IntKind.i64.wrap ((i : Int) + 1) = ((i + 1 : Nat) : Int) := by rw [wi (by omega) (by omega)]; omega
    have er : rdA 0 b.Points (i : Int) = b.Points[i] := rdA_get 0 b.Points i hlt
    rw [drop_cons hlt]
    refine Ev.succ ?_
    refine Ev.ifp (by omega) (Ev.ifp (by omega) ?_)
    refine Ev.bind (Ev.eq (spot_eq (L := L) h (by omega))) ?_
    refine Ev.ifp (by simp; omega) ?_
    rw [er, ew]
    have go : ∀ a, a = attrOf flag (loOf b) (hiOf b) (i : Int) → Ev (fun k => (impl_layout_point k (snapL L) b.Points[i] a).bind fun b8 => (impl_lay_l0 k ((i + 1 : Nat) : Int) b8.cols b8.row b8.col b8.cells b8.inRow b8.spots (mn b.Mark b.Cursor, mx b.Mark b.Cursor) b flag)) (layC flag (loOf b) (hiOf b) (b.Points[i] :: b.Points.drop (i + 1)) (i : Int) (snapL L)) := by
      rintro a rfl
      refine Ev.bind (point_ev (snap_inv h) (by omega) _ _) ?_
      have ih := implBuf (C := C) b flag hb hh0 hh1 m (i + 1) (n + 4) (pt (snapL L) b.Points[i] (attrOf flag (loOf b) (hiOf b) (i : Int))) (by omega) (pt_inv (snap_inv h) _ _) (by omega) (by rw [pt_spots]; show (L.spots ++ [_]).length + m ≤ 2000000; rw [List.length_append]; simp; omega)
      have e : (((i + 1 : Nat) : Int)) = (i : Int) + 1 := by omega
      unfold layC
      rw [← e]
      exact ih
    by_cases hf : flag = true
    · refine Ev.ifp hf ?_
      refine Ev.bind (Ev.eq (within_eq _ _ _)) ?_
      have e1 : IntKind.i64.wrap ((mn b.Mark b.Cursor, mx b.Mark b.Cursor).2 - 1) = hiOf b - 1 := wi (by show -9223372036854775808 ≤ hiOf b - 1; omega) (by show hiOf b - 1 ≤ 9223372036854775807; omega)
      rw [e1]
      by_cases hw : loOf b ≤ (i : Int) ∧ (i : Int) ≤ hiOf b - 1
      · refine Ev.ifp (decide_eq_true hw) (go 1 ?_)
        unfold attrOf; rw [if_pos ⟨hf, hw.1, by omega⟩]
      · refine Ev.ifn (fun hc => hw (of_decide_eq_true hc)) (go 0 ?_)
        unfold attrOf; rw [if_neg (by rintro ⟨_, h1, h2⟩; exact hw ⟨h1, by omega⟩)]
    · refine Ev.ifn hf (go 0 ?_)
      unfold attrOf; rw [if_neg (fun hc => hf hc.1)]
theorem specBuf {C : Int} (b : T_impl_Buf) (flag : Bool) (hb : b.Points.length ≤ 300) : ∀ (m i n : Nat) (L : T_impl_layout), i + m = b.Points.length → Inv C n L → n + 4 * m ≤ 2000000 → L.spots.length + m ≤ 2000000 →
    Ev (fun k => spec_l09Lay_l0 k L.spots (i : Int) (pen L).cols (pen L).rows (pen L).col (loOf b) (hiOf b) b flag) (pen (layC flag (loOf b) (hiOf b) (b.Points.drop i) (i : Int) L), (layC flag (loOf b) (hiOf b) (b.Points.drop i) (i : Int) L).spots)
  | 0, i, n, L, hi, h, hn, hs => by
    refine Ev.succ ?_
    rw [List.drop_of_length_le (by omega)]
    exact Ev.ifn (by omega) (Ev.pure _)
  | m + 1, i, n, L, hi, h, hn, hs => by
    have hlt : i < b.Points.length := by omega
    have ew : IntKind.i64.wrap ((i : Int) + 1) = ((i + 1 : Nat) : Int) := by rw [wi (by omega) (by omega)]; omega
    have er : rdA 0 b.Points (i : Int) = b.Points[i] := rdA_get 0 b.Points i hlt
    rw [drop_cons hlt]
    refine Ev.succ ?_
    refine Ev.ifp (by omega) ?_
    have go : ∀ a, a = attrOf flag (loOf b) (hiOf b) (i : Int) → Ev (fun k => spec_l09Lay_j1 k a (loOf b) (hiOf b) b flag L.spots (i : Int) (pen L).cols (pen L).rows (pen L).col) (pen (layC flag (loOf b) (hiOf b) (b.Points[i] :: b.Points.drop (i + 1)) (i : Int) L), (layC flag (loOf b) (hiOf b) (b.Points[i] :: b.Points.drop (i + 1)) (i : Int) L).spots) := by
      rintro a rfl
      refine Ev.succ ?_
      simp only [spec_l09Lay_j1]
      refine Ev.ifp (by omega) ?_
      rw [er, ew]
      refine Ev.bind (specPoint_ev h (by omega) _ _) ?_
      have h2 := pt_inv h b.Points[i] (attrOf flag (loOf b) (hiOf b) (i : Int))
      refine Ev.bind (Ev.eq (specSpot_eq h2 (by omega))) ?_
      refine Ev.ifp (by simp; omega) ?_
      have hs2 : (snapL (pt L b.Points[i] (attrOf flag (loOf b) (hiOf b) (i : Int)))).spots = L.spots ++ [spotL (pt L b.Points[i] (attrOf flag (loOf b) (hiOf b) (i : Int)))] := by
        show (pt L _ _).spots ++ [_] = _
        rw [pt_spots]
      have ih := specBuf (C := C) b flag hb m (i + 1) (n + 4) (snapL (pt L b.Points[i] (attrOf flag (loOf b) (hiOf b) (i : Int)))) (by omega) (snap_inv h2) (by omega) (by rw [hs2, List.length_append]; simp; omega)
      have e : (((i + 1 : Nat) : Int)) = (i : Int) + 1 := by omega
      unfold layC
      rw [← e, ← hs2]
      exact ih
    by_cases hf : flag = true
    · refine Ev.ifp hf ?_
      by_cases h1 : (i : Int) ≥ loOf b
      · refine Ev.ifp h1 ?_
        by_cases h2 : (i : Int) < hiOf b
        · refine Ev.ifp h2 (go 1 ?_)
          unfold attrOf; rw [if_pos ⟨hf, h1, h2⟩]
        · refine Ev.ifn h2 (go 0 ?_)
          unfold attrOf; rw [if_neg (fun hc => h2 hc.2.2)]
      · refine Ev.ifn h1 (go 0 ?_)
        unfold attrOf; rw [if_neg (fun hc => h1 hc.2.1)]
    · refine Ev.ifn hf (go 0 ?_)
      unfold attrOf; rw [if_neg (fun hc => hf hc.1)]
def layAll (p : List Int) (b : T_impl_Buf) (flag : Bool) (C : Int) : T_impl_layout := layC flag (loOf b) (hiOf b) b.Points 0 (snapL (promptL (startL C) p))
theorem implPrompt {C : Int} (p : List Int) (b : T_impl_Buf) (flag : Bool) {r : T_impl_layout} (hp : p.length ≤ 300) (hr : ∀ n, n ≤ 1000000 → Inv C n (promptL (startL C) p) → Ev (fun k => impl_lay_j0 k (promptL (startL C) p).cols (promptL (startL C) p).row (promptL (startL C) p).col (promptL (startL C) p).cells (promptL (startL C) p).inRow (promptL (startL C) p).spots b flag) r) :
    ∀ (m i n : Nat) (L : T_impl_layout), i + m = p.length → Inv C n L → n + 4 * m ≤ 1000000 → promptL L (p.drop i) = promptL (startL C) p → Ev (fun k => impl_lay_l1 k (i : Int) L.cols L.row L.col L.cells L.inRow L.spots p b flag) r
  | 0, i, n, L, hi, h, hn, e => by
    refine Ev.succ ?_
    rw [List.drop_of_length_le (by omega)] at e
    have e' : L = promptL (startL C) p := e
    subst e'
    exact Ev.ifn (by omega) (hr n (by omega) h)
  | m + 1, i, n, L, hi, h, hn, e => by
    have hlt : i < p.length := by omega
    have ew : IntKind.i64.wrap ((i : Int) + 1) = ((i + 1 : Nat) : Int) := by rw [wi (by omega) (by omega)]; omega
    have er : rdA 0 p (i : Int) = p[i] := rdA_get 0 p i hlt
    rw [drop_cons hlt] at e
    refine Ev.succ ?_
    refine Ev.ifp (by omega) (Ev.ifp (by omega) ?_)
    rw [er, ew]
    exact Ev.bind (point_ev h (by omega) _ _) (implPrompt p b flag hp hr m (i + 1) (n + 4) (pt L p[i] 0) (by omega) (pt_inv h _ _) (by omega) e)
theorem specPrompt {C : Int} (p : List Int) (b : T_impl_Buf) (flag : Bool) {r : T_spec_l09Pen × List T_impl_Spot} (hp : p.length ≤ 300) (hr : ∀ n, n ≤ 1000000 → Inv C n (promptL (startL C) p) → Ev (fun k => spec_l09Lay_j0 k (pen (promptL (startL C) p)).cols (pen (promptL (startL C) p)).rows (pen (promptL (startL C) p)).col b flag) r) :
    ∀ (m i n : Nat) (L : T_impl_layout), i + m = p.length → Inv C n L → n + 4 * m ≤ 1000000 → promptL L (p.drop i) = promptL (startL C) p → Ev (fun k => spec_l09Lay_l1 k (i : Int) (pen L).cols (pen L).rows (pen L).col p b flag) r
  | 0, i, n, L, hi, h, hn, e => by
    refine Ev.succ ?_
    rw [List.drop_of_length_le (by omega)] at e
    have e' : L = promptL (startL C) p := e
    subst e'
    exact Ev.ifn (by omega) (hr n (by omega) h)
  | m + 1, i, n, L, hi, h, hn, e => by
    have hlt : i < p.length := by omega
    have ew : IntKind.i64.wrap ((i : Int) + 1) = ((i + 1 : Nat) : Int) := by rw [wi (by omega) (by omega)]; omega
    have er : rdA 0 p (i : Int) = p[i] := rdA_get 0 p i hlt
    rw [drop_cons hlt] at e
    refine Ev.succ ?_
    refine Ev.ifp (by omega) (Ev.ifp (by omega) ?_)
    rw [er, ew]
    exact Ev.bind (specPoint_ev h (by omega) _ _) (specPrompt p b flag hp hr m (i + 1) (n + 4) (pt L p[i] 0) (by omega) (pt_inv h _ _) (by omega) e)
theorem putsL_nil (ps : List Int) (L : T_impl_layout) : (promptL L ps).spots = L.spots := by
  induction ps generalizing L with
  | nil => rfl
  | cons p ps ih => exact (ih (pt L p 0)).trans (pt_spots L p 0)
theorem implLay_ev {C : Int} (hC : 2 ≤ C ∧ C ≤ 80) (p : List Int) (b : T_impl_Buf) (flag : Bool) (hp : p.length ≤ 300) (hb : bufOk b = true) : Ev (fun k => impl_lay k p b flag C) (layAll p b flag C) := by
  unfold bufOk placeOk at hb
  simp only [Bool.and_eq_true, decide_eq_true_eq] at hb
  have hl := ptsOk_len hb.1
  refine implPrompt (C := C) p b flag hp (fun n hn h => ?_) p.length 0 0 (startL C) (by omega) (start_inv hC) (by omega) rfl
  refine Ev.succ (Ev.bind (Ev.pure _) ?_)
  have hsp : (promptL (startL C) p).spots.length = 0 := by rw [putsL_nil]; rfl
  exact implBuf b flag hl (by unfold hiOf; rw [mx_max]; omega) (by unfold hiOf; rw [mx_max]; omega) b.Points.length 0 n (promptL (startL C) p) (by omega) h (by omega) (by omega)
theorem specLay_ev {C : Int} (hC : 2 ≤ C ∧ C ≤ 80) (p : List Int) (b : T_impl_Buf) (flag : Bool) (hp : p.length ≤ 300) (hb : bufOk b = true) : Ev (fun k => spec_l09Lay k p b flag C) (pen (layAll p b flag C), (layAll p b flag C).spots) := by
  unfold bufOk placeOk at hb
  simp only [Bool.and_eq_true, decide_eq_true_eq] at hb
  have hl := ptsOk_len hb.1
  have e0 : spec_l09Pen_next ⟨C, [], 0⟩ = some (pen (startL C)) := by
    unfold spec_l09Pen_next
    rw [if_pos (by show 0 ≤ C; omega), if_pos (by show C ≤ 8796093022208; omega), if_pos (by simp)]
    rfl
  refine Ev.bind (Ev.eq e0) ?_
  refine specPrompt (C := C) p b flag hp (fun n hn h => ?_) p.length 0 0 (startL C) (by omega) (start_inv hC) (by omega) rfl
  have hsp : (promptL (startL C) p).spots = [] := putsL_nil _ _
  refine Ev.succ (Ev.bind (Ev.eq (specSpot_eq h (by omega))) ?_)
  have e1 : spec_l01Min b.Cursor b.Mark = some (loOf b) := by unfold spec_l01Min loOf; rw [mn_min]; split <;> congr 1 <;> omega
  have e2 : spec_l01Max b.Cursor b.Mark = some (hiOf b) := by unfold spec_l01Max hiOf; rw [mx_max]; split <;> congr 1 <;> omega
  refine Ev.bind (Ev.eq e1) (Ev.bind (Ev.eq e2) ?_)
  have e3 : [spotL (promptL (startL C) p)] = (snapL (promptL (startL C) p)).spots := by show _ = (promptL (startL C) p).spots ++ [_]; rw [hsp]; rfl
  rw [e3]
  exact specBuf b flag hl b.Points.length 0 n (snapL (promptL (startL C) p)) (by omega) (snap_inv h) (by omega) (by rw [← e3]; simp; omega)
end Go.Proofs.Ytnhnipdanpcbeaa
