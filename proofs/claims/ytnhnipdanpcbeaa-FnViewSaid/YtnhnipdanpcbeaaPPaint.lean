/- Cells painted on rows. -/
import Derived.Test.YtnhnipdanpcbeaaPWidth
namespace Go.Proofs.Ytnhnipdanpcbeaa
open Go Eng
set_option linter.unusedVariables false
set_option linter.unusedSimpArgs false

def wide (c : T_impl_Cell) : Bool := match c.Points with
  | [] => false
  | q :: _ => decide (W q = 2)
def put1 (R : List T_impl_Cell) (s : T_impl_seen) : List T_impl_Cell :=
  if wide s.cell = true then (R.set s.col.toNat s.cell).set (s.col + 1).toNat ⟨[], s.cell.Attr⟩ else R.set s.col.toNat s.cell
def paint1 (rows : List (List T_impl_Cell)) (s : T_impl_seen) : List (List T_impl_Cell) := rows.set s.row.toNat (put1 (rdA [] rows s.row) s)
def blank (C : Int) : List T_impl_Cell := List.replicate C.toNat z_impl_Cell
def paint (C : Int) (n : Nat) (cs : List T_impl_seen) : List (List T_impl_Cell) := cs.foldl paint1 (List.replicate n (blank C))
theorem put1_len (R : List T_impl_Cell) (s : T_impl_seen) : (put1 R s).length = R.length := by
  unfold put1; split <;> simp only [List.length_set]
theorem paint1_len (rows : List (List T_impl_Cell)) (s : T_impl_seen) : (paint1 rows s).length = rows.length := by
  unfold paint1; simp only [List.length_set]
theorem foldl_len : ∀ (cs : List T_impl_seen) (rows : List (List T_impl_Cell)), (cs.foldl paint1 rows).length = rows.length
  | [], rows => rfl
  | s :: cs, rows => by rw [List.foldl_cons, foldl_len cs, paint1_len]
theorem paint_len (C : Int) (n : Nat) (cs : List T_impl_seen) : (paint C n cs).length = n := by
  unfold paint; rw [foldl_len, List.length_replicate]
def Even (c : Nat) (rows : List (List T_impl_Cell)) : Prop := ∀ R ∈ rows, R.length = c
theorem rdA_lt {α : Type} (d : α) (l : List α) (i : Int) (h0 : 0 ≤ i) (h1 : i < (l.length : Int)) : rdA d l i = l[i.toNat]'(by omega) := by
  simp [rdA, List.getD_eq_getElem?_getD, List.getElem?_eq_getElem (show i.toNat < l.length by omega)]
theorem Even.paint1 {c : Nat} {rows : List (List T_impl_Cell)} (h : Even c rows) (s : T_impl_seen) : Even c (paint1 rows s) := by
  intro R hR
  unfold Go.Proofs.Ytnhnipdanpcbeaa.paint1 at hR
  by_cases hs : s.row.toNat < rows.length
  · rcases List.mem_or_eq_of_mem_set hR with e | e
    · exact h R e
    · rw [e, put1_len]
      have : rdA [] rows s.row = rows[s.row.toNat] := by simp [rdA, List.getD_eq_getElem?_getD, List.getElem?_eq_getElem hs]
      rw [this]; exact h _ (List.getElem_mem hs)
  · rw [List.set_eq_of_length_le (by omega)] at hR
    exact h R hR
theorem Even.foldl {c : Nat} : ∀ (cs : List T_impl_seen) {rows : List (List T_impl_Cell)}, Even c rows → Even c (cs.foldl Go.Proofs.Ytnhnipdanpcbeaa.paint1 rows)
  | [], rows, h => h
  | s :: cs, rows, h => Even.foldl cs (h.paint1 s)
theorem paint_even (C : Int) (n : Nat) (cs : List T_impl_seen) : Even C.toNat (paint C n cs) := by
  refine Even.foldl cs fun R hR => ?_
  rw [(List.mem_replicate.1 hR).2]; unfold blank; exact List.length_replicate
theorem paint_row {C : Int} {n : Nat} {cs : List T_impl_seen} {r : Int} (hC : 0 ≤ C) (h0 : 0 ≤ r) (h1 : r < (n : Int)) : ((rdA [] (paint C n cs) r).length : Int) = C := by
  have hl := paint_len C n cs
  rw [rdA_lt [] _ r h0 (by omega), paint_even C n cs _ (List.getElem_mem _)]
  omega
theorem rdA_left {α : Type} (d : α) (l : List α) (b : α) (i : Int) (h : i.toNat < l.length) : rdA d (l ++ [b]) i = rdA d l i := by
  simp [rdA, List.getD_eq_getElem?_getD, List.getElem?_append_left h]
theorem foldl_next (b : List T_impl_Cell) : ∀ (cs : List T_impl_seen) (rows : List (List T_impl_Cell)), (∀ s ∈ cs, s.row.toNat < rows.length) → cs.foldl paint1 (rows ++ [b]) = cs.foldl paint1 rows ++ [b]
  | [], rows, h => rfl
  | s :: cs, rows, h => by
    have hs := h s (.head _)
    have e : paint1 (rows ++ [b]) s = paint1 rows s ++ [b] := by
      unfold paint1; rw [rdA_left _ _ _ _ hs, List.set_append_left _ _ hs]
    rw [List.foldl_cons, List.foldl_cons, e]
    exact foldl_next b cs (paint1 rows s) fun t ht => by rw [paint1_len]; exact h t (.tail _ ht)
theorem paint_next (C : Int) (n : Nat) (cs : List T_impl_seen) (h : ∀ s ∈ cs, s.row.toNat < n) : paint C (n + 1) cs = paint C n cs ++ [blank C] := by
  unfold paint
  rw [List.replicate_succ', foldl_next _ _ _ (by simpa using h)]
theorem paint_snoc (C : Int) (n : Nat) (cs : List T_impl_seen) (s : T_impl_seen) : paint C n (cs ++ [s]) = paint1 (paint C n cs) s := by
  unfold paint; rw [List.foldl_append]; rfl
theorem rdA_set_ne {α : Type} (d : α) (l : List α) (x : α) (i j : Int) (h0 : 0 ≤ i) (h1 : 0 ≤ j) (h : i ≠ j) : rdA d (l.set i.toNat x) j = rdA d l j := by
  simp only [rdA, List.getD_eq_getElem?_getD]
  rw [List.getElem?_set_ne (by omega)]
theorem paint_last (C : Int) (n : Nat) (cs : List T_impl_seen) (s : T_impl_seen) (h0 : 0 ≤ s.row) (h1 : s.row < (n : Int)) : rdA [] (paint C n (cs ++ [s])) s.row = put1 (rdA [] (paint C n cs) s.row) s := by
  rw [paint_snoc]; unfold paint1
  exact rdA_set _ _ h0 (by rw [paint_len]; exact h1)
theorem put1_at (R : List T_impl_Cell) (s : T_impl_seen) (h0 : 0 ≤ s.col) (h1 : s.col < (R.length : Int)) : rdA z_impl_Cell (put1 R s) s.col = s.cell := by
  unfold put1
  split
  · rw [rdA_set_ne _ _ _ _ _ (by omega) h0 (by omega)]; exact rdA_set _ _ h0 h1
  · exact rdA_set _ _ h0 h1
theorem put1_half (R : List T_impl_Cell) (s : T_impl_seen) (h : wide s.cell = true) (h0 : 0 ≤ s.col) (h1 : s.col + 1 < (R.length : Int)) : rdA z_impl_Cell (put1 R s) (s.col + 1) = ⟨[], s.cell.Attr⟩ := by
  unfold put1
  rw [if_pos h]
  exact rdA_set _ _ (by omega) (by rw [List.length_set]; exact h1)
theorem put1_left (R : List T_impl_Cell) (s : T_impl_seen) (j : Int) (h0 : 0 ≤ j) (h1 : j < s.col) : rdA z_impl_Cell (put1 R s) j = rdA z_impl_Cell R j := by
  unfold put1
  split
  · rw [rdA_set_ne _ _ _ _ _ (by omega) h0 (by omega), rdA_set_ne _ _ _ _ _ (by omega) h0 (by omega)]
  · rw [rdA_set_ne _ _ _ _ _ (by omega) h0 (by omega)]
/-- A cell painted anew, with the same head. -/
theorem put1_again (R : List T_impl_Cell) (s : T_impl_seen) (c : T_impl_Cell) (hw : wide c = wide s.cell) (ha : c.Attr = s.cell.Attr) (h0 : 0 ≤ s.col) : (put1 R s).set s.col.toNat c = put1 R ⟨c, s.row, s.col⟩ := by
  unfold put1
  dsimp only
  rw [hw, ha]
  split
  · rw [List.set_comm _ _ (show (s.col + 1).toNat ≠ s.col.toNat by omega), List.set_set]
  · rw [List.set_set]
theorem paint_again (C : Int) (n : Nat) (cs : List T_impl_seen) (s : T_impl_seen) (c : T_impl_Cell) (hw : wide c = wide s.cell) (ha : c.Attr = s.cell.Attr) (h0 : 0 ≤ s.col) (hr0 : 0 ≤ s.row) (hr1 : s.row < (n : Int)) :
    (paint C n (cs ++ [s])).set s.row.toNat ((rdA [] (paint C n (cs ++ [s])) s.row).set s.col.toNat c) = paint C n (cs ++ [⟨c, s.row, s.col⟩]) := by
  rw [paint_last C n cs s hr0 hr1, put1_again _ _ _ hw ha h0, paint_snoc, paint_snoc]
  unfold paint1
  rw [List.set_set]
end Go.Proofs.Ytnhnipdanpcbeaa
