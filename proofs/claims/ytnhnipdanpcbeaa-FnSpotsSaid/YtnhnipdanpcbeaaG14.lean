import Derived.Test.YtnhnipdanpcbeaaG13
namespace Go.Proofs.Ytnhnipdanpcbeaa
open Go Eng
set_option linter.unusedVariables false
set_option linter.unusedSimpArgs false
/-! ### loop.example/g00146/laws.FnSpots: function 3 -/
def laws_FnSpots_l0 : Nat → Int → Int → Int → ((List Int) × T_impl_Buf × Int) → Int → Option Bool
  | 0, _, _, _, _, _ => none
  | k + 1, x51, x52, x53, b1, b3 => if x51 ≤ (b1.2.1.Points.length : Int) then ((laws_lwCopy b1.1).bind fun b5 => ((impl_ViewSpot k b5 b1.2.1 x51 b1.2.2).bind fun b6 => ((spec_ViewSpot k b1.1 b1.2.1 x51 b1.2.2).bind fun b7 => (if ((b6.Line == b7.Line) && ((b6.Col == b7.Col) && true)) = true then (if b6.Line < x52 then (some false) else (if b6.Line = x52 then (if b6.Col < x53 then (some false) else (if b6.Col ≥ b1.2.2 then (some false) else (laws_FnSpots_l0 k (IntKind.i64.wrap (x51 + 1)) b6.Line b6.Col b1 b3))) else (if b6.Col ≥ b1.2.2 then (some false) else (laws_FnSpots_l0 k (IntKind.i64.wrap (x51 + 1)) b6.Line b6.Col b1 b3)))) else (some false))))) else (some (x52 == (IntKind.i64.wrap (b3 - 1))))
def laws_FnSpots (k : Nat) (p1 : List Int) : Option Bool := if (p1.length : Int) > 1048576 then (some true) else ((spec_DrawViewRows k p1).bind fun b1 => ((laws_lwCopy b1.1).bind fun b2 => ((impl_ViewRows k b2 b1.2.1 b1.2.2).bind fun b3 => ((spec_ViewRows k b1.1 b1.2.1 b1.2.2).bind fun b4 => (if b3 = b4 then (if b3 = 0 then (some true) else (laws_FnSpots_l0 k 0 0 0 b1 b3)) else (some false))))))
set_option maxHeartbeats 4000000 in
set_option maxRecDepth 100000 in
theorem laws_FnSpots.calls {k : Nat} {p1 : List Int} {r : Bool} {I0 : Imm} {A2 : Option Addr} {c3 : Nat} (H : laws_FnSpots k p1 = some r) (hr4 : Rd (Kd.int .u8) I0 A2 c3 p1) :
    Meets Try.prog 3 ([.slice A2 p1.length c3] : List Value).toArray I0 [] (fun v J M => v = .bool r ∧ M = []) := by
  have hle := ImmLe.refl I0
  unfold laws_FnSpots at H
  refine fn_intro (fn := Try.f3) 86 Try.func3 rfl rfl rfl (fun E Fs => ?_)
  refine at_seq ?_
  refine at_reg [] [0] (L2 := [(0, .slice A2 p1.length c3)]) (obs := []) (by kernel_rfl) ?_ ?_
  · intro w hs; exact trivial
  refine at_thn ?_
  refine at_seq ?_
  refine at_seq ?_
  refine at_reg [] [0, 12] (L2 := [(0, .slice A2 p1.length c3), (12, .bool (decide ((p1.length : Int) > 1048576)))]) (obs := []) (by kernel_rfl) ?_ ?_
  · intro w hs; exact trivial
  refine at_thn ?_
  by_cases h5 : (p1.length : Int) > 1048576
  · rw [if_pos h5] at H
    refine at_cond_t rfl (decide_eq_true h5) ?_
    refine at_seq ?_
    refine at_reg [] [2] (L2 := [(2, .bool true)]) (obs := []) (by kernel_rfl) ?_ ?_
    · intro w hs; exact trivial
    refine at_thn ?_
    refine at_ret ?_
    refine at_then_ret ?_
    obtain rfl := Option.some.inj H
    refine at_done (vs := [.bool true]) (obs := []) (.inl rfl) [.tmp 2] [] rfl (by kernel_rfl) (fun w hs => trivial) (fun w hs => ⟨_, _, [], rfl, ⟨rfl, rfl⟩, hle, hs⟩)
  · rw [if_neg h5] at H
    refine at_cond_f rfl (decide_eq_false h5) ?_
    refine at_skip ?_
    refine at_thn ?_
    refine at_seq ?_
    refine at_ops [0, 1, 2, 3, 4, 5, 6, 7, 8, 9] rfl ?_
    refine at_seg [0] [1, 2, 3, 4, 5, 6, 7, 8, 9] rfl [] [14] (L2 := [(14, .slice A2 p1.length c3)]) (obs := []) (by kernel_rfl) ?_ ?_
    · intro w hs; exact trivial
    refine at_eff rfl rfl ?_
    obtain ⟨b1, H6, H⟩ := bind_some H
    have hm_ := spec_DrawViewRows.calls (I0 := I0) H6 hr4
    refine eff_call rfl rfl ok5 rfl rfl (show Meets Try.prog 5 ([.slice A2 p1.length c3] : List Value).toArray _ [] _ from hm_) (Mr := (Fs)) (List.Perm.refl _) (fun v7 J8 M9 hq10 hJ11 => ?_)
    replace hle := hle.trans hJ11
    replace hr4 := hr4.mono hJ11
    obtain ⟨A12, c13, s14, A16, c17, s18, rfl, rfl, ho15, ho19⟩ := hq10
    refine at_seg [2, 3, 4, 5] [6, 7, 8, 9] rfl [] [16, 17, 18] (L2 := [(16, .slice A12 b1.1.length c13), (17, .agg #[.slice A16 b1.2.1.Points.length c17, .int .i64 b1.2.1.Cursor, .int .i64 b1.2.1.Mark]), (18, .int .i64 b1.2.2)]) (obs := []) (by kernel_rfl) ?_ ?_
    · intro w hs; exact trivial
    refine at_eff rfl rfl ?_
    obtain ⟨i_, hi_, hz_, _, _⟩ := info25
    refine eff_alloc rfl rfl hi_ hz_ #[.slice none ([] : List Int).length 0, .int .i64 0, .int .i64 0] rfl (fun g20 => ?_)
    refine at_seg [7] [8, 9] rfl [] [3, 4, 17, 18] (L2 := [(3, .slice A12 b1.1.length c13), (4, .pointer (some ⟨g20, 0, none⟩)), (17, .agg #[.slice A16 b1.2.1.Points.length c17, .int .i64 b1.2.1.Cursor, .int .i64 b1.2.1.Mark]), (18, .int .i64 b1.2.2)]) (obs := []) (by kernel_rfl) ?_ ?_
    · intro w hs; exact trivial
    refine at_eff rfl rfl ?_
    refine eff_store 0 rfl rfl rfl rfl rfl rfl (.inl (Nat.le_refl _)) rfl (Nat.le_of_ble_eq_true (by kernel_rfl)) rfl ?_
    refine at_eqM (M1 := ([(g20, .cells #[.slice A16 b1.2.1.Points.length c17, .int .i64 b1.2.1.Cursor, .int .i64 b1.2.1.Mark] 25 (0, 0))] :: s14 :: s18 :: Fs)) (M2 := ([(g20, .cells #[.slice A16 b1.2.1.Points.length c17, .int .i64 b1.2.1.Cursor, .int .i64 b1.2.1.Mark] 25 (0, 0))] :: s14 :: s18 :: Fs)) rfl rfl ?_
    refine at_seg [9] [] rfl [] [3, 4, 5] (L2 := [(3, .slice A12 b1.1.length c13), (4, .pointer (some ⟨g20, 0, none⟩)), (5, .int .i64 b1.2.2)]) (obs := []) (by kernel_rfl) ?_ ?_
    · intro w hs; exact trivial
    refine at_end ?_
    refine at_thn ?_
    refine at_seq ?_
    refine at_x hmo (fun w => CellsAt w ⟨g20, 0, none⟩ [.slice A16 b1.2.1.Points.length c17, .int .i64 b1.2.1.Cursor, .int .i64 b1.2.1.Mark] 0) [] ?_
    refine at_xseg [0, 2, 3] 3 (#[true, false, true, true, false, false]) rfl (by kernel_rfl) [(2, .agg #[.slice A16 b1.2.1.Points.length c17, .int .i64 b1.2.1.Cursor, .int .i64 b1.2.1.Mark])] [3, 4, 5, 19, 21, 22] (L2 := [(3, .slice A12 b1.1.length c13), (4, .pointer (some ⟨g20, 0, none⟩)), (5, .int .i64 b1.2.2), (19, .slice A12 b1.1.length c13), (21, .agg #[.slice A16 b1.2.1.Points.length c17, .int .i64 b1.2.1.Cursor, .int .i64 b1.2.1.Mark]), (22, .int .i64 b1.2.2)]) (obs := [fun w => CellsAt w ⟨g20, 0, none⟩ [.slice A16 b1.2.1.Points.length c17, .int .i64 b1.2.1.Cursor, .int .i64 b1.2.1.Mark] 0]) (by kernel_rfl) (by kernel_rfl) (by kernel_rfl) (.inr fun w hs => cellsV (k := 0) hs rfl _ 0 (Nat.le_of_ble_eq_true (by kernel_rfl)) rfl) (fun w hS => hS) (fun w hs => cellsV (k := 0) hs rfl _ 0 (Nat.le_of_ble_eq_true (by kernel_rfl)) rfl) ?_
    refine at_x1 2 1 (#[true, true, true, true, false, false]) rfl (by kernel_rfl) (by kernel_rfl) rfl rfl ?_
    obtain ⟨b2, H21, H⟩ := bind_some H
    refine eff_lend rfl rfl (post := fun v M => ∃ (A_1 : Option Addr) (c_2 : Nat) (s_3 : Seg), v = .slice A_1 b2.length c_2 ∧ M = [s_3] ∧ Own (Kd.int .i64) 2 J8 A_1 c_2 b2 s_3) (lent := [s14]) (Mr := ([(g20, .cells #[.slice A16 b1.2.1.Points.length c17, .int .i64 b1.2.1.Cursor, .int .i64 b1.2.1.Mark] 25 (0, 0))] :: s18 :: Fs)) ok7 rfl rfl ?_ (fun v22 M24 hq25 => ?_)
    · refine Lends.lend (k := 1) rfl (fun J27 hJ28 hin29 => ?_)
      have hm_ := laws_lwCopy.calls (I0 := J27) H21 (ho15.rd hJ28 hin29)
      exact Lends.of_meets (Mc := []) (show Meets Try.prog 7 ([.slice A12 b1.1.length c13] : List Value).toArray J27 [] _ from hm_) (fun v J M h_ => by obtain ⟨a0_, a1_, a2_, e1_, e2_, h0_⟩ := h_; exact ⟨a0_, a1_, a2_, e1_, e2_, h0_.flat (fun h => h)⟩) (List.Perm.refl _)
    obtain ⟨A30, c31, s32, rfl, rfl, ho33⟩ := hq25
    refine at_xS (fun w hs => cellsV (k := 2) hs rfl _ 0 (Nat.le_of_ble_eq_true (by kernel_rfl)) rfl) ?_
    refine at_x1 1 4 (#[true, true, true, true, true, false]) rfl (by kernel_rfl) (by kernel_rfl) rfl rfl ?_
    obtain ⟨b3, H34, H⟩ := bind_some H
    refine eff_read rfl rfl (rv := .int .i64 b3) (Ms' := (s32 :: s18 :: s14 :: [(g20, .cells #[.slice A16 b1.2.1.Points.length c17, .int .i64 b1.2.1.Cursor, .int .i64 b1.2.1.Mark] 25 (0, 0))] :: Fs)) ok6 rfl rfl ?_ ?_
    · refine Reads.lend (k := 1) rfl (fun J35 hJ36 hin37 => ?_)
      refine Reads.lend (k := 2) rfl (fun J38 hJ39 hin40 => ?_)
      have hm_ := impl_ViewRows.calls (I0 := J38) H34 (ho33.rd (hJ36.trans hJ39) (hin37.mono hJ39)) (ho19.rd (hJ36.trans hJ39) hin40)
      exact Reads.of_meets (Mr := (s14 :: [(g20, .cells #[.slice A16 b1.2.1.Points.length c17, .int .i64 b1.2.1.Cursor, .int .i64 b1.2.1.Mark] 25 (0, 0))] :: Fs)) (show Meets Try.prog 6 ([.slice A30 b2.length c31, .agg #[.slice A16 b1.2.1.Points.length c17, .int .i64 b1.2.1.Cursor, .int .i64 b1.2.1.Mark], .int .i64 b1.2.2] : List Value).toArray J38 [] _ from hm_) (List.Perm.refl _)
    refine at_xS (fun w hs => cellsV (k := 3) hs rfl _ 0 (Nat.le_of_ble_eq_true (by kernel_rfl)) rfl) ?_
    refine at_xseg [5] 0 (#[true, true, true, true, true, true]) rfl (by kernel_rfl) [] [3, 4, 5, 6] (L2 := [(3, .slice A12 b1.1.length c13), (4, .pointer (some ⟨g20, 0, none⟩)), (5, .int .i64 b1.2.2), (6, .int .i64 b3)]) (obs := []) (by kernel_rfl) (by kernel_rfl) (by kernel_rfl) (.inr fun w hs => cellsV (k := 3) hs rfl _ 0 (Nat.le_of_ble_eq_true (by kernel_rfl)) rfl) (fun w hS => trivial) (fun w hs => trivial) ?_
    refine at_xend (by kernel_rfl) ?_
    refine at_thn ?_
    refine at_seq ?_
    refine at_seq ?_
    refine at_ops [0, 1, 2, 3, 4, 5] rfl ?_
    refine at_seg [0, 1, 2, 3] [4, 5] rfl [(2, .agg #[.slice A16 b1.2.1.Points.length c17, .int .i64 b1.2.1.Cursor, .int .i64 b1.2.1.Mark])] [3, 4, 5, 6, 24, 25, 26, 27] (L2 := [(3, .slice A12 b1.1.length c13), (4, .pointer (some ⟨g20, 0, none⟩)), (5, .int .i64 b1.2.2), (6, .int .i64 b3), (24, .int .i64 b3), (25, .slice A12 b1.1.length c13), (26, .agg #[.slice A16 b1.2.1.Points.length c17, .int .i64 b1.2.1.Cursor, .int .i64 b1.2.1.Mark]), (27, .int .i64 b1.2.2)]) (obs := [fun w => CellsAt w ⟨g20, 0, none⟩ [.slice A16 b1.2.1.Points.length c17, .int .i64 b1.2.1.Cursor, .int .i64 b1.2.1.Mark] 0]) (by kernel_rfl) ?_ ?_
    · intro w hs; exact cellsV (k := 3) hs rfl _ 0 (Nat.le_of_ble_eq_true (by kernel_rfl)) rfl
    refine at_eff rfl rfl ?_
    obtain ⟨b4, H41, H⟩ := bind_some H
    refine eff_read rfl rfl (rv := .int .i64 b4) (Ms' := (s14 :: s18 :: s32 :: [(g20, .cells #[.slice A16 b1.2.1.Points.length c17, .int .i64 b1.2.1.Cursor, .int .i64 b1.2.1.Mark] 25 (0, 0))] :: Fs)) ok8 rfl rfl ?_ ?_
    · refine Reads.lend (k := 2) rfl (fun J42 hJ43 hin44 => ?_)
      refine Reads.lend (k := 1) rfl (fun J45 hJ46 hin47 => ?_)
      have hm_ := spec_ViewRows.calls (I0 := J45) H41 (ho15.rd (hJ43.trans hJ46) (hin44.mono hJ46)) (ho19.rd (hJ43.trans hJ46) hin47)
      exact Reads.of_meets (Mr := (s32 :: [(g20, .cells #[.slice A16 b1.2.1.Points.length c17, .int .i64 b1.2.1.Cursor, .int .i64 b1.2.1.Mark] 25 (0, 0))] :: Fs)) (show Meets Try.prog 8 ([.slice A12 b1.1.length c13, .agg #[.slice A16 b1.2.1.Points.length c17, .int .i64 b1.2.1.Cursor, .int .i64 b1.2.1.Mark], .int .i64 b1.2.2] : List Value).toArray J45 [] _ from hm_) (List.Perm.refl _)
    refine at_seg [5] [] rfl [] [3, 4, 5, 6, 29] (L2 := [(3, .slice A12 b1.1.length c13), (4, .pointer (some ⟨g20, 0, none⟩)), (5, .int .i64 b1.2.2), (6, .int .i64 b3), (29, .bool (b3 != b4))]) (obs := []) (by kernel_rfl) ?_ ?_
    · intro w hs; exact trivial
    refine at_end ?_
    refine at_thn ?_
    by_cases h48 : b3 = b4
    · rw [if_pos h48] at H
      refine at_cond_f rfl (bne_eq_false_iff_eq.2 h48) ?_
      refine at_skip ?_
      refine at_thn ?_
      refine at_seq ?_
      refine at_seq ?_
      refine at_reg [] [3, 4, 5, 6, 31] (L2 := [(3, .slice A12 b1.1.length c13), (4, .pointer (some ⟨g20, 0, none⟩)), (5, .int .i64 b1.2.2), (6, .int .i64 b3), (31, .bool (b3 == 0))]) (obs := []) (by kernel_rfl) ?_ ?_
      · intro w hs; exact trivial
      refine at_thn ?_
      by_cases h49 : b3 = 0
      · rw [if_pos h49] at H
        refine at_cond_t rfl (beq_iff_eq.2 h49) ?_
        refine at_seq ?_
        refine at_reg [] [2] (L2 := [(2, .bool true)]) (obs := []) (by kernel_rfl) ?_ ?_
        · intro w hs; exact trivial
        refine at_thn ?_
        refine at_ret ?_
        refine at_then_ret ?_
        obtain rfl := Option.some.inj H
        refine at_drop (k := 0) rfl rfl ?_
        refine at_eqM (M1 := (s18 :: s32 :: [(g20, .cells #[.slice A16 b1.2.1.Points.length c17, .int .i64 b1.2.1.Cursor, .int .i64 b1.2.1.Mark] 25 (0, 0))] :: Fs)) (M2 := (s18 :: s32 :: [(g20, .cells #[.slice A16 b1.2.1.Points.length c17, .int .i64 b1.2.1.Cursor, .int .i64 b1.2.1.Mark] 25 (0, 0))] :: Fs)) rfl rfl ?_
        refine at_drop (k := 0) rfl rfl ?_
        refine at_eqM (M1 := (s32 :: [(g20, .cells #[.slice A16 b1.2.1.Points.length c17, .int .i64 b1.2.1.Cursor, .int .i64 b1.2.1.Mark] 25 (0, 0))] :: Fs)) (M2 := (s32 :: [(g20, .cells #[.slice A16 b1.2.1.Points.length c17, .int .i64 b1.2.1.Cursor, .int .i64 b1.2.1.Mark] 25 (0, 0))] :: Fs)) rfl rfl ?_
        refine at_drop (k := 0) rfl rfl ?_
        refine at_eqM (M1 := ([(g20, .cells #[.slice A16 b1.2.1.Points.length c17, .int .i64 b1.2.1.Cursor, .int .i64 b1.2.1.Mark] 25 (0, 0))] :: Fs)) (M2 := ([(g20, .cells #[.slice A16 b1.2.1.Points.length c17, .int .i64 b1.2.1.Cursor, .int .i64 b1.2.1.Mark] 25 (0, 0))] :: Fs)) rfl rfl ?_
        refine at_drop (k := 0) rfl rfl ?_
        refine at_eqM (M1 := (Fs)) (M2 := (Fs)) rfl rfl ?_
        refine at_done (vs := [.bool true]) (obs := []) (.inl rfl) [.tmp 2] [] rfl (by kernel_rfl) (fun w hs => trivial) (fun w hs => ⟨_, _, [], rfl, ⟨rfl, rfl⟩, hle, hs⟩)
      · rw [if_neg h49] at H
        refine at_cond_f rfl (beq_eq_false_iff_ne.2 h49) ?_
        refine at_skip ?_
        refine at_thn ?_
        refine at_seq ?_
        refine at_ops [0, 1, 2] rfl ?_
        refine at_seg [0] [1, 2] rfl [] [3, 4, 5, 6, 32] (L2 := [(3, .slice A12 b1.1.length c13), (4, .pointer (some ⟨g20, 0, none⟩)), (5, .int .i64 b1.2.2), (6, .int .i64 b3), (32, .agg #[.int .i64 0, .int .i64 0])]) (obs := []) (by kernel_rfl) ?_ ?_
        · intro w hs; exact trivial
        refine at_eff rfl rfl ?_
        obtain ⟨i_, hi_, hz_, _, _⟩ := info31
        refine eff_alloc rfl rfl hi_ hz_ #[.int .i64 0, .int .i64 0] rfl (fun g50 => ?_)
        refine at_eff rfl rfl ?_
        refine eff_store 0 rfl rfl rfl rfl rfl rfl (.inl (Nat.le_refl _)) rfl (Nat.le_of_ble_eq_true (by kernel_rfl)) rfl ?_
        refine at_eqM (M1 := ([(g50, .cells #[.int .i64 0, .int .i64 0] 31 (0, 0))] :: s14 :: s18 :: s32 :: [(g20, .cells #[.slice A16 b1.2.1.Points.length c17, .int .i64 b1.2.1.Cursor, .int .i64 b1.2.1.Mark] 25 (0, 0))] :: Fs)) (M2 := ([(g50, .cells #[.int .i64 0, .int .i64 0] 31 (0, 0))] :: s14 :: s18 :: s32 :: [(g20, .cells #[.slice A16 b1.2.1.Points.length c17, .int .i64 b1.2.1.Cursor, .int .i64 b1.2.1.Mark] 25 (0, 0))] :: Fs)) rfl rfl ?_
        refine at_end ?_
        refine at_thn ?_
        refine at_seq ?_
        refine at_seq ?_
        refine at_reg [] [3, 4, 5, 6, 7, 8] (L2 := [(3, .slice A12 b1.1.length c13), (4, .pointer (some ⟨g20, 0, none⟩)), (5, .int .i64 b1.2.2), (6, .int .i64 b3), (7, .pointer (some ⟨g50, 0, none⟩)), (8, .int .i64 0)]) (obs := []) (by kernel_rfl) ?_ ?_
        · intro w hs; exact trivial
        refine at_thn ?_
        refine at_block ?_
        refine at_drop (k := 3) rfl rfl ?_
        refine at_eqM (M1 := ([(g50, .cells #[.int .i64 0, .int .i64 0] 31 (0, 0))] :: s14 :: s18 :: [(g20, .cells #[.slice A16 b1.2.1.Points.length c17, .int .i64 b1.2.1.Cursor, .int .i64 b1.2.1.Mark] 25 (0, 0))] :: Fs)) (M2 := ([(g50, .cells #[.int .i64 0, .int .i64 0] 31 (0, 0))] :: s14 :: s18 :: [(g20, .cells #[.slice A16 b1.2.1.Points.length c17, .int .i64 b1.2.1.Cursor, .int .i64 b1.2.1.Mark] 25 (0, 0))] :: Fs)) rfl rfl ?_
        refine at_perm ((perm_at (k := 3) rfl).trans ((List.Perm.refl _).cons _)) ?_
        refine at_keep [3, 4, 5, 6, 7, 8] (L2 := [(3, .slice A12 b1.1.length c13), (4, .pointer (some ⟨g20, 0, none⟩)), (5, .int .i64 b1.2.2), (6, .int .i64 b3), (7, .pointer (some ⟨g50, 0, none⟩)), (8, .int .i64 0)]) rfl ?_
        refine at_loop (fun k54 L I Ms => ∃ (x51 : Int) (x52 : Int) (x53 : Int), L = [(3, .slice A12 b1.1.length c13), (4, .pointer (some ⟨g20, 0, none⟩)), (5, .int .i64 b1.2.2), (6, .int .i64 b3), (7, .pointer (some ⟨g50, 0, none⟩)), (8, .int .i64 x51)] ∧ Ms = ([(g20, .cells #[.slice A16 b1.2.1.Points.length c17, .int .i64 b1.2.1.Cursor, .int .i64 b1.2.1.Mark] 25 (0, 0))] :: [(g50, .cells #[.int .i64 x52, .int .i64 x53] 31 (0, 0))] :: s14 :: s18 :: Fs) ∧ laws_FnSpots_l0 k54 x51 x52 x53 b1 b3 = some r ∧ ImmLe I0 I ∧ k54 ≤ k ∧ Own (Kd.int .i64) 2 I A12 c13 b1.1 s14 ∧ Own (Kd.int .i64) 2 I A16 c17 b1.2.1.Points s18) ?_ ?_ k ⟨0, 0, 0, rfl, rfl, H, hle, Nat.le_refl _, ho15, ho19⟩
        · rintro L I Ms ⟨_, _, _, rfl, rfl, H, _⟩; exact no_none H
        · clear H hle ho15 ho19
          intro k54 ih55 L I Ms h_; obtain ⟨x51, x52, x53, hL_, hM_, H, hle, hk56, ho15, ho19⟩ := h_; rw [hL_, hM_]; clear hL_ hM_ L Ms
          rw [laws_FnSpots_l0] at H
          refine at_seq ?_
          refine at_seq ?_
          refine at_reg [(2, .slice A16 b1.2.1.Points.length c17)] [3, 4, 5, 6, 7, 8, 37] (L2 := [(3, .slice A12 b1.1.length c13), (4, .pointer (some ⟨g20, 0, none⟩)), (5, .int .i64 b1.2.2), (6, .int .i64 b3), (7, .pointer (some ⟨g50, 0, none⟩)), (8, .int .i64 x51), (37, .bool (decide (x51 ≤ (b1.2.1.Points.length : Int))))]) (obs := [fun w => w.cell? ⟨g20, 0, none⟩ = some (.slice A16 b1.2.1.Points.length c17)]) (by kernel_rfl) ?_ ?_
          · intro w hs; exact hs.var (k := 0) rfl 0 rfl
          refine at_thn ?_
          by_cases h57 : x51 ≤ (b1.2.1.Points.length : Int)
          · rw [if_pos h57] at H
            refine at_cond_t rfl (decide_eq_true h57) ?_
            refine at_skip ?_
            refine at_thn ?_
            refine at_seq ?_
            refine at_block ?_
            refine at_seq ?_
            refine at_x hmo (fun w => CellsAt w ⟨g20, 0, none⟩ [.slice A16 b1.2.1.Points.length c17, .int .i64 b1.2.1.Cursor, .int .i64 b1.2.1.Mark] 0) [7] ?_
            refine at_xseg [0, 2, 3, 4] 4 (#[true, false, true, true, true, false, false, false]) rfl (by kernel_rfl) [(2, .agg #[.slice A16 b1.2.1.Points.length c17, .int .i64 b1.2.1.Cursor, .int .i64 b1.2.1.Mark])] [3, 4, 5, 6, 7, 8, 40, 42, 43, 44] (L2 := [(3, .slice A12 b1.1.length c13), (4, .pointer (some ⟨g20, 0, none⟩)), (5, .int .i64 b1.2.2), (6, .int .i64 b3), (7, .pointer (some ⟨g50, 0, none⟩)), (8, .int .i64 x51), (40, .slice A12 b1.1.length c13), (42, .agg #[.slice A16 b1.2.1.Points.length c17, .int .i64 b1.2.1.Cursor, .int .i64 b1.2.1.Mark]), (43, .int .i64 x51), (44, .int .i64 b1.2.2)]) (obs := [fun w => CellsAt w ⟨g20, 0, none⟩ [.slice A16 b1.2.1.Points.length c17, .int .i64 b1.2.1.Cursor, .int .i64 b1.2.1.Mark] 0]) (by kernel_rfl) (by kernel_rfl) (by kernel_rfl) (.inr fun w hs => cellsV (k := 0) hs rfl _ 0 (Nat.le_of_ble_eq_true (by kernel_rfl)) rfl) (fun w hS => hS) (fun w hs => cellsV (k := 0) hs rfl _ 0 (Nat.le_of_ble_eq_true (by kernel_rfl)) rfl) ?_
            refine at_xall (fuel := 3) [1, 6] (by kernel_rfl) (by simp) (List.forall_mem_cons.2 ⟨?_, (List.forall_mem_cons.2 ⟨?_, fun _ h => nomatch h⟩)⟩)
            · refine at_xone (#[true, true, true, true, true, false, false, false]) (by kernel_rfl) rfl rfl ?_
              obtain ⟨b5, H160, H⟩ := bind_some H
              refine eff_lend rfl rfl (post := fun v M => ∃ (A_1 : Option Addr) (c_2 : Nat) (s_3 : Seg), v = .slice A_1 b5.length c_2 ∧ M = [s_3] ∧ Own (Kd.int .i64) 2 I A_1 c_2 b5 s_3) (lent := [s14]) (Mr := ([(g20, .cells #[.slice A16 b1.2.1.Points.length c17, .int .i64 b1.2.1.Cursor, .int .i64 b1.2.1.Mark] 25 (0, 0))] :: [(g50, .cells #[.int .i64 x52, .int .i64 x53] 31 (0, 0))] :: s18 :: Fs)) ok7 rfl rfl ?_ (fun v161 M163 hq164 => ?_)
              · refine Lends.lend (k := 2) rfl (fun J166 hJ167 hin168 => ?_)
                have hm_ := laws_lwCopy.calls (I0 := J166) H160 (ho15.rd hJ167 hin168)
                exact Lends.of_meets (Mc := []) (show Meets Try.prog 7 ([.slice A12 b1.1.length c13] : List Value).toArray J166 [] _ from hm_) (fun v J M h_ => by obtain ⟨a0_, a1_, a2_, e1_, e2_, h0_⟩ := h_; exact ⟨a0_, a1_, a2_, e1_, e2_, h0_.flat (fun h => h)⟩) (List.Perm.refl _)
              obtain ⟨A169, c170, s171, rfl, rfl, ho172⟩ := hq164
              refine at_xS (fun w hs => cellsV (k := 2) hs rfl _ 0 (Nat.le_of_ble_eq_true (by kernel_rfl)) rfl) ?_
              refine at_xall (fuel := 2) [5, 6] (by kernel_rfl) (by simp) (List.forall_mem_cons.2 ⟨?_, (List.forall_mem_cons.2 ⟨?_, fun _ h => nomatch h⟩)⟩)
              · refine at_xone (#[true, true, true, true, true, true, false, false]) (by kernel_rfl) rfl rfl ?_
                obtain ⟨b6, H173, H⟩ := bind_some H
                refine eff_read rfl rfl (rv := .agg #[.int .i64 b6.Line, .int .i64 b6.Col]) (Ms' := (s171 :: s18 :: s14 :: [(g20, .cells #[.slice A16 b1.2.1.Points.length c17, .int .i64 b1.2.1.Cursor, .int .i64 b1.2.1.Mark] 25 (0, 0))] :: [(g50, .cells #[.int .i64 x52, .int .i64 x53] 31 (0, 0))] :: Fs)) ok9 rfl rfl ?_ ?_
                · refine Reads.lend (k := 1) rfl (fun J174 hJ175 hin176 => ?_)
                  refine Reads.lend (k := 3) rfl (fun J177 hJ178 hin179 => ?_)
                  have hm_ := impl_ViewSpot.calls (I0 := J177) H173 (ho172.rd (hJ175.trans hJ178) (hin176.mono hJ178)) (ho19.rd (hJ175.trans hJ178) hin179)
                  exact Reads.of_meets (Mr := (s14 :: [(g20, .cells #[.slice A16 b1.2.1.Points.length c17, .int .i64 b1.2.1.Cursor, .int .i64 b1.2.1.Mark] 25 (0, 0))] :: [(g50, .cells #[.int .i64 x52, .int .i64 x53] 31 (0, 0))] :: Fs)) (show Meets Try.prog 9 ([.slice A169 b5.length c170, .agg #[.slice A16 b1.2.1.Points.length c17, .int .i64 b1.2.1.Cursor, .int .i64 b1.2.1.Mark], .int .i64 x51, .int .i64 b1.2.2] : List Value).toArray J177 [] _ from hm_) (List.Perm.refl _)
                refine at_xS (fun w hs => cellsV (k := 3) hs rfl _ 0 (Nat.le_of_ble_eq_true (by kernel_rfl)) rfl) ?_
                refine at_x1 1 6 (#[true, true, true, true, true, true, true, false]) rfl (by kernel_rfl) (by kernel_rfl) rfl rfl ?_
                obtain ⟨i_, hi_, hz_, _, _⟩ := info31
                refine eff_alloc rfl rfl hi_ hz_ #[.int .i64 0, .int .i64 0] rfl (fun g180 => ?_)
                refine at_xS (fun w hs => cellsV (k := 4) hs rfl _ 0 (Nat.le_of_ble_eq_true (by kernel_rfl)) rfl) ?_
                refine at_x1 0 7 (#[true, true, true, true, true, true, true, true]) rfl (by kernel_rfl) (by kernel_rfl) rfl rfl ?_
                refine eff_store 0 rfl rfl rfl rfl rfl rfl (.inl (Nat.le_refl _)) rfl (Nat.le_of_ble_eq_true (by kernel_rfl)) rfl ?_
                refine at_eqM (M1 := ([(g180, .cells #[.int .i64 b6.Line, .int .i64 b6.Col] 31 (0, 0))] :: s171 :: s18 :: s14 :: [(g20, .cells #[.slice A16 b1.2.1.Points.length c17, .int .i64 b1.2.1.Cursor, .int .i64 b1.2.1.Mark] 25 (0, 0))] :: [(g50, .cells #[.int .i64 x52, .int .i64 x53] 31 (0, 0))] :: Fs)) (M2 := ([(g180, .cells #[.int .i64 b6.Line, .int .i64 b6.Col] 31 (0, 0))] :: s171 :: s18 :: s14 :: [(g20, .cells #[.slice A16 b1.2.1.Points.length c17, .int .i64 b1.2.1.Cursor, .int .i64 b1.2.1.Mark] 25 (0, 0))] :: [(g50, .cells #[.int .i64 x52, .int .i64 x53] 31 (0, 0))] :: Fs)) rfl rfl ?_
                refine at_xX (by kernel_rfl) ?_
                refine at_xend (by kernel_rfl) ?_
                refine at_thn ?_
                refine at_seq ?_
                refine at_seq ?_
                refine at_x hmo (fun w => CellsAt w ⟨g180, 0, none⟩ [.int .i64 b6.Line, .int .i64 b6.Col] 0 ∧ CellsAt w ⟨g20, 0, none⟩ [.slice A16 b1.2.1.Points.length c17, .int .i64 b1.2.1.Cursor, .int .i64 b1.2.1.Mark] 0) [] ?_
                refine at_xseg [0, 1, 2, 3, 4] 29 (#[true, true, true, true, true, false, false, false, false, false, false, false, false, false, false, false, false, false, false, false, false, false, false, false, false, false, false, false, false, false, false, false, false, false]) rfl (by kernel_rfl) [(0, .agg #[.int .i64 b6.Line, .int .i64 b6.Col]), (2, .agg #[.slice A16 b1.2.1.Points.length c17, .int .i64 b1.2.1.Cursor, .int .i64 b1.2.1.Mark])] [3, 4, 5, 6, 7, 8, 9, 46, 47, 48, 49, 50] (L2 := [(3, .slice A12 b1.1.length c13), (4, .pointer (some ⟨g20, 0, none⟩)), (5, .int .i64 b1.2.2), (6, .int .i64 b3), (7, .pointer (some ⟨g50, 0, none⟩)), (8, .int .i64 x51), (9, .pointer (some ⟨g180, 0, none⟩)), (46, .agg #[.int .i64 b6.Line, .int .i64 b6.Col]), (47, .slice A12 b1.1.length c13), (48, .agg #[.slice A16 b1.2.1.Points.length c17, .int .i64 b1.2.1.Cursor, .int .i64 b1.2.1.Mark]), (49, .int .i64 x51), (50, .int .i64 b1.2.2)]) (obs := [fun w => CellsAt w ⟨g180, 0, none⟩ [.int .i64 b6.Line, .int .i64 b6.Col] 0, fun w => CellsAt w ⟨g20, 0, none⟩ [.slice A16 b1.2.1.Points.length c17, .int .i64 b1.2.1.Cursor, .int .i64 b1.2.1.Mark] 0]) (by kernel_rfl) (by kernel_rfl) (by kernel_rfl) (.inr fun w hs => ⟨cellsV (k := 0) hs rfl _ 0 (Nat.le_of_ble_eq_true (by kernel_rfl)) rfl, cellsV (k := 4) hs rfl _ 0 (Nat.le_of_ble_eq_true (by kernel_rfl)) rfl⟩) (fun w hS => ⟨hS.1, hS.2⟩) (fun w hs => ⟨cellsV (k := 0) hs rfl _ 0 (Nat.le_of_ble_eq_true (by kernel_rfl)) rfl, cellsV (k := 4) hs rfl _ 0 (Nat.le_of_ble_eq_true (by kernel_rfl)) rfl⟩) ?_
                refine at_x1 28 5 (#[true, true, true, true, true, true, false, false, false, false, false, false, false, false, false, false, false, false, false, false, false, false, false, false, false, false, false, false, false, false, false, false, false, false]) rfl (by kernel_rfl) (by kernel_rfl) rfl rfl ?_
                obtain ⟨b7, H181, H⟩ := bind_some H
                refine eff_read rfl rfl (rv := .agg #[.int .i64 b7.Line, .int .i64 b7.Col]) (Ms' := (s14 :: s18 :: [(g180, .cells #[.int .i64 b6.Line, .int .i64 b6.Col] 31 (0, 0))] :: s171 :: [(g20, .cells #[.slice A16 b1.2.1.Points.length c17, .int .i64 b1.2.1.Cursor, .int .i64 b1.2.1.Mark] 25 (0, 0))] :: [(g50, .cells #[.int .i64 x52, .int .i64 x53] 31 (0, 0))] :: Fs)) ok10 rfl rfl ?_ ?_
                · refine Reads.lend (k := 3) rfl (fun J182 hJ183 hin184 => ?_)
                  refine Reads.lend (k := 2) rfl (fun J185 hJ186 hin187 => ?_)
                  have hm_ := spec_ViewSpot.calls (I0 := J185) H181 (ho15.rd (hJ183.trans hJ186) (hin184.mono hJ186)) (ho19.rd (hJ183.trans hJ186) hin187)
                  exact Reads.of_meets (Mr := ([(g180, .cells #[.int .i64 b6.Line, .int .i64 b6.Col] 31 (0, 0))] :: s171 :: [(g20, .cells #[.slice A16 b1.2.1.Points.length c17, .int .i64 b1.2.1.Cursor, .int .i64 b1.2.1.Mark] 25 (0, 0))] :: [(g50, .cells #[.int .i64 x52, .int .i64 x53] 31 (0, 0))] :: Fs)) (show Meets Try.prog 10 ([.slice A12 b1.1.length c13, .agg #[.slice A16 b1.2.1.Points.length c17, .int .i64 b1.2.1.Cursor, .int .i64 b1.2.1.Mark], .int .i64 x51, .int .i64 b1.2.2] : List Value).toArray J185 [] _ from hm_) (List.Perm.refl _)
                refine at_xS (fun w hs => ⟨cellsV (k := 2) hs rfl _ 0 (Nat.le_of_ble_eq_true (by kernel_rfl)) rfl, cellsV (k := 4) hs rfl _ 0 (Nat.le_of_ble_eq_true (by kernel_rfl)) rfl⟩) ?_
                refine at_x1 27 6 (#[true, true, true, true, true, true, true, false, false, false, false, false, false, false, false, false, false, false, false, false, false, false, false, false, false, false, false, false, false, false, false, false, false, false]) rfl (by kernel_rfl) (by kernel_rfl) rfl rfl ?_
                refine eff_neAgg (b := ((b6.Line == b7.Line) && ((b6.Col == b7.Col) && true))) 4 rfl rfl (by decide) (by kernel_rfl) rfl rfl (by kernel_rfl) ?_
                refine at_xS (fun w hs => ⟨cellsV (k := 2) hs rfl _ 0 (Nat.le_of_ble_eq_true (by kernel_rfl)) rfl, cellsV (k := 4) hs rfl _ 0 (Nat.le_of_ble_eq_true (by kernel_rfl)) rfl⟩) ?_
                by_cases h188 : ((b6.Line == b7.Line) && ((b6.Col == b7.Col) && true)) = true
                · rw [if_pos h188] at H
                  by_cases h189 : b6.Line < x52
                  · rw [if_pos h189] at H
                    refine at_xweak (S' := fun w => CellsAt w ⟨g180, 0, none⟩ [.int .i64 b6.Line, .int .i64 b6.Col] 0 ∧ CellsAt w ⟨g20, 0, none⟩ [.slice A16 b1.2.1.Points.length c17, .int .i64 b1.2.1.Cursor, .int .i64 b1.2.1.Mark] 0 ∧ w.cell? ⟨g180, 0, none⟩ = some (.int .i64 b6.Line) ∧ w.cell? ⟨g50, 0, none⟩ = some (.int .i64 x52)) (fun w h_ => ⟨h_.1, h_.2.1⟩) ?_
                    refine at_xseg [7, 8, 9, 10, 11, 12, 13, 14, 15, 16, 17, 18, 19, 20, 21, 22, 23, 24, 25, 26, 27, 28, 29, 30, 31, 32, 33] 0 (#[true, true, true, true, true, true, true, true, true, true, true, true, true, true, true, true, true, true, true, true, true, true, true, true, true, true, true, true, true, true, true, true, true, true]) rfl (by kernel_rfl) [(7, .bool false), (9, .int .i64 b6.Line), (11, .int .i64 x52), (14, .bool true)] [3, 4, 5, 6, 7, 8, 9, 79] (L2 := [(3, .slice A12 b1.1.length c13), (4, .pointer (some ⟨g20, 0, none⟩)), (5, .int .i64 b1.2.2), (6, .int .i64 b3), (7, .pointer (some ⟨g50, 0, none⟩)), (8, .int .i64 x51), (9, .pointer (some ⟨g180, 0, none⟩)), (79, .bool true)]) (obs := [fun _ => (.bool (!((b6.Line == b7.Line) && ((b6.Col == b7.Col) && true))) : Value) = .bool false, fun w => w.cell? ⟨g180, 0, none⟩ = some (.int .i64 b6.Line), fun w => w.cell? ⟨g50, 0, none⟩ = some (.int .i64 x52), fun _ => (.bool (decide (b6.Line < x52)) : Value) = .bool true]) (by kernel_rfl) (by kernel_rfl) (by kernel_rfl) (.inr fun w hs => ⟨cellsV (k := 2) hs rfl _ 0 (Nat.le_of_ble_eq_true (by kernel_rfl)) rfl, cellsV (k := 4) hs rfl _ 0 (Nat.le_of_ble_eq_true (by kernel_rfl)) rfl, hs.var (k := 2) rfl 0 rfl, hs.var (k := 5) rfl 0 rfl⟩) (fun w hS => ⟨congrArg Value.bool (not_ff (h188)), hS.2.2.1, hS.2.2.2, congrArg Value.bool (decide_eq_true h189)⟩) (fun w hs => ⟨congrArg Value.bool (not_ff (h188)), hs.var (k := 2) rfl 0 rfl, hs.var (k := 5) rfl 0 rfl, congrArg Value.bool (decide_eq_true h189)⟩) ?_
                    refine at_xend (by kernel_rfl) ?_
                    refine at_thn ?_
                    refine at_cond_t rfl (rfl) ?_
                    refine at_seq ?_
                    refine at_reg [] [2] (L2 := [(2, .bool false)]) (obs := []) (by kernel_rfl) ?_ ?_
                    · intro w hs; exact trivial
                    refine at_thn ?_
                    refine at_ret ?_
                    refine at_then_ret ?_
                    refine at_in_ret ?_
                    refine at_then_ret ?_
                    refine at_then_ret ?_
                    refine at_in_ret ?_
                    refine at_then_ret ?_
                    obtain rfl := Option.some.inj H
                    refine at_drop (k := 0) rfl rfl ?_
                    refine at_eqM (M1 := (s18 :: [(g180, .cells #[.int .i64 b6.Line, .int .i64 b6.Col] 31 (0, 0))] :: s171 :: [(g20, .cells #[.slice A16 b1.2.1.Points.length c17, .int .i64 b1.2.1.Cursor, .int .i64 b1.2.1.Mark] 25 (0, 0))] :: [(g50, .cells #[.int .i64 x52, .int .i64 x53] 31 (0, 0))] :: Fs)) (M2 := (s18 :: [(g180, .cells #[.int .i64 b6.Line, .int .i64 b6.Col] 31 (0, 0))] :: s171 :: [(g20, .cells #[.slice A16 b1.2.1.Points.length c17, .int .i64 b1.2.1.Cursor, .int .i64 b1.2.1.Mark] 25 (0, 0))] :: [(g50, .cells #[.int .i64 x52, .int .i64 x53] 31 (0, 0))] :: Fs)) rfl rfl ?_
                    refine at_drop (k := 0) rfl rfl ?_
                    refine at_eqM (M1 := ([(g180, .cells #[.int .i64 b6.Line, .int .i64 b6.Col] 31 (0, 0))] :: s171 :: [(g20, .cells #[.slice A16 b1.2.1.Points.length c17, .int .i64 b1.2.1.Cursor, .int .i64 b1.2.1.Mark] 25 (0, 0))] :: [(g50, .cells #[.int .i64 x52, .int .i64 x53] 31 (0, 0))] :: Fs)) (M2 := ([(g180, .cells #[.int .i64 b6.Line, .int .i64 b6.Col] 31 (0, 0))] :: s171 :: [(g20, .cells #[.slice A16 b1.2.1.Points.length c17, .int .i64 b1.2.1.Cursor, .int .i64 b1.2.1.Mark] 25 (0, 0))] :: [(g50, .cells #[.int .i64 x52, .int .i64 x53] 31 (0, 0))] :: Fs)) rfl rfl ?_
                    refine at_drop (k := 0) rfl rfl ?_
                    refine at_eqM (M1 := (s171 :: [(g20, .cells #[.slice A16 b1.2.1.Points.length c17, .int .i64 b1.2.1.Cursor, .int .i64 b1.2.1.Mark] 25 (0, 0))] :: [(g50, .cells #[.int .i64 x52, .int .i64 x53] 31 (0, 0))] :: Fs)) (M2 := (s171 :: [(g20, .cells #[.slice A16 b1.2.1.Points.length c17, .int .i64 b1.2.1.Cursor, .int .i64 b1.2.1.Mark] 25 (0, 0))] :: [(g50, .cells #[.int .i64 x52, .int .i64 x53] 31 (0, 0))] :: Fs)) rfl rfl ?_
                    refine at_drop (k := 0) rfl rfl ?_
                    refine at_eqM (M1 := ([(g20, .cells #[.slice A16 b1.2.1.Points.length c17, .int .i64 b1.2.1.Cursor, .int .i64 b1.2.1.Mark] 25 (0, 0))] :: [(g50, .cells #[.int .i64 x52, .int .i64 x53] 31 (0, 0))] :: Fs)) (M2 := ([(g20, .cells #[.slice A16 b1.2.1.Points.length c17, .int .i64 b1.2.1.Cursor, .int .i64 b1.2.1.Mark] 25 (0, 0))] :: [(g50, .cells #[.int .i64 x52, .int .i64 x53] 31 (0, 0))] :: Fs)) rfl rfl ?_
                    refine at_drop (k := 0) rfl rfl ?_
                    refine at_eqM (M1 := ([(g50, .cells #[.int .i64 x52, .int .i64 x53] 31 (0, 0))] :: Fs)) (M2 := ([(g50, .cells #[.int .i64 x52, .int .i64 x53] 31 (0, 0))] :: Fs)) rfl rfl ?_
                    refine at_drop (k := 0) rfl rfl ?_
                    refine at_eqM (M1 := (Fs)) (M2 := (Fs)) rfl rfl ?_
                    refine at_done (vs := [.bool false]) (obs := []) (.inl rfl) [.tmp 2] [] rfl (by kernel_rfl) (fun w hs => trivial) (fun w hs => ⟨_, _, [], rfl, ⟨rfl, rfl⟩, hle, hs⟩)
                  · rw [if_neg h189] at H
                    by_cases h190 : b6.Line = x52
                    · rw [if_pos h190] at H
                      by_cases h191 : b6.Col < x53
                      · rw [if_pos h191] at H
                        refine at_xweak (S' := fun w => CellsAt w ⟨g180, 0, none⟩ [.int .i64 b6.Line, .int .i64 b6.Col] 0 ∧ CellsAt w ⟨g20, 0, none⟩ [.slice A16 b1.2.1.Points.length c17, .int .i64 b1.2.1.Cursor, .int .i64 b1.2.1.Mark] 0 ∧ w.cell? ⟨g180, 0, none⟩ = some (.int .i64 b6.Line) ∧ w.cell? ⟨g50, 0, none⟩ = some (.int .i64 x52) ∧ w.cell? ⟨g180, 0, none⟩ = some (.int .i64 b6.Line) ∧ w.cell? ⟨g50, 0, none⟩ = some (.int .i64 x52) ∧ w.cell? ⟨g180, 1, none⟩ = some (.int .i64 b6.Col) ∧ w.cell? ⟨g50, 1, none⟩ = some (.int .i64 x53)) (fun w h_ => ⟨h_.1, h_.2.1⟩) ?_
                        refine at_xseg [7, 8, 9, 10, 11, 12, 13, 14, 15, 16, 17, 18, 19, 20, 21, 22, 23, 24, 25, 26, 27, 28, 29, 30, 31, 32, 33] 0 (#[true, true, true, true, true, true, true, true, true, true, true, true, true, true, true, true, true, true, true, true, true, true, true, true, true, true, true, true, true, true, true, true, true, true]) rfl (by kernel_rfl) [(7, .bool false), (9, .int .i64 b6.Line), (11, .int .i64 x52), (14, .bool false), (16, .int .i64 b6.Line), (18, .int .i64 x52), (20, .bool true), (22, .int .i64 b6.Col), (24, .int .i64 x53), (28, .bool true)] [3, 4, 5, 6, 7, 8, 9, 79] (L2 := [(3, .slice A12 b1.1.length c13), (4, .pointer (some ⟨g20, 0, none⟩)), (5, .int .i64 b1.2.2), (6, .int .i64 b3), (7, .pointer (some ⟨g50, 0, none⟩)), (8, .int .i64 x51), (9, .pointer (some ⟨g180, 0, none⟩)), (79, .bool true)]) (obs := [fun _ => (.bool (!((b6.Line == b7.Line) && ((b6.Col == b7.Col) && true))) : Value) = .bool false, fun w => w.cell? ⟨g180, 0, none⟩ = some (.int .i64 b6.Line), fun w => w.cell? ⟨g50, 0, none⟩ = some (.int .i64 x52), fun _ => (.bool (decide (b6.Line < x52)) : Value) = .bool false, fun w => w.cell? ⟨g180, 0, none⟩ = some (.int .i64 b6.Line), fun w => w.cell? ⟨g50, 0, none⟩ = some (.int .i64 x52), fun _ => (.bool (b6.Line == x52) : Value) = .bool true, fun w => w.cell? ⟨g180, 1, none⟩ = some (.int .i64 b6.Col), fun w => w.cell? ⟨g50, 1, none⟩ = some (.int .i64 x53), fun _ => (.bool (decide (b6.Col < x53)) : Value) = .bool true]) (by kernel_rfl) (by kernel_rfl) (by kernel_rfl) (.inr fun w hs => ⟨cellsV (k := 2) hs rfl _ 0 (Nat.le_of_ble_eq_true (by kernel_rfl)) rfl, cellsV (k := 4) hs rfl _ 0 (Nat.le_of_ble_eq_true (by kernel_rfl)) rfl, hs.var (k := 2) rfl 0 rfl, hs.var (k := 5) rfl 0 rfl, hs.var (k := 2) rfl 0 rfl, hs.var (k := 5) rfl 0 rfl, hs.var (k := 2) rfl 1 rfl, hs.var (k := 5) rfl 1 rfl⟩) (fun w hS => ⟨congrArg Value.bool (not_ff (h188)), hS.2.2.1, hS.2.2.2.1, congrArg Value.bool (decide_eq_false h189), hS.2.2.2.2.1, hS.2.2.2.2.2.1, congrArg Value.bool (beq_iff_eq.2 h190), hS.2.2.2.2.2.2.1, hS.2.2.2.2.2.2.2, congrArg Value.bool (decide_eq_true h191)⟩) (fun w hs => ⟨congrArg Value.bool (not_ff (h188)), hs.var (k := 2) rfl 0 rfl, hs.var (k := 5) rfl 0 rfl, congrArg Value.bool (decide_eq_false h189), hs.var (k := 2) rfl 0 rfl, hs.var (k := 5) rfl 0 rfl, congrArg Value.bool (beq_iff_eq.2 h190), hs.var (k := 2) rfl 1 rfl, hs.var (k := 5) rfl 1 rfl, congrArg Value.bool (decide_eq_true h191)⟩) ?_
                        refine at_xend (by kernel_rfl) ?_
                        refine at_thn ?_
                        refine at_cond_t rfl (rfl) ?_
                        refine at_seq ?_
                        refine at_reg [] [2] (L2 := [(2, .bool false)]) (obs := []) (by kernel_rfl) ?_ ?_
                        · intro w hs; exact trivial
                        refine at_thn ?_
                        refine at_ret ?_
                        refine at_then_ret ?_
                        refine at_in_ret ?_
                        refine at_then_ret ?_
                        refine at_then_ret ?_
                        refine at_in_ret ?_
                        refine at_then_ret ?_
                        obtain rfl := Option.some.inj H
                        refine at_drop (k := 0) rfl rfl ?_
                        refine at_eqM (M1 := (s18 :: [(g180, .cells #[.int .i64 b6.Line, .int .i64 b6.Col] 31 (0, 0))] :: s171 :: [(g20, .cells #[.slice A16 b1.2.1.Points.length c17, .int .i64 b1.2.1.Cursor, .int .i64 b1.2.1.Mark] 25 (0, 0))] :: [(g50, .cells #[.int .i64 x52, .int .i64 x53] 31 (0, 0))] :: Fs)) (M2 := (s18 :: [(g180, .cells #[.int .i64 b6.Line, .int .i64 b6.Col] 31 (0, 0))] :: s171 :: [(g20, .cells #[.slice A16 b1.2.1.Points.length c17, .int .i64 b1.2.1.Cursor, .int .i64 b1.2.1.Mark] 25 (0, 0))] :: [(g50, .cells #[.int .i64 x52, .int .i64 x53] 31 (0, 0))] :: Fs)) rfl rfl ?_
                        refine at_drop (k := 0) rfl rfl ?_
                        refine at_eqM (M1 := ([(g180, .cells #[.int .i64 b6.Line, .int .i64 b6.Col] 31 (0, 0))] :: s171 :: [(g20, .cells #[.slice A16 b1.2.1.Points.length c17, .int .i64 b1.2.1.Cursor, .int .i64 b1.2.1.Mark] 25 (0, 0))] :: [(g50, .cells #[.int .i64 x52, .int .i64 x53] 31 (0, 0))] :: Fs)) (M2 := ([(g180, .cells #[.int .i64 b6.Line, .int .i64 b6.Col] 31 (0, 0))] :: s171 :: [(g20, .cells #[.slice A16 b1.2.1.Points.length c17, .int .i64 b1.2.1.Cursor, .int .i64 b1.2.1.Mark] 25 (0, 0))] :: [(g50, .cells #[.int .i64 x52, .int .i64 x53] 31 (0, 0))] :: Fs)) rfl rfl ?_
                        refine at_drop (k := 0) rfl rfl ?_
                        refine at_eqM (M1 := (s171 :: [(g20, .cells #[.slice A16 b1.2.1.Points.length c17, .int .i64 b1.2.1.Cursor, .int .i64 b1.2.1.Mark] 25 (0, 0))] :: [(g50, .cells #[.int .i64 x52, .int .i64 x53] 31 (0, 0))] :: Fs)) (M2 := (s171 :: [(g20, .cells #[.slice A16 b1.2.1.Points.length c17, .int .i64 b1.2.1.Cursor, .int .i64 b1.2.1.Mark] 25 (0, 0))] :: [(g50, .cells #[.int .i64 x52, .int .i64 x53] 31 (0, 0))] :: Fs)) rfl rfl ?_
                        refine at_drop (k := 0) rfl rfl ?_
                        refine at_eqM (M1 := ([(g20, .cells #[.slice A16 b1.2.1.Points.length c17, .int .i64 b1.2.1.Cursor, .int .i64 b1.2.1.Mark] 25 (0, 0))] :: [(g50, .cells #[.int .i64 x52, .int .i64 x53] 31 (0, 0))] :: Fs)) (M2 := ([(g20, .cells #[.slice A16 b1.2.1.Points.length c17, .int .i64 b1.2.1.Cursor, .int .i64 b1.2.1.Mark] 25 (0, 0))] :: [(g50, .cells #[.int .i64 x52, .int .i64 x53] 31 (0, 0))] :: Fs)) rfl rfl ?_
                        refine at_drop (k := 0) rfl rfl ?_
                        refine at_eqM (M1 := ([(g50, .cells #[.int .i64 x52, .int .i64 x53] 31 (0, 0))] :: Fs)) (M2 := ([(g50, .cells #[.int .i64 x52, .int .i64 x53] 31 (0, 0))] :: Fs)) rfl rfl ?_
                        refine at_drop (k := 0) rfl rfl ?_
                        refine at_eqM (M1 := (Fs)) (M2 := (Fs)) rfl rfl ?_
                        refine at_done (vs := [.bool false]) (obs := []) (.inl rfl) [.tmp 2] [] rfl (by kernel_rfl) (fun w hs => trivial) (fun w hs => ⟨_, _, [], rfl, ⟨rfl, rfl⟩, hle, hs⟩)
                      · rw [if_neg h191] at H
                        refine at_xweak (S' := fun w => CellsAt w ⟨g180, 0, none⟩ [.int .i64 b6.Line, .int .i64 b6.Col] 0 ∧ CellsAt w ⟨g20, 0, none⟩ [.slice A16 b1.2.1.Points.length c17, .int .i64 b1.2.1.Cursor, .int .i64 b1.2.1.Mark] 0 ∧ w.cell? ⟨g180, 0, none⟩ = some (.int .i64 b6.Line) ∧ w.cell? ⟨g50, 0, none⟩ = some (.int .i64 x52) ∧ w.cell? ⟨g180, 0, none⟩ = some (.int .i64 b6.Line) ∧ w.cell? ⟨g50, 0, none⟩ = some (.int .i64 x52) ∧ w.cell? ⟨g180, 1, none⟩ = some (.int .i64 b6.Col) ∧ w.cell? ⟨g50, 1, none⟩ = some (.int .i64 x53) ∧ w.cell? ⟨g180, 1, none⟩ = some (.int .i64 b6.Col)) (fun w h_ => ⟨h_.1, h_.2.1⟩) ?_
                        refine at_xseg [7, 8, 9, 10, 11, 12, 13, 14, 15, 16, 17, 18, 19, 20, 21, 22, 23, 24, 25, 26, 27, 28, 29, 30, 31, 32, 33] 0 (#[true, true, true, true, true, true, true, true, true, true, true, true, true, true, true, true, true, true, true, true, true, true, true, true, true, true, true, true, true, true, true, true, true, true]) rfl (by kernel_rfl) [(7, .bool false), (9, .int .i64 b6.Line), (11, .int .i64 x52), (14, .bool false), (16, .int .i64 b6.Line), (18, .int .i64 x52), (20, .bool true), (22, .int .i64 b6.Col), (24, .int .i64 x53), (28, .bool false), (30, .int .i64 b6.Col)] [3, 4, 5, 6, 7, 8, 9, 79] (L2 := [(3, .slice A12 b1.1.length c13), (4, .pointer (some ⟨g20, 0, none⟩)), (5, .int .i64 b1.2.2), (6, .int .i64 b3), (7, .pointer (some ⟨g50, 0, none⟩)), (8, .int .i64 x51), (9, .pointer (some ⟨g180, 0, none⟩)), (79, .bool (decide (b6.Col ≥ b1.2.2)))]) (obs := [fun _ => (.bool (!((b6.Line == b7.Line) && ((b6.Col == b7.Col) && true))) : Value) = .bool false, fun w => w.cell? ⟨g180, 0, none⟩ = some (.int .i64 b6.Line), fun w => w.cell? ⟨g50, 0, none⟩ = some (.int .i64 x52), fun _ => (.bool (decide (b6.Line < x52)) : Value) = .bool false, fun w => w.cell? ⟨g180, 0, none⟩ = some (.int .i64 b6.Line), fun w => w.cell? ⟨g50, 0, none⟩ = some (.int .i64 x52), fun _ => (.bool (b6.Line == x52) : Value) = .bool true, fun w => w.cell? ⟨g180, 1, none⟩ = some (.int .i64 b6.Col), fun w => w.cell? ⟨g50, 1, none⟩ = some (.int .i64 x53), fun _ => (.bool (decide (b6.Col < x53)) : Value) = .bool false, fun w => w.cell? ⟨g180, 1, none⟩ = some (.int .i64 b6.Col)]) (by kernel_rfl) (by kernel_rfl) (by kernel_rfl) (.inr fun w hs => ⟨cellsV (k := 2) hs rfl _ 0 (Nat.le_of_ble_eq_true (by kernel_rfl)) rfl, cellsV (k := 4) hs rfl _ 0 (Nat.le_of_ble_eq_true (by kernel_rfl)) rfl, hs.var (k := 2) rfl 0 rfl, hs.var (k := 5) rfl 0 rfl, hs.var (k := 2) rfl 0 rfl, hs.var (k := 5) rfl 0 rfl, hs.var (k := 2) rfl 1 rfl, hs.var (k := 5) rfl 1 rfl, hs.var (k := 2) rfl 1 rfl⟩) (fun w hS => ⟨congrArg Value.bool (not_ff (h188)), hS.2.2.1, hS.2.2.2.1, congrArg Value.bool (decide_eq_false h189), hS.2.2.2.2.1, hS.2.2.2.2.2.1, congrArg Value.bool (beq_iff_eq.2 h190), hS.2.2.2.2.2.2.1, hS.2.2.2.2.2.2.2.1, congrArg Value.bool (decide_eq_false h191), hS.2.2.2.2.2.2.2.2⟩) (fun w hs => ⟨congrArg Value.bool (not_ff (h188)), hs.var (k := 2) rfl 0 rfl, hs.var (k := 5) rfl 0 rfl, congrArg Value.bool (decide_eq_false h189), hs.var (k := 2) rfl 0 rfl, hs.var (k := 5) rfl 0 rfl, congrArg Value.bool (beq_iff_eq.2 h190), hs.var (k := 2) rfl 1 rfl, hs.var (k := 5) rfl 1 rfl, congrArg Value.bool (decide_eq_false h191), hs.var (k := 2) rfl 1 rfl⟩) ?_
                        refine at_xend (by kernel_rfl) ?_
                        refine at_thn ?_
                        by_cases h192 : b6.Col ≥ b1.2.2
                        · rw [if_pos h192] at H
                          refine at_cond_t rfl (decide_eq_true h192) ?_
                          refine at_seq ?_
                          refine at_reg [] [2] (L2 := [(2, .bool false)]) (obs := []) (by kernel_rfl) ?_ ?_
                          · intro w hs; exact trivial
                          refine at_thn ?_
                          refine at_ret ?_
                          refine at_then_ret ?_
                          refine at_in_ret ?_
                          refine at_then_ret ?_
                          refine at_then_ret ?_
                          refine at_in_ret ?_
                          refine at_then_ret ?_
                          obtain rfl := Option.some.inj H
                          refine at_drop (k := 0) rfl rfl ?_
                          refine at_eqM (M1 := (s18 :: [(g180, .cells #[.int .i64 b6.Line, .int .i64 b6.Col] 31 (0, 0))] :: s171 :: [(g20, .cells #[.slice A16 b1.2.1.Points.length c17, .int .i64 b1.2.1.Cursor, .int .i64 b1.2.1.Mark] 25 (0, 0))] :: [(g50, .cells #[.int .i64 x52, .int .i64 x53] 31 (0, 0))] :: Fs)) (M2 := (s18 :: [(g180, .cells #[.int .i64 b6.Line, .int .i64 b6.Col] 31 (0, 0))] :: s171 :: [(g20, .cells #[.slice A16 b1.2.1.Points.length c17, .int .i64 b1.2.1.Cursor, .int .i64 b1.2.1.Mark] 25 (0, 0))] :: [(g50, .cells #[.int .i64 x52, .int .i64 x53] 31 (0, 0))] :: Fs)) rfl rfl ?_
                          refine at_drop (k := 0) rfl rfl ?_
                          refine at_eqM (M1 := ([(g180, .cells #[.int .i64 b6.Line, .int .i64 b6.Col] 31 (0, 0))] :: s171 :: [(g20, .cells #[.slice A16 b1.2.1.Points.length c17, .int .i64 b1.2.1.Cursor, .int .i64 b1.2.1.Mark] 25 (0, 0))] :: [(g50, .cells #[.int .i64 x52, .int .i64 x53] 31 (0, 0))] :: Fs)) (M2 := ([(g180, .cells #[.int .i64 b6.Line, .int .i64 b6.Col] 31 (0, 0))] :: s171 :: [(g20, .cells #[.slice A16 b1.2.1.Points.length c17, .int .i64 b1.2.1.Cursor, .int .i64 b1.2.1.Mark] 25 (0, 0))] :: [(g50, .cells #[.int .i64 x52, .int .i64 x53] 31 (0, 0))] :: Fs)) rfl rfl ?_
                          refine at_drop (k := 0) rfl rfl ?_
                          refine at_eqM (M1 := (s171 :: [(g20, .cells #[.slice A16 b1.2.1.Points.length c17, .int .i64 b1.2.1.Cursor, .int .i64 b1.2.1.Mark] 25 (0, 0))] :: [(g50, .cells #[.int .i64 x52, .int .i64 x53] 31 (0, 0))] :: Fs)) (M2 := (s171 :: [(g20, .cells #[.slice A16 b1.2.1.Points.length c17, .int .i64 b1.2.1.Cursor, .int .i64 b1.2.1.Mark] 25 (0, 0))] :: [(g50, .cells #[.int .i64 x52, .int .i64 x53] 31 (0, 0))] :: Fs)) rfl rfl ?_
                          refine at_drop (k := 0) rfl rfl ?_
                          refine at_eqM (M1 := ([(g20, .cells #[.slice A16 b1.2.1.Points.length c17, .int .i64 b1.2.1.Cursor, .int .i64 b1.2.1.Mark] 25 (0, 0))] :: [(g50, .cells #[.int .i64 x52, .int .i64 x53] 31 (0, 0))] :: Fs)) (M2 := ([(g20, .cells #[.slice A16 b1.2.1.Points.length c17, .int .i64 b1.2.1.Cursor, .int .i64 b1.2.1.Mark] 25 (0, 0))] :: [(g50, .cells #[.int .i64 x52, .int .i64 x53] 31 (0, 0))] :: Fs)) rfl rfl ?_
                          refine at_drop (k := 0) rfl rfl ?_
                          refine at_eqM (M1 := ([(g50, .cells #[.int .i64 x52, .int .i64 x53] 31 (0, 0))] :: Fs)) (M2 := ([(g50, .cells #[.int .i64 x52, .int .i64 x53] 31 (0, 0))] :: Fs)) rfl rfl ?_
                          refine at_drop (k := 0) rfl rfl ?_
                          refine at_eqM (M1 := (Fs)) (M2 := (Fs)) rfl rfl ?_
                          refine at_done (vs := [.bool false]) (obs := []) (.inl rfl) [.tmp 2] [] rfl (by kernel_rfl) (fun w hs => trivial) (fun w hs => ⟨_, _, [], rfl, ⟨rfl, rfl⟩, hle, hs⟩)
                        · rw [if_neg h192] at H
                          refine at_cond_f rfl (decide_eq_false h192) ?_
                          refine at_skip ?_
                          refine at_thn ?_
                          refine at_ops [0, 1] rfl ?_
                          refine at_seg [0] [1] rfl [(0, .agg #[.int .i64 b6.Line, .int .i64 b6.Col])] [3, 4, 5, 6, 7, 8, 80] (L2 := [(3, .slice A12 b1.1.length c13), (4, .pointer (some ⟨g20, 0, none⟩)), (5, .int .i64 b1.2.2), (6, .int .i64 b3), (7, .pointer (some ⟨g50, 0, none⟩)), (8, .int .i64 x51), (80, .agg #[.int .i64 b6.Line, .int .i64 b6.Col])]) (obs := [fun w => CellsAt w ⟨g180, 0, none⟩ [.int .i64 b6.Line, .int .i64 b6.Col] 0]) (by kernel_rfl) ?_ ?_
                          · intro w hs; exact cellsV (k := 2) hs rfl _ 0 (Nat.le_of_ble_eq_true (by kernel_rfl)) rfl
                          refine at_eff rfl rfl ?_
                          refine eff_store 5 rfl rfl rfl rfl rfl rfl (.inl (Nat.le_refl _)) rfl (Nat.le_of_ble_eq_true (by kernel_rfl)) rfl ?_
                          refine at_eqM (M1 := (s14 :: s18 :: [(g180, .cells #[.int .i64 b6.Line, .int .i64 b6.Col] 31 (0, 0))] :: s171 :: [(g20, .cells #[.slice A16 b1.2.1.Points.length c17, .int .i64 b1.2.1.Cursor, .int .i64 b1.2.1.Mark] 25 (0, 0))] :: [(g50, .cells #[.int .i64 b6.Line, .int .i64 b6.Col] 31 (0, 0))] :: Fs)) (M2 := (s14 :: s18 :: [(g180, .cells #[.int .i64 b6.Line, .int .i64 b6.Col] 31 (0, 0))] :: s171 :: [(g20, .cells #[.slice A16 b1.2.1.Points.length c17, .int .i64 b1.2.1.Cursor, .int .i64 b1.2.1.Mark] 25 (0, 0))] :: [(g50, .cells #[.int .i64 b6.Line, .int .i64 b6.Col] 31 (0, 0))] :: Fs)) rfl rfl ?_
                          refine at_end ?_
                          refine at_in_norm ?_
                          refine at_thn ?_
                          refine at_reg [] [3, 4, 5, 6, 7, 8] (L2 := [(3, .slice A12 b1.1.length c13), (4, .pointer (some ⟨g20, 0, none⟩)), (5, .int .i64 b1.2.2), (6, .int .i64 b3), (7, .pointer (some ⟨g50, 0, none⟩)), (8, .int .i64 (IntKind.i64.wrap (x51 + 1)))]) (obs := []) (by kernel_rfl) ?_ ?_
                          · intro w hs; exact trivial
                          refine at_thn ?_
                          refine at_drop (k := 2) rfl rfl ?_
                          refine at_eqM (M1 := (s14 :: s18 :: s171 :: [(g20, .cells #[.slice A16 b1.2.1.Points.length c17, .int .i64 b1.2.1.Cursor, .int .i64 b1.2.1.Mark] 25 (0, 0))] :: [(g50, .cells #[.int .i64 b6.Line, .int .i64 b6.Col] 31 (0, 0))] :: Fs)) (M2 := (s14 :: s18 :: s171 :: [(g20, .cells #[.slice A16 b1.2.1.Points.length c17, .int .i64 b1.2.1.Cursor, .int .i64 b1.2.1.Mark] 25 (0, 0))] :: [(g50, .cells #[.int .i64 b6.Line, .int .i64 b6.Col] 31 (0, 0))] :: Fs)) rfl rfl ?_
                          refine at_drop (k := 2) rfl rfl ?_
                          refine at_eqM (M1 := (s14 :: s18 :: [(g20, .cells #[.slice A16 b1.2.1.Points.length c17, .int .i64 b1.2.1.Cursor, .int .i64 b1.2.1.Mark] 25 (0, 0))] :: [(g50, .cells #[.int .i64 b6.Line, .int .i64 b6.Col] 31 (0, 0))] :: Fs)) (M2 := (s14 :: s18 :: [(g20, .cells #[.slice A16 b1.2.1.Points.length c17, .int .i64 b1.2.1.Cursor, .int .i64 b1.2.1.Mark] 25 (0, 0))] :: [(g50, .cells #[.int .i64 b6.Line, .int .i64 b6.Col] 31 (0, 0))] :: Fs)) rfl rfl ?_
                          refine at_perm ((perm_at (k := 2) rfl).trans (((perm_at (k := 2) rfl).trans ((List.Perm.refl _).cons _)).cons _)) ?_
                          refine at_keep [3, 4, 5, 6, 7, 8] (L2 := [(3, .slice A12 b1.1.length c13), (4, .pointer (some ⟨g20, 0, none⟩)), (5, .int .i64 b1.2.2), (6, .int .i64 b3), (7, .pointer (some ⟨g50, 0, none⟩)), (8, .int .i64 (IntKind.i64.wrap (x51 + 1)))]) rfl ?_
                          exact ih55 _ (by omega) _ _ _ ⟨IntKind.i64.wrap (x51 + 1), b6.Line, b6.Col, rfl, rfl, H, hle, by omega, ho15, ho19⟩
                    · rw [if_neg h190] at H
                      refine at_xweak (S' := fun w => CellsAt w ⟨g180, 0, none⟩ [.int .i64 b6.Line, .int .i64 b6.Col] 0 ∧ CellsAt w ⟨g20, 0, none⟩ [.slice A16 b1.2.1.Points.length c17, .int .i64 b1.2.1.Cursor, .int .i64 b1.2.1.Mark] 0 ∧ w.cell? ⟨g180, 0, none⟩ = some (.int .i64 b6.Line) ∧ w.cell? ⟨g50, 0, none⟩ = some (.int .i64 x52) ∧ w.cell? ⟨g180, 0, none⟩ = some (.int .i64 b6.Line) ∧ w.cell? ⟨g50, 0, none⟩ = some (.int .i64 x52) ∧ w.cell? ⟨g180, 1, none⟩ = some (.int .i64 b6.Col)) (fun w h_ => ⟨h_.1, h_.2.1⟩) ?_
                      refine at_xseg [7, 8, 9, 10, 11, 12, 13, 14, 15, 16, 17, 18, 19, 20, 21, 22, 23, 24, 25, 26, 27, 28, 29, 30, 31, 32, 33] 0 (#[true, true, true, true, true, true, true, true, true, true, true, true, true, true, true, true, true, true, true, true, true, true, true, true, true, true, true, true, true, true, true, true, true, true]) rfl (by kernel_rfl) [(7, .bool false), (9, .int .i64 b6.Line), (11, .int .i64 x52), (14, .bool false), (16, .int .i64 b6.Line), (18, .int .i64 x52), (20, .bool false), (30, .int .i64 b6.Col)] [3, 4, 5, 6, 7, 8, 9, 79] (L2 := [(3, .slice A12 b1.1.length c13), (4, .pointer (some ⟨g20, 0, none⟩)), (5, .int .i64 b1.2.2), (6, .int .i64 b3), (7, .pointer (some ⟨g50, 0, none⟩)), (8, .int .i64 x51), (9, .pointer (some ⟨g180, 0, none⟩)), (79, .bool (decide (b6.Col ≥ b1.2.2)))]) (obs := [fun _ => (.bool (!((b6.Line == b7.Line) && ((b6.Col == b7.Col) && true))) : Value) = .bool false, fun w => w.cell? ⟨g180, 0, none⟩ = some (.int .i64 b6.Line), fun w => w.cell? ⟨g50, 0, none⟩ = some (.int .i64 x52), fun _ => (.bool (decide (b6.Line < x52)) : Value) = .bool false, fun w => w.cell? ⟨g180, 0, none⟩ = some (.int .i64 b6.Line), fun w => w.cell? ⟨g50, 0, none⟩ = some (.int .i64 x52), fun _ => (.bool (b6.Line == x52) : Value) = .bool false, fun w => w.cell? ⟨g180, 1, none⟩ = some (.int .i64 b6.Col)]) (by kernel_rfl) (by kernel_rfl) (by kernel_rfl) (.inr fun w hs => ⟨cellsV (k := 2) hs rfl _ 0 (Nat.le_of_ble_eq_true (by kernel_rfl)) rfl, cellsV (k := 4) hs rfl _ 0 (Nat.le_of_ble_eq_true (by kernel_rfl)) rfl, hs.var (k := 2) rfl 0 rfl, hs.var (k := 5) rfl 0 rfl, hs.var (k := 2) rfl 0 rfl, hs.var (k := 5) rfl 0 rfl, hs.var (k := 2) rfl 1 rfl⟩) (fun w hS => ⟨congrArg Value.bool (not_ff (h188)), hS.2.2.1, hS.2.2.2.1, congrArg Value.bool (decide_eq_false h189), hS.2.2.2.2.1, hS.2.2.2.2.2.1, congrArg Value.bool (beq_eq_false_iff_ne.2 h190), hS.2.2.2.2.2.2⟩) (fun w hs => ⟨congrArg Value.bool (not_ff (h188)), hs.var (k := 2) rfl 0 rfl, hs.var (k := 5) rfl 0 rfl, congrArg Value.bool (decide_eq_false h189), hs.var (k := 2) rfl 0 rfl, hs.var (k := 5) rfl 0 rfl, congrArg Value.bool (beq_eq_false_iff_ne.2 h190), hs.var (k := 2) rfl 1 rfl⟩) ?_
                      refine at_xend (by kernel_rfl) ?_
                      refine at_thn ?_
                      by_cases h193 : b6.Col ≥ b1.2.2
                      · rw [if_pos h193] at H
                        refine at_cond_t rfl (decide_eq_true h193) ?_
                        refine at_seq ?_
                        refine at_reg [] [2] (L2 := [(2, .bool false)]) (obs := []) (by kernel_rfl) ?_ ?_
                        · intro w hs; exact trivial
                        refine at_thn ?_
                        refine at_ret ?_
                        refine at_then_ret ?_
                        refine at_in_ret ?_
                        refine at_then_ret ?_
                        refine at_then_ret ?_
                        refine at_in_ret ?_
                        refine at_then_ret ?_
                        obtain rfl := Option.some.inj H
                        refine at_drop (k := 0) rfl rfl ?_
                        refine at_eqM (M1 := (s18 :: [(g180, .cells #[.int .i64 b6.Line, .int .i64 b6.Col] 31 (0, 0))] :: s171 :: [(g20, .cells #[.slice A16 b1.2.1.Points.length c17, .int .i64 b1.2.1.Cursor, .int .i64 b1.2.1.Mark] 25 (0, 0))] :: [(g50, .cells #[.int .i64 x52, .int .i64 x53] 31 (0, 0))] :: Fs)) (M2 := (s18 :: [(g180, .cells #[.int .i64 b6.Line, .int .i64 b6.Col] 31 (0, 0))] :: s171 :: [(g20, .cells #[.slice A16 b1.2.1.Points.length c17, .int .i64 b1.2.1.Cursor, .int .i64 b1.2.1.Mark] 25 (0, 0))] :: [(g50, .cells #[.int .i64 x52, .int .i64 x53] 31 (0, 0))] :: Fs)) rfl rfl ?_
                        refine at_drop (k := 0) rfl rfl ?_
                        refine at_eqM (M1 := ([(g180, .cells #[.int .i64 b6.Line, .int .i64 b6.Col] 31 (0, 0))] :: s171 :: [(g20, .cells #[.slice A16 b1.2.1.Points.length c17, .int .i64 b1.2.1.Cursor, .int .i64 b1.2.1.Mark] 25 (0, 0))] :: [(g50, .cells #[.int .i64 x52, .int .i64 x53] 31 (0, 0))] :: Fs)) (M2 := ([(g180, .cells #[.int .i64 b6.Line, .int .i64 b6.Col] 31 (0, 0))] :: s171 :: [(g20, .cells #[.slice A16 b1.2.1.Points.length c17, .int .i64 b1.2.1.Cursor, .int .i64 b1.2.1.Mark] 25 (0, 0))] :: [(g50, .cells #[.int .i64 x52, .int .i64 x53] 31 (0, 0))] :: Fs)) rfl rfl ?_
                        refine at_drop (k := 0) rfl rfl ?_
                        refine at_eqM (M1 := (s171 :: [(g20, .cells #[.slice A16 b1.2.1.Points.length c17, .int .i64 b1.2.1.Cursor, .int .i64 b1.2.1.Mark] 25 (0, 0))] :: [(g50, .cells #[.int .i64 x52, .int .i64 x53] 31 (0, 0))] :: Fs)) (M2 := (s171 :: [(g20, .cells #[.slice A16 b1.2.1.Points.length c17, .int .i64 b1.2.1.Cursor, .int .i64 b1.2.1.Mark] 25 (0, 0))] :: [(g50, .cells #[.int .i64 x52, .int .i64 x53] 31 (0, 0))] :: Fs)) rfl rfl ?_
                        refine at_drop (k := 0) rfl rfl ?_
                        refine at_eqM (M1 := ([(g20, .cells #[.slice A16 b1.2.1.Points.length c17, .int .i64 b1.2.1.Cursor, .int .i64 b1.2.1.Mark] 25 (0, 0))] :: [(g50, .cells #[.int .i64 x52, .int .i64 x53] 31 (0, 0))] :: Fs)) (M2 := ([(g20, .cells #[.slice A16 b1.2.1.Points.length c17, .int .i64 b1.2.1.Cursor, .int .i64 b1.2.1.Mark] 25 (0, 0))] :: [(g50, .cells #[.int .i64 x52, .int .i64 x53] 31 (0, 0))] :: Fs)) rfl rfl ?_
                        refine at_drop (k := 0) rfl rfl ?_
                        refine at_eqM (M1 := ([(g50, .cells #[.int .i64 x52, .int .i64 x53] 31 (0, 0))] :: Fs)) (M2 := ([(g50, .cells #[.int .i64 x52, .int .i64 x53] 31 (0, 0))] :: Fs)) rfl rfl ?_
                        refine at_drop (k := 0) rfl rfl ?_
                        refine at_eqM (M1 := (Fs)) (M2 := (Fs)) rfl rfl ?_
                        refine at_done (vs := [.bool false]) (obs := []) (.inl rfl) [.tmp 2] [] rfl (by kernel_rfl) (fun w hs => trivial) (fun w hs => ⟨_, _, [], rfl, ⟨rfl, rfl⟩, hle, hs⟩)
                      · rw [if_neg h193] at H
                        refine at_cond_f rfl (decide_eq_false h193) ?_
                        refine at_skip ?_
                        refine at_thn ?_
                        refine at_ops [0, 1] rfl ?_
                        refine at_seg [0] [1] rfl [(0, .agg #[.int .i64 b6.Line, .int .i64 b6.Col])] [3, 4, 5, 6, 7, 8, 80] (L2 := [(3, .slice A12 b1.1.length c13), (4, .pointer (some ⟨g20, 0, none⟩)), (5, .int .i64 b1.2.2), (6, .int .i64 b3), (7, .pointer (some ⟨g50, 0, none⟩)), (8, .int .i64 x51), (80, .agg #[.int .i64 b6.Line, .int .i64 b6.Col])]) (obs := [fun w => CellsAt w ⟨g180, 0, none⟩ [.int .i64 b6.Line, .int .i64 b6.Col] 0]) (by kernel_rfl) ?_ ?_
                        · intro w hs; exact cellsV (k := 2) hs rfl _ 0 (Nat.le_of_ble_eq_true (by kernel_rfl)) rfl
                        refine at_eff rfl rfl ?_
                        refine eff_store 5 rfl rfl rfl rfl rfl rfl (.inl (Nat.le_refl _)) rfl (Nat.le_of_ble_eq_true (by kernel_rfl)) rfl ?_
                        refine at_eqM (M1 := (s14 :: s18 :: [(g180, .cells #[.int .i64 b6.Line, .int .i64 b6.Col] 31 (0, 0))] :: s171 :: [(g20, .cells #[.slice A16 b1.2.1.Points.length c17, .int .i64 b1.2.1.Cursor, .int .i64 b1.2.1.Mark] 25 (0, 0))] :: [(g50, .cells #[.int .i64 b6.Line, .int .i64 b6.Col] 31 (0, 0))] :: Fs)) (M2 := (s14 :: s18 :: [(g180, .cells #[.int .i64 b6.Line, .int .i64 b6.Col] 31 (0, 0))] :: s171 :: [(g20, .cells #[.slice A16 b1.2.1.Points.length c17, .int .i64 b1.2.1.Cursor, .int .i64 b1.2.1.Mark] 25 (0, 0))] :: [(g50, .cells #[.int .i64 b6.Line, .int .i64 b6.Col] 31 (0, 0))] :: Fs)) rfl rfl ?_
                        refine at_end ?_
                        refine at_in_norm ?_
                        refine at_thn ?_
                        refine at_reg [] [3, 4, 5, 6, 7, 8] (L2 := [(3, .slice A12 b1.1.length c13), (4, .pointer (some ⟨g20, 0, none⟩)), (5, .int .i64 b1.2.2), (6, .int .i64 b3), (7, .pointer (some ⟨g50, 0, none⟩)), (8, .int .i64 (IntKind.i64.wrap (x51 + 1)))]) (obs := []) (by kernel_rfl) ?_ ?_
                        · intro w hs; exact trivial
                        refine at_thn ?_
                        refine at_drop (k := 2) rfl rfl ?_
                        refine at_eqM (M1 := (s14 :: s18 :: s171 :: [(g20, .cells #[.slice A16 b1.2.1.Points.length c17, .int .i64 b1.2.1.Cursor, .int .i64 b1.2.1.Mark] 25 (0, 0))] :: [(g50, .cells #[.int .i64 b6.Line, .int .i64 b6.Col] 31 (0, 0))] :: Fs)) (M2 := (s14 :: s18 :: s171 :: [(g20, .cells #[.slice A16 b1.2.1.Points.length c17, .int .i64 b1.2.1.Cursor, .int .i64 b1.2.1.Mark] 25 (0, 0))] :: [(g50, .cells #[.int .i64 b6.Line, .int .i64 b6.Col] 31 (0, 0))] :: Fs)) rfl rfl ?_
                        refine at_drop (k := 2) rfl rfl ?_
                        refine at_eqM (M1 := (s14 :: s18 :: [(g20, .cells #[.slice A16 b1.2.1.Points.length c17, .int .i64 b1.2.1.Cursor, .int .i64 b1.2.1.Mark] 25 (0, 0))] :: [(g50, .cells #[.int .i64 b6.Line, .int .i64 b6.Col] 31 (0, 0))] :: Fs)) (M2 := (s14 :: s18 :: [(g20, .cells #[.slice A16 b1.2.1.Points.length c17, .int .i64 b1.2.1.Cursor, .int .i64 b1.2.1.Mark] 25 (0, 0))] :: [(g50, .cells #[.int .i64 b6.Line, .int .i64 b6.Col] 31 (0, 0))] :: Fs)) rfl rfl ?_
                        refine at_perm ((perm_at (k := 2) rfl).trans (((perm_at (k := 2) rfl).trans ((List.Perm.refl _).cons _)).cons _)) ?_
                        refine at_keep [3, 4, 5, 6, 7, 8] (L2 := [(3, .slice A12 b1.1.length c13), (4, .pointer (some ⟨g20, 0, none⟩)), (5, .int .i64 b1.2.2), (6, .int .i64 b3), (7, .pointer (some ⟨g50, 0, none⟩)), (8, .int .i64 (IntKind.i64.wrap (x51 + 1)))]) rfl ?_
                        exact ih55 _ (by omega) _ _ _ ⟨IntKind.i64.wrap (x51 + 1), b6.Line, b6.Col, rfl, rfl, H, hle, by omega, ho15, ho19⟩
                · rw [if_neg h188] at H
                  refine at_xseg [7, 8, 9, 10, 11, 12, 13, 14, 15, 16, 17, 18, 19, 20, 21, 22, 23, 24, 25, 26, 27, 28, 29, 30, 31, 32, 33] 0 (#[true, true, true, true, true, true, true, true, true, true, true, true, true, true, true, true, true, true, true, true, true, true, true, true, true, true, true, true, true, true, true, true, true, true]) rfl (by kernel_rfl) [(7, .bool true)] [3, 4, 5, 6, 7, 8, 9, 79] (L2 := [(3, .slice A12 b1.1.length c13), (4, .pointer (some ⟨g20, 0, none⟩)), (5, .int .i64 b1.2.2), (6, .int .i64 b3), (7, .pointer (some ⟨g50, 0, none⟩)), (8, .int .i64 x51), (9, .pointer (some ⟨g180, 0, none⟩)), (79, .bool true)]) (obs := [fun _ => (.bool (!((b6.Line == b7.Line) && ((b6.Col == b7.Col) && true))) : Value) = .bool true]) (by kernel_rfl) (by kernel_rfl) (by kernel_rfl) (.inr fun w hs => ⟨cellsV (k := 2) hs rfl _ 0 (Nat.le_of_ble_eq_true (by kernel_rfl)) rfl, cellsV (k := 4) hs rfl _ 0 (Nat.le_of_ble_eq_true (by kernel_rfl)) rfl⟩) (fun w hS => congrArg Value.bool (not_tt (ff_of h188))) (fun w hs => congrArg Value.bool (not_tt (ff_of h188))) ?_
                  refine at_xend (by kernel_rfl) ?_
                  refine at_thn ?_
                  refine at_cond_t rfl (rfl) ?_
                  refine at_seq ?_
                  refine at_reg [] [2] (L2 := [(2, .bool false)]) (obs := []) (by kernel_rfl) ?_ ?_
                  · intro w hs; exact trivial
                  refine at_thn ?_
                  refine at_ret ?_
                  refine at_then_ret ?_
                  refine at_in_ret ?_
                  refine at_then_ret ?_
                  refine at_then_ret ?_
                  refine at_in_ret ?_
                  refine at_then_ret ?_
                  obtain rfl := Option.some.inj H
                  refine at_drop (k := 0) rfl rfl ?_
                  refine at_eqM (M1 := (s18 :: [(g180, .cells #[.int .i64 b6.Line, .int .i64 b6.Col] 31 (0, 0))] :: s171 :: [(g20, .cells #[.slice A16 b1.2.1.Points.length c17, .int .i64 b1.2.1.Cursor, .int .i64 b1.2.1.Mark] 25 (0, 0))] :: [(g50, .cells #[.int .i64 x52, .int .i64 x53] 31 (0, 0))] :: Fs)) (M2 := (s18 :: [(g180, .cells #[.int .i64 b6.Line, .int .i64 b6.Col] 31 (0, 0))] :: s171 :: [(g20, .cells #[.slice A16 b1.2.1.Points.length c17, .int .i64 b1.2.1.Cursor, .int .i64 b1.2.1.Mark] 25 (0, 0))] :: [(g50, .cells #[.int .i64 x52, .int .i64 x53] 31 (0, 0))] :: Fs)) rfl rfl ?_
                  refine at_drop (k := 0) rfl rfl ?_
                  refine at_eqM (M1 := ([(g180, .cells #[.int .i64 b6.Line, .int .i64 b6.Col] 31 (0, 0))] :: s171 :: [(g20, .cells #[.slice A16 b1.2.1.Points.length c17, .int .i64 b1.2.1.Cursor, .int .i64 b1.2.1.Mark] 25 (0, 0))] :: [(g50, .cells #[.int .i64 x52, .int .i64 x53] 31 (0, 0))] :: Fs)) (M2 := ([(g180, .cells #[.int .i64 b6.Line, .int .i64 b6.Col] 31 (0, 0))] :: s171 :: [(g20, .cells #[.slice A16 b1.2.1.Points.length c17, .int .i64 b1.2.1.Cursor, .int .i64 b1.2.1.Mark] 25 (0, 0))] :: [(g50, .cells #[.int .i64 x52, .int .i64 x53] 31 (0, 0))] :: Fs)) rfl rfl ?_
                  refine at_drop (k := 0) rfl rfl ?_
                  refine at_eqM (M1 := (s171 :: [(g20, .cells #[.slice A16 b1.2.1.Points.length c17, .int .i64 b1.2.1.Cursor, .int .i64 b1.2.1.Mark] 25 (0, 0))] :: [(g50, .cells #[.int .i64 x52, .int .i64 x53] 31 (0, 0))] :: Fs)) (M2 := (s171 :: [(g20, .cells #[.slice A16 b1.2.1.Points.length c17, .int .i64 b1.2.1.Cursor, .int .i64 b1.2.1.Mark] 25 (0, 0))] :: [(g50, .cells #[.int .i64 x52, .int .i64 x53] 31 (0, 0))] :: Fs)) rfl rfl ?_
                  refine at_drop (k := 0) rfl rfl ?_
                  refine at_eqM (M1 := ([(g20, .cells #[.slice A16 b1.2.1.Points.length c17, .int .i64 b1.2.1.Cursor, .int .i64 b1.2.1.Mark] 25 (0, 0))] :: [(g50, .cells #[.int .i64 x52, .int .i64 x53] 31 (0, 0))] :: Fs)) (M2 := ([(g20, .cells #[.slice A16 b1.2.1.Points.length c17, .int .i64 b1.2.1.Cursor, .int .i64 b1.2.1.Mark] 25 (0, 0))] :: [(g50, .cells #[.int .i64 x52, .int .i64 x53] 31 (0, 0))] :: Fs)) rfl rfl ?_
                  refine at_drop (k := 0) rfl rfl ?_
                  refine at_eqM (M1 := ([(g50, .cells #[.int .i64 x52, .int .i64 x53] 31 (0, 0))] :: Fs)) (M2 := ([(g50, .cells #[.int .i64 x52, .int .i64 x53] 31 (0, 0))] :: Fs)) rfl rfl ?_
                  refine at_drop (k := 0) rfl rfl ?_
                  refine at_eqM (M1 := (Fs)) (M2 := (Fs)) rfl rfl ?_
                  refine at_done (vs := [.bool false]) (obs := []) (.inl rfl) [.tmp 2] [] rfl (by kernel_rfl) (fun w hs => trivial) (fun w hs => ⟨_, _, [], rfl, ⟨rfl, rfl⟩, hle, hs⟩)
              · refine at_xone (#[true, true, true, true, true, false, true, false]) (by kernel_rfl) rfl rfl ?_
                obtain ⟨i_, hi_, hz_, _, _⟩ := info31
                refine eff_alloc rfl rfl hi_ hz_ #[.int .i64 0, .int .i64 0] rfl (fun g194 => ?_)
                refine at_xS (fun w hs => cellsV (k := 3) hs rfl _ 0 (Nat.le_of_ble_eq_true (by kernel_rfl)) rfl) ?_
                refine at_x1 1 5 (#[true, true, true, true, true, true, true, false]) rfl (by kernel_rfl) (by kernel_rfl) rfl rfl ?_
                obtain ⟨b6, H195, H⟩ := bind_some H
                refine eff_read rfl rfl (rv := .agg #[.int .i64 b6.Line, .int .i64 b6.Col]) (Ms' := (s171 :: s18 :: [(g194, .cells #[.int .i64 0, .int .i64 0] 31 (0, 0))] :: s14 :: [(g20, .cells #[.slice A16 b1.2.1.Points.length c17, .int .i64 b1.2.1.Cursor, .int .i64 b1.2.1.Mark] 25 (0, 0))] :: [(g50, .cells #[.int .i64 x52, .int .i64 x53] 31 (0, 0))] :: Fs)) ok9 rfl rfl ?_ ?_
                · refine Reads.lend (k := 2) rfl (fun J196 hJ197 hin198 => ?_)
                  refine Reads.lend (k := 4) rfl (fun J199 hJ200 hin201 => ?_)
                  have hm_ := impl_ViewSpot.calls (I0 := J199) H195 (ho172.rd (hJ197.trans hJ200) (hin198.mono hJ200)) (ho19.rd (hJ197.trans hJ200) hin201)
                  exact Reads.of_meets (Mr := ([(g194, .cells #[.int .i64 0, .int .i64 0] 31 (0, 0))] :: s14 :: [(g20, .cells #[.slice A16 b1.2.1.Points.length c17, .int .i64 b1.2.1.Cursor, .int .i64 b1.2.1.Mark] 25 (0, 0))] :: [(g50, .cells #[.int .i64 x52, .int .i64 x53] 31 (0, 0))] :: Fs)) (show Meets Try.prog 9 ([.slice A169 b5.length c170, .agg #[.slice A16 b1.2.1.Points.length c17, .int .i64 b1.2.1.Cursor, .int .i64 b1.2.1.Mark], .int .i64 x51, .int .i64 b1.2.2] : List Value).toArray J199 [] _ from hm_) (List.Perm.refl _)
                refine at_xS (fun w hs => cellsV (k := 4) hs rfl _ 0 (Nat.le_of_ble_eq_true (by kernel_rfl)) rfl) ?_
                refine at_x1 0 7 (#[true, true, true, true, true, true, true, true]) rfl (by kernel_rfl) (by kernel_rfl) rfl rfl ?_
                refine eff_store 2 rfl rfl rfl rfl rfl rfl (.inl (Nat.le_refl _)) rfl (Nat.le_of_ble_eq_true (by kernel_rfl)) rfl ?_
                refine at_eqM (M1 := (s171 :: s18 :: [(g194, .cells #[.int .i64 b6.Line, .int .i64 b6.Col] 31 (0, 0))] :: s14 :: [(g20, .cells #[.slice A16 b1.2.1.Points.length c17, .int .i64 b1.2.1.Cursor, .int .i64 b1.2.1.Mark] 25 (0, 0))] :: [(g50, .cells #[.int .i64 x52, .int .i64 x53] 31 (0, 0))] :: Fs)) (M2 := (s171 :: s18 :: [(g194, .cells #[.int .i64 b6.Line, .int .i64 b6.Col] 31 (0, 0))] :: s14 :: [(g20, .cells #[.slice A16 b1.2.1.Points.length c17, .int .i64 b1.2.1.Cursor, .int .i64 b1.2.1.Mark] 25 (0, 0))] :: [(g50, .cells #[.int .i64 x52, .int .i64 x53] 31 (0, 0))] :: Fs)) rfl rfl ?_
                refine at_xX (by kernel_rfl) ?_
                refine at_xend (by kernel_rfl) ?_
                refine at_thn ?_
                refine at_seq ?_
                refine at_seq ?_
                refine at_x hmo (fun w => CellsAt w ⟨g194, 0, none⟩ [.int .i64 b6.Line, .int .i64 b6.Col] 0 ∧ CellsAt w ⟨g20, 0, none⟩ [.slice A16 b1.2.1.Points.length c17, .int .i64 b1.2.1.Cursor, .int .i64 b1.2.1.Mark] 0) [] ?_
                refine at_xseg [0, 1, 2, 3, 4] 29 (#[true, true, true, true, true, false, false, false, false, false, false, false, false, false, false, false, false, false, false, false, false, false, false, false, false, false, false, false, false, false, false, false, false, false]) rfl (by kernel_rfl) [(0, .agg #[.int .i64 b6.Line, .int .i64 b6.Col]), (2, .agg #[.slice A16 b1.2.1.Points.length c17, .int .i64 b1.2.1.Cursor, .int .i64 b1.2.1.Mark])] [3, 4, 5, 6, 7, 8, 9, 46, 47, 48, 49, 50] (L2 := [(3, .slice A12 b1.1.length c13), (4, .pointer (some ⟨g20, 0, none⟩)), (5, .int .i64 b1.2.2), (6, .int .i64 b3), (7, .pointer (some ⟨g50, 0, none⟩)), (8, .int .i64 x51), (9, .pointer (some ⟨g194, 0, none⟩)), (46, .agg #[.int .i64 b6.Line, .int .i64 b6.Col]), (47, .slice A12 b1.1.length c13), (48, .agg #[.slice A16 b1.2.1.Points.length c17, .int .i64 b1.2.1.Cursor, .int .i64 b1.2.1.Mark]), (49, .int .i64 x51), (50, .int .i64 b1.2.2)]) (obs := [fun w => CellsAt w ⟨g194, 0, none⟩ [.int .i64 b6.Line, .int .i64 b6.Col] 0, fun w => CellsAt w ⟨g20, 0, none⟩ [.slice A16 b1.2.1.Points.length c17, .int .i64 b1.2.1.Cursor, .int .i64 b1.2.1.Mark] 0]) (by kernel_rfl) (by kernel_rfl) (by kernel_rfl) (.inr fun w hs => ⟨cellsV (k := 2) hs rfl _ 0 (Nat.le_of_ble_eq_true (by kernel_rfl)) rfl, cellsV (k := 4) hs rfl _ 0 (Nat.le_of_ble_eq_true (by kernel_rfl)) rfl⟩) (fun w hS => ⟨hS.1, hS.2⟩) (fun w hs => ⟨cellsV (k := 2) hs rfl _ 0 (Nat.le_of_ble_eq_true (by kernel_rfl)) rfl, cellsV (k := 4) hs rfl _ 0 (Nat.le_of_ble_eq_true (by kernel_rfl)) rfl⟩) ?_
                refine at_x1 28 5 (#[true, true, true, true, true, true, false, false, false, false, false, false, false, false, false, false, false, false, false, false, false, false, false, false, false, false, false, false, false, false, false, false, false, false]) rfl (by kernel_rfl) (by kernel_rfl) rfl rfl ?_
                obtain ⟨b7, H202, H⟩ := bind_some H
                refine eff_read rfl rfl (rv := .agg #[.int .i64 b7.Line, .int .i64 b7.Col]) (Ms' := (s14 :: s18 :: s171 :: [(g194, .cells #[.int .i64 b6.Line, .int .i64 b6.Col] 31 (0, 0))] :: [(g20, .cells #[.slice A16 b1.2.1.Points.length c17, .int .i64 b1.2.1.Cursor, .int .i64 b1.2.1.Mark] 25 (0, 0))] :: [(g50, .cells #[.int .i64 x52, .int .i64 x53] 31 (0, 0))] :: Fs)) ok10 rfl rfl ?_ ?_
                · refine Reads.lend (k := 3) rfl (fun J203 hJ204 hin205 => ?_)
                  refine Reads.lend (k := 1) rfl (fun J206 hJ207 hin208 => ?_)
                  have hm_ := spec_ViewSpot.calls (I0 := J206) H202 (ho15.rd (hJ204.trans hJ207) (hin205.mono hJ207)) (ho19.rd (hJ204.trans hJ207) hin208)
                  exact Reads.of_meets (Mr := (s171 :: [(g194, .cells #[.int .i64 b6.Line, .int .i64 b6.Col] 31 (0, 0))] :: [(g20, .cells #[.slice A16 b1.2.1.Points.length c17, .int .i64 b1.2.1.Cursor, .int .i64 b1.2.1.Mark] 25 (0, 0))] :: [(g50, .cells #[.int .i64 x52, .int .i64 x53] 31 (0, 0))] :: Fs)) (show Meets Try.prog 10 ([.slice A12 b1.1.length c13, .agg #[.slice A16 b1.2.1.Points.length c17, .int .i64 b1.2.1.Cursor, .int .i64 b1.2.1.Mark], .int .i64 x51, .int .i64 b1.2.2] : List Value).toArray J206 [] _ from hm_) (List.Perm.refl _)
                refine at_xS (fun w hs => ⟨cellsV (k := 3) hs rfl _ 0 (Nat.le_of_ble_eq_true (by kernel_rfl)) rfl, cellsV (k := 4) hs rfl _ 0 (Nat.le_of_ble_eq_true (by kernel_rfl)) rfl⟩) ?_
                refine at_x1 27 6 (#[true, true, true, true, true, true, true, false, false, false, false, false, false, false, false, false, false, false, false, false, false, false, false, false, false, false, false, false, false, false, false, false, false, false]) rfl (by kernel_rfl) (by kernel_rfl) rfl rfl ?_
                refine eff_neAgg (b := ((b6.Line == b7.Line) && ((b6.Col == b7.Col) && true))) 4 rfl rfl (by decide) (by kernel_rfl) rfl rfl (by kernel_rfl) ?_
                refine at_xS (fun w hs => ⟨cellsV (k := 3) hs rfl _ 0 (Nat.le_of_ble_eq_true (by kernel_rfl)) rfl, cellsV (k := 4) hs rfl _ 0 (Nat.le_of_ble_eq_true (by kernel_rfl)) rfl⟩) ?_
                by_cases h209 : ((b6.Line == b7.Line) && ((b6.Col == b7.Col) && true)) = true
                · rw [if_pos h209] at H
                  by_cases h210 : b6.Line < x52
                  · rw [if_pos h210] at H
                    refine at_xweak (S' := fun w => CellsAt w ⟨g194, 0, none⟩ [.int .i64 b6.Line, .int .i64 b6.Col] 0 ∧ CellsAt w ⟨g20, 0, none⟩ [.slice A16 b1.2.1.Points.length c17, .int .i64 b1.2.1.Cursor, .int .i64 b1.2.1.Mark] 0 ∧ w.cell? ⟨g194, 0, none⟩ = some (.int .i64 b6.Line) ∧ w.cell? ⟨g50, 0, none⟩ = some (.int .i64 x52)) (fun w h_ => ⟨h_.1, h_.2.1⟩) ?_
                    refine at_xseg [7, 8, 9, 10, 11, 12, 13, 14, 15, 16, 17, 18, 19, 20, 21, 22, 23, 24, 25, 26, 27, 28, 29, 30, 31, 32, 33] 0 (#[true, true, true, true, true, true, true, true, true, true, true, true, true, true, true, true, true, true, true, true, true, true, true, true, true, true, true, true, true, true, true, true, true, true]) rfl (by kernel_rfl) [(7, .bool false), (9, .int .i64 b6.Line), (11, .int .i64 x52), (14, .bool true)] [3, 4, 5, 6, 7, 8, 9, 79] (L2 := [(3, .slice A12 b1.1.length c13), (4, .pointer (some ⟨g20, 0, none⟩)), (5, .int .i64 b1.2.2), (6, .int .i64 b3), (7, .pointer (some ⟨g50, 0, none⟩)), (8, .int .i64 x51), (9, .pointer (some ⟨g194, 0, none⟩)), (79, .bool true)]) (obs := [fun _ => (.bool (!((b6.Line == b7.Line) && ((b6.Col == b7.Col) && true))) : Value) = .bool false, fun w => w.cell? ⟨g194, 0, none⟩ = some (.int .i64 b6.Line), fun w => w.cell? ⟨g50, 0, none⟩ = some (.int .i64 x52), fun _ => (.bool (decide (b6.Line < x52)) : Value) = .bool true]) (by kernel_rfl) (by kernel_rfl) (by kernel_rfl) (.inr fun w hs => ⟨cellsV (k := 3) hs rfl _ 0 (Nat.le_of_ble_eq_true (by kernel_rfl)) rfl, cellsV (k := 4) hs rfl _ 0 (Nat.le_of_ble_eq_true (by kernel_rfl)) rfl, hs.var (k := 3) rfl 0 rfl, hs.var (k := 5) rfl 0 rfl⟩) (fun w hS => ⟨congrArg Value.bool (not_ff (h209)), hS.2.2.1, hS.2.2.2, congrArg Value.bool (decide_eq_true h210)⟩) (fun w hs => ⟨congrArg Value.bool (not_ff (h209)), hs.var (k := 3) rfl 0 rfl, hs.var (k := 5) rfl 0 rfl, congrArg Value.bool (decide_eq_true h210)⟩) ?_
                    refine at_xend (by kernel_rfl) ?_
                    refine at_thn ?_
                    refine at_cond_t rfl (rfl) ?_
                    refine at_seq ?_
                    refine at_reg [] [2] (L2 := [(2, .bool false)]) (obs := []) (by kernel_rfl) ?_ ?_
                    · intro w hs; exact trivial
                    refine at_thn ?_
                    refine at_ret ?_
                    refine at_then_ret ?_
                    refine at_in_ret ?_
                    refine at_then_ret ?_
                    refine at_then_ret ?_
                    refine at_in_ret ?_
                    refine at_then_ret ?_
                    obtain rfl := Option.some.inj H
                    refine at_drop (k := 0) rfl rfl ?_
                    refine at_eqM (M1 := (s18 :: s171 :: [(g194, .cells #[.int .i64 b6.Line, .int .i64 b6.Col] 31 (0, 0))] :: [(g20, .cells #[.slice A16 b1.2.1.Points.length c17, .int .i64 b1.2.1.Cursor, .int .i64 b1.2.1.Mark] 25 (0, 0))] :: [(g50, .cells #[.int .i64 x52, .int .i64 x53] 31 (0, 0))] :: Fs)) (M2 := (s18 :: s171 :: [(g194, .cells #[.int .i64 b6.Line, .int .i64 b6.Col] 31 (0, 0))] :: [(g20, .cells #[.slice A16 b1.2.1.Points.length c17, .int .i64 b1.2.1.Cursor, .int .i64 b1.2.1.Mark] 25 (0, 0))] :: [(g50, .cells #[.int .i64 x52, .int .i64 x53] 31 (0, 0))] :: Fs)) rfl rfl ?_
                    refine at_drop (k := 0) rfl rfl ?_
                    refine at_eqM (M1 := (s171 :: [(g194, .cells #[.int .i64 b6.Line, .int .i64 b6.Col] 31 (0, 0))] :: [(g20, .cells #[.slice A16 b1.2.1.Points.length c17, .int .i64 b1.2.1.Cursor, .int .i64 b1.2.1.Mark] 25 (0, 0))] :: [(g50, .cells #[.int .i64 x52, .int .i64 x53] 31 (0, 0))] :: Fs)) (M2 := (s171 :: [(g194, .cells #[.int .i64 b6.Line, .int .i64 b6.Col] 31 (0, 0))] :: [(g20, .cells #[.slice A16 b1.2.1.Points.length c17, .int .i64 b1.2.1.Cursor, .int .i64 b1.2.1.Mark] 25 (0, 0))] :: [(g50, .cells #[.int .i64 x52, .int .i64 x53] 31 (0, 0))] :: Fs)) rfl rfl ?_
                    refine at_drop (k := 0) rfl rfl ?_
                    refine at_eqM (M1 := ([(g194, .cells #[.int .i64 b6.Line, .int .i64 b6.Col] 31 (0, 0))] :: [(g20, .cells #[.slice A16 b1.2.1.Points.length c17, .int .i64 b1.2.1.Cursor, .int .i64 b1.2.1.Mark] 25 (0, 0))] :: [(g50, .cells #[.int .i64 x52, .int .i64 x53] 31 (0, 0))] :: Fs)) (M2 := ([(g194, .cells #[.int .i64 b6.Line, .int .i64 b6.Col] 31 (0, 0))] :: [(g20, .cells #[.slice A16 b1.2.1.Points.length c17, .int .i64 b1.2.1.Cursor, .int .i64 b1.2.1.Mark] 25 (0, 0))] :: [(g50, .cells #[.int .i64 x52, .int .i64 x53] 31 (0, 0))] :: Fs)) rfl rfl ?_
                    refine at_drop (k := 0) rfl rfl ?_
                    refine at_eqM (M1 := ([(g20, .cells #[.slice A16 b1.2.1.Points.length c17, .int .i64 b1.2.1.Cursor, .int .i64 b1.2.1.Mark] 25 (0, 0))] :: [(g50, .cells #[.int .i64 x52, .int .i64 x53] 31 (0, 0))] :: Fs)) (M2 := ([(g20, .cells #[.slice A16 b1.2.1.Points.length c17, .int .i64 b1.2.1.Cursor, .int .i64 b1.2.1.Mark] 25 (0, 0))] :: [(g50, .cells #[.int .i64 x52, .int .i64 x53] 31 (0, 0))] :: Fs)) rfl rfl ?_
                    refine at_drop (k := 0) rfl rfl ?_
                    refine at_eqM (M1 := ([(g50, .cells #[.int .i64 x52, .int .i64 x53] 31 (0, 0))] :: Fs)) (M2 := ([(g50, .cells #[.int .i64 x52, .int .i64 x53] 31 (0, 0))] :: Fs)) rfl rfl ?_
                    refine at_drop (k := 0) rfl rfl ?_
                    refine at_eqM (M1 := (Fs)) (M2 := (Fs)) rfl rfl ?_
                    refine at_done (vs := [.bool false]) (obs := []) (.inl rfl) [.tmp 2] [] rfl (by kernel_rfl) (fun w hs => trivial) (fun w hs => ⟨_, _, [], rfl, ⟨rfl, rfl⟩, hle, hs⟩)
                  · rw [if_neg h210] at H
                    by_cases h211 : b6.Line = x52
                    · rw [if_pos h211] at H
                      by_cases h212 : b6.Col < x53
                      · rw [if_pos h212] at H
                        refine at_xweak (S' := fun w => CellsAt w ⟨g194, 0, none⟩ [.int .i64 b6.Line, .int .i64 b6.Col] 0 ∧ CellsAt w ⟨g20, 0, none⟩ [.slice A16 b1.2.1.Points.length c17, .int .i64 b1.2.1.Cursor, .int .i64 b1.2.1.Mark] 0 ∧ w.cell? ⟨g194, 0, none⟩ = some (.int .i64 b6.Line) ∧ w.cell? ⟨g50, 0, none⟩ = some (.int .i64 x52) ∧ w.cell? ⟨g194, 0, none⟩ = some (.int .i64 b6.Line) ∧ w.cell? ⟨g50, 0, none⟩ = some (.int .i64 x52) ∧ w.cell? ⟨g194, 1, none⟩ = some (.int .i64 b6.Col) ∧ w.cell? ⟨g50, 1, none⟩ = some (.int .i64 x53)) (fun w h_ => ⟨h_.1, h_.2.1⟩) ?_
                        refine at_xseg [7, 8, 9, 10, 11, 12, 13, 14, 15, 16, 17, 18, 19, 20, 21, 22, 23, 24, 25, 26, 27, 28, 29, 30, 31, 32, 33] 0 (#[true, true, true, true, true, true, true, true, true, true, true, true, true, true, true, true, true, true, true, true, true, true, true, true, true, true, true, true, true, true, true, true, true, true]) rfl (by kernel_rfl) [(7, .bool false), (9, .int .i64 b6.Line), (11, .int .i64 x52), (14, .bool false), (16, .int .i64 b6.Line), (18, .int .i64 x52), (20, .bool true), (22, .int .i64 b6.Col), (24, .int .i64 x53), (28, .bool true)] [3, 4, 5, 6, 7, 8, 9, 79] (L2 := [(3, .slice A12 b1.1.length c13), (4, .pointer (some ⟨g20, 0, none⟩)), (5, .int .i64 b1.2.2), (6, .int .i64 b3), (7, .pointer (some ⟨g50, 0, none⟩)), (8, .int .i64 x51), (9, .pointer (some ⟨g194, 0, none⟩)), (79, .bool true)]) (obs := [fun _ => (.bool (!((b6.Line == b7.Line) && ((b6.Col == b7.Col) && true))) : Value) = .bool false, fun w => w.cell? ⟨g194, 0, none⟩ = some (.int .i64 b6.Line), fun w => w.cell? ⟨g50, 0, none⟩ = some (.int .i64 x52), fun _ => (.bool (decide (b6.Line < x52)) : Value) = .bool false, fun w => w.cell? ⟨g194, 0, none⟩ = some (.int .i64 b6.Line), fun w => w.cell? ⟨g50, 0, none⟩ = some (.int .i64 x52), fun _ => (.bool (b6.Line == x52) : Value) = .bool true, fun w => w.cell? ⟨g194, 1, none⟩ = some (.int .i64 b6.Col), fun w => w.cell? ⟨g50, 1, none⟩ = some (.int .i64 x53), fun _ => (.bool (decide (b6.Col < x53)) : Value) = .bool true]) (by kernel_rfl) (by kernel_rfl) (by kernel_rfl) (.inr fun w hs => ⟨cellsV (k := 3) hs rfl _ 0 (Nat.le_of_ble_eq_true (by kernel_rfl)) rfl, cellsV (k := 4) hs rfl _ 0 (Nat.le_of_ble_eq_true (by kernel_rfl)) rfl, hs.var (k := 3) rfl 0 rfl, hs.var (k := 5) rfl 0 rfl, hs.var (k := 3) rfl 0 rfl, hs.var (k := 5) rfl 0 rfl, hs.var (k := 3) rfl 1 rfl, hs.var (k := 5) rfl 1 rfl⟩) (fun w hS => ⟨congrArg Value.bool (not_ff (h209)), hS.2.2.1, hS.2.2.2.1, congrArg Value.bool (decide_eq_false h210), hS.2.2.2.2.1, hS.2.2.2.2.2.1, congrArg Value.bool (beq_iff_eq.2 h211), hS.2.2.2.2.2.2.1, hS.2.2.2.2.2.2.2, congrArg Value.bool (decide_eq_true h212)⟩) (fun w hs => ⟨congrArg Value.bool (not_ff (h209)), hs.var (k := 3) rfl 0 rfl, hs.var (k := 5) rfl 0 rfl, congrArg Value.bool (decide_eq_false h210), hs.var (k := 3) rfl 0 rfl, hs.var (k := 5) rfl 0 rfl, congrArg Value.bool (beq_iff_eq.2 h211), hs.var (k := 3) rfl 1 rfl, hs.var (k := 5) rfl 1 rfl, congrArg Value.bool (decide_eq_true h212)⟩) ?_
                        refine at_xend (by kernel_rfl) ?_
                        refine at_thn ?_
                        refine at_cond_t rfl (rfl) ?_
                        refine at_seq ?_
                        refine at_reg [] [2] (L2 := [(2, .bool false)]) (obs := []) (by kernel_rfl) ?_ ?_
                        · intro w hs; exact trivial
                        refine at_thn ?_
                        refine at_ret ?_
                        refine at_then_ret ?_
                        refine at_in_ret ?_
                        refine at_then_ret ?_
                        refine at_then_ret ?_
                        refine at_in_ret ?_
                        refine at_then_ret ?_
                        obtain rfl := Option.some.inj H
                        refine at_drop (k := 0) rfl rfl ?_
                        refine at_eqM (M1 := (s18 :: s171 :: [(g194, .cells #[.int .i64 b6.Line, .int .i64 b6.Col] 31 (0, 0))] :: [(g20, .cells #[.slice A16 b1.2.1.Points.length c17, .int .i64 b1.2.1.Cursor, .int .i64 b1.2.1.Mark] 25 (0, 0))] :: [(g50, .cells #[.int .i64 x52, .int .i64 x53] 31 (0, 0))] :: Fs)) (M2 := (s18 :: s171 :: [(g194, .cells #[.int .i64 b6.Line, .int .i64 b6.Col] 31 (0, 0))] :: [(g20, .cells #[.slice A16 b1.2.1.Points.length c17, .int .i64 b1.2.1.Cursor, .int .i64 b1.2.1.Mark] 25 (0, 0))] :: [(g50, .cells #[.int .i64 x52, .int .i64 x53] 31 (0, 0))] :: Fs)) rfl rfl ?_
                        refine at_drop (k := 0) rfl rfl ?_
                        refine at_eqM (M1 := (s171 :: [(g194, .cells #[.int .i64 b6.Line, .int .i64 b6.Col] 31 (0, 0))] :: [(g20, .cells #[.slice A16 b1.2.1.Points.length c17, .int .i64 b1.2.1.Cursor, .int .i64 b1.2.1.Mark] 25 (0, 0))] :: [(g50, .cells #[.int .i64 x52, .int .i64 x53] 31 (0, 0))] :: Fs)) (M2 := (s171 :: [(g194, .cells #[.int .i64 b6.Line, .int .i64 b6.Col] 31 (0, 0))] :: [(g20, .cells #[.slice A16 b1.2.1.Points.length c17, .int .i64 b1.2.1.Cursor, .int .i64 b1.2.1.Mark] 25 (0, 0))] :: [(g50, .cells #[.int .i64 x52, .int .i64 x53] 31 (0, 0))] :: Fs)) rfl rfl ?_
                        refine at_drop (k := 0) rfl rfl ?_
                        refine at_eqM (M1 := ([(g194, .cells #[.int .i64 b6.Line, .int .i64 b6.Col] 31 (0, 0))] :: [(g20, .cells #[.slice A16 b1.2.1.Points.length c17, .int .i64 b1.2.1.Cursor, .int .i64 b1.2.1.Mark] 25 (0, 0))] :: [(g50, .cells #[.int .i64 x52, .int .i64 x53] 31 (0, 0))] :: Fs)) (M2 := ([(g194, .cells #[.int .i64 b6.Line, .int .i64 b6.Col] 31 (0, 0))] :: [(g20, .cells #[.slice A16 b1.2.1.Points.length c17, .int .i64 b1.2.1.Cursor, .int .i64 b1.2.1.Mark] 25 (0, 0))] :: [(g50, .cells #[.int .i64 x52, .int .i64 x53] 31 (0, 0))] :: Fs)) rfl rfl ?_
                        refine at_drop (k := 0) rfl rfl ?_
                        refine at_eqM (M1 := ([(g20, .cells #[.slice A16 b1.2.1.Points.length c17, .int .i64 b1.2.1.Cursor, .int .i64 b1.2.1.Mark] 25 (0, 0))] :: [(g50, .cells #[.int .i64 x52, .int .i64 x53] 31 (0, 0))] :: Fs)) (M2 := ([(g20, .cells #[.slice A16 b1.2.1.Points.length c17, .int .i64 b1.2.1.Cursor, .int .i64 b1.2.1.Mark] 25 (0, 0))] :: [(g50, .cells #[.int .i64 x52, .int .i64 x53] 31 (0, 0))] :: Fs)) rfl rfl ?_
                        refine at_drop (k := 0) rfl rfl ?_
                        refine at_eqM (M1 := ([(g50, .cells #[.int .i64 x52, .int .i64 x53] 31 (0, 0))] :: Fs)) (M2 := ([(g50, .cells #[.int .i64 x52, .int .i64 x53] 31 (0, 0))] :: Fs)) rfl rfl ?_
                        refine at_drop (k := 0) rfl rfl ?_
                        refine at_eqM (M1 := (Fs)) (M2 := (Fs)) rfl rfl ?_
                        refine at_done (vs := [.bool false]) (obs := []) (.inl rfl) [.tmp 2] [] rfl (by kernel_rfl) (fun w hs => trivial) (fun w hs => ⟨_, _, [], rfl, ⟨rfl, rfl⟩, hle, hs⟩)
                      · rw [if_neg h212] at H
                        refine at_xweak (S' := fun w => CellsAt w ⟨g194, 0, none⟩ [.int .i64 b6.Line, .int .i64 b6.Col] 0 ∧ CellsAt w ⟨g20, 0, none⟩ [.slice A16 b1.2.1.Points.length c17, .int .i64 b1.2.1.Cursor, .int .i64 b1.2.1.Mark] 0 ∧ w.cell? ⟨g194, 0, none⟩ = some (.int .i64 b6.Line) ∧ w.cell? ⟨g50, 0, none⟩ = some (.int .i64 x52) ∧ w.cell? ⟨g194, 0, none⟩ = some (.int .i64 b6.Line) ∧ w.cell? ⟨g50, 0, none⟩ = some (.int .i64 x52) ∧ w.cell? ⟨g194, 1, none⟩ = some (.int .i64 b6.Col) ∧ w.cell? ⟨g50, 1, none⟩ = some (.int .i64 x53) ∧ w.cell? ⟨g194, 1, none⟩ = some (.int .i64 b6.Col)) (fun w h_ => ⟨h_.1, h_.2.1⟩) ?_
                        refine at_xseg [7, 8, 9, 10, 11, 12, 13, 14, 15, 16, 17, 18, 19, 20, 21, 22, 23, 24, 25, 26, 27, 28, 29, 30, 31, 32, 33] 0 (#[true, true, true, true, true, true, true, true, true, true, true, true, true, true, true, true, true, true, true, true, true, true, true, true, true, true, true, true, true, true, true, true, true, true]) rfl (by kernel_rfl) [(7, .bool false), (9, .int .i64 b6.Line), (11, .int .i64 x52), (14, .bool false), (16, .int .i64 b6.Line), (18, .int .i64 x52), (20, .bool true), (22, .int .i64 b6.Col), (24, .int .i64 x53), (28, .bool false), (30, .int .i64 b6.Col)] [3, 4, 5, 6, 7, 8, 9, 79] (L2 := [(3, .slice A12 b1.1.length c13), (4, .pointer (some ⟨g20, 0, none⟩)), (5, .int .i64 b1.2.2), (6, .int .i64 b3), (7, .pointer (some ⟨g50, 0, none⟩)), (8, .int .i64 x51), (9, .pointer (some ⟨g194, 0, none⟩)), (79, .bool (decide (b6.Col ≥ b1.2.2)))]) (obs := [fun _ => (.bool (!((b6.Line == b7.Line) && ((b6.Col == b7.Col) && true))) : Value) = .bool false, fun w => w.cell? ⟨g194, 0, none⟩ = some (.int .i64 b6.Line), fun w => w.cell? ⟨g50, 0, none⟩ = some (.int .i64 x52), fun _ => (.bool (decide (b6.Line < x52)) : Value) = .bool false, fun w => w.cell? ⟨g194, 0, none⟩ = some (.int .i64 b6.Line), fun w => w.cell? ⟨g50, 0, none⟩ = some (.int .i64 x52), fun _ => (.bool (b6.Line == x52) : Value) = .bool true, fun w => w.cell? ⟨g194, 1, none⟩ = some (.int .i64 b6.Col), fun w => w.cell? ⟨g50, 1, none⟩ = some (.int .i64 x53), fun _ => (.bool (decide (b6.Col < x53)) : Value) = .bool false, fun w => w.cell? ⟨g194, 1, none⟩ = some (.int .i64 b6.Col)]) (by kernel_rfl) (by kernel_rfl) (by kernel_rfl) (.inr fun w hs => ⟨cellsV (k := 3) hs rfl _ 0 (Nat.le_of_ble_eq_true (by kernel_rfl)) rfl, cellsV (k := 4) hs rfl _ 0 (Nat.le_of_ble_eq_true (by kernel_rfl)) rfl, hs.var (k := 3) rfl 0 rfl, hs.var (k := 5) rfl 0 rfl, hs.var (k := 3) rfl 0 rfl, hs.var (k := 5) rfl 0 rfl, hs.var (k := 3) rfl 1 rfl, hs.var (k := 5) rfl 1 rfl, hs.var (k := 3) rfl 1 rfl⟩) (fun w hS => ⟨congrArg Value.bool (not_ff (h209)), hS.2.2.1, hS.2.2.2.1, congrArg Value.bool (decide_eq_false h210), hS.2.2.2.2.1, hS.2.2.2.2.2.1, congrArg Value.bool (beq_iff_eq.2 h211), hS.2.2.2.2.2.2.1, hS.2.2.2.2.2.2.2.1, congrArg Value.bool (decide_eq_false h212), hS.2.2.2.2.2.2.2.2⟩) (fun w hs => ⟨congrArg Value.bool (not_ff (h209)), hs.var (k := 3) rfl 0 rfl, hs.var (k := 5) rfl 0 rfl, congrArg Value.bool (decide_eq_false h210), hs.var (k := 3) rfl 0 rfl, hs.var (k := 5) rfl 0 rfl, congrArg Value.bool (beq_iff_eq.2 h211), hs.var (k := 3) rfl 1 rfl, hs.var (k := 5) rfl 1 rfl, congrArg Value.bool (decide_eq_false h212), hs.var (k := 3) rfl 1 rfl⟩) ?_
                        refine at_xend (by kernel_rfl) ?_
                        refine at_thn ?_
                        by_cases h213 : b6.Col ≥ b1.2.2
                        · rw [if_pos h213] at H
                          refine at_cond_t rfl (decide_eq_true h213) ?_
                          refine at_seq ?_
                          refine at_reg [] [2] (L2 := [(2, .bool false)]) (obs := []) (by kernel_rfl) ?_ ?_
                          · intro w hs; exact trivial
                          refine at_thn ?_
                          refine at_ret ?_
                          refine at_then_ret ?_
                          refine at_in_ret ?_
                          refine at_then_ret ?_
                          refine at_then_ret ?_
                          refine at_in_ret ?_
                          refine at_then_ret ?_
                          obtain rfl := Option.some.inj H
                          refine at_drop (k := 0) rfl rfl ?_
                          refine at_eqM (M1 := (s18 :: s171 :: [(g194, .cells #[.int .i64 b6.Line, .int .i64 b6.Col] 31 (0, 0))] :: [(g20, .cells #[.slice A16 b1.2.1.Points.length c17, .int .i64 b1.2.1.Cursor, .int .i64 b1.2.1.Mark] 25 (0, 0))] :: [(g50, .cells #[.int .i64 x52, .int .i64 x53] 31 (0, 0))] :: Fs)) (M2 := (s18 :: s171 :: [(g194, .cells #[.int .i64 b6.Line, .int .i64 b6.Col] 31 (0, 0))] :: [(g20, .cells #[.slice A16 b1.2.1.Points.length c17, .int .i64 b1.2.1.Cursor, .int .i64 b1.2.1.Mark] 25 (0, 0))] :: [(g50, .cells #[.int .i64 x52, .int .i64 x53] 31 (0, 0))] :: Fs)) rfl rfl ?_
                          refine at_drop (k := 0) rfl rfl ?_
                          refine at_eqM (M1 := (s171 :: [(g194, .cells #[.int .i64 b6.Line, .int .i64 b6.Col] 31 (0, 0))] :: [(g20, .cells #[.slice A16 b1.2.1.Points.length c17, .int .i64 b1.2.1.Cursor, .int .i64 b1.2.1.Mark] 25 (0, 0))] :: [(g50, .cells #[.int .i64 x52, .int .i64 x53] 31 (0, 0))] :: Fs)) (M2 := (s171 :: [(g194, .cells #[.int .i64 b6.Line, .int .i64 b6.Col] 31 (0, 0))] :: [(g20, .cells #[.slice A16 b1.2.1.Points.length c17, .int .i64 b1.2.1.Cursor, .int .i64 b1.2.1.Mark] 25 (0, 0))] :: [(g50, .cells #[.int .i64 x52, .int .i64 x53] 31 (0, 0))] :: Fs)) rfl rfl ?_
                          refine at_drop (k := 0) rfl rfl ?_
                          refine at_eqM (M1 := ([(g194, .cells #[.int .i64 b6.Line, .int .i64 b6.Col] 31 (0, 0))] :: [(g20, .cells #[.slice A16 b1.2.1.Points.length c17, .int .i64 b1.2.1.Cursor, .int .i64 b1.2.1.Mark] 25 (0, 0))] :: [(g50, .cells #[.int .i64 x52, .int .i64 x53] 31 (0, 0))] :: Fs)) (M2 := ([(g194, .cells #[.int .i64 b6.Line, .int .i64 b6.Col] 31 (0, 0))] :: [(g20, .cells #[.slice A16 b1.2.1.Points.length c17, .int .i64 b1.2.1.Cursor, .int .i64 b1.2.1.Mark] 25 (0, 0))] :: [(g50, .cells #[.int .i64 x52, .int .i64 x53] 31 (0, 0))] :: Fs)) rfl rfl ?_
                          refine at_drop (k := 0) rfl rfl ?_
                          refine at_eqM (M1 := ([(g20, .cells #[.slice A16 b1.2.1.Points.length c17, .int .i64 b1.2.1.Cursor, .int .i64 b1.2.1.Mark] 25 (0, 0))] :: [(g50, .cells #[.int .i64 x52, .int .i64 x53] 31 (0, 0))] :: Fs)) (M2 := ([(g20, .cells #[.slice A16 b1.2.1.Points.length c17, .int .i64 b1.2.1.Cursor, .int .i64 b1.2.1.Mark] 25 (0, 0))] :: [(g50, .cells #[.int .i64 x52, .int .i64 x53] 31 (0, 0))] :: Fs)) rfl rfl ?_
                          refine at_drop (k := 0) rfl rfl ?_
                          refine at_eqM (M1 := ([(g50, .cells #[.int .i64 x52, .int .i64 x53] 31 (0, 0))] :: Fs)) (M2 := ([(g50, .cells #[.int .i64 x52, .int .i64 x53] 31 (0, 0))] :: Fs)) rfl rfl ?_
                          refine at_drop (k := 0) rfl rfl ?_
                          refine at_eqM (M1 := (Fs)) (M2 := (Fs)) rfl rfl ?_
                          refine at_done (vs := [.bool false]) (obs := []) (.inl rfl) [.tmp 2] [] rfl (by kernel_rfl) (fun w hs => trivial) (fun w hs => ⟨_, _, [], rfl, ⟨rfl, rfl⟩, hle, hs⟩)
                        · rw [if_neg h213] at H
                          refine at_cond_f rfl (decide_eq_false h213) ?_
                          refine at_skip ?_
                          refine at_thn ?_
                          refine at_ops [0, 1] rfl ?_
                          refine at_seg [0] [1] rfl [(0, .agg #[.int .i64 b6.Line, .int .i64 b6.Col])] [3, 4, 5, 6, 7, 8, 80] (L2 := [(3, .slice A12 b1.1.length c13), (4, .pointer (some ⟨g20, 0, none⟩)), (5, .int .i64 b1.2.2), (6, .int .i64 b3), (7, .pointer (some ⟨g50, 0, none⟩)), (8, .int .i64 x51), (80, .agg #[.int .i64 b6.Line, .int .i64 b6.Col])]) (obs := [fun w => CellsAt w ⟨g194, 0, none⟩ [.int .i64 b6.Line, .int .i64 b6.Col] 0]) (by kernel_rfl) ?_ ?_
                          · intro w hs; exact cellsV (k := 3) hs rfl _ 0 (Nat.le_of_ble_eq_true (by kernel_rfl)) rfl
                          refine at_eff rfl rfl ?_
                          refine eff_store 5 rfl rfl rfl rfl rfl rfl (.inl (Nat.le_refl _)) rfl (Nat.le_of_ble_eq_true (by kernel_rfl)) rfl ?_
                          refine at_eqM (M1 := (s14 :: s18 :: s171 :: [(g194, .cells #[.int .i64 b6.Line, .int .i64 b6.Col] 31 (0, 0))] :: [(g20, .cells #[.slice A16 b1.2.1.Points.length c17, .int .i64 b1.2.1.Cursor, .int .i64 b1.2.1.Mark] 25 (0, 0))] :: [(g50, .cells #[.int .i64 b6.Line, .int .i64 b6.Col] 31 (0, 0))] :: Fs)) (M2 := (s14 :: s18 :: s171 :: [(g194, .cells #[.int .i64 b6.Line, .int .i64 b6.Col] 31 (0, 0))] :: [(g20, .cells #[.slice A16 b1.2.1.Points.length c17, .int .i64 b1.2.1.Cursor, .int .i64 b1.2.1.Mark] 25 (0, 0))] :: [(g50, .cells #[.int .i64 b6.Line, .int .i64 b6.Col] 31 (0, 0))] :: Fs)) rfl rfl ?_
                          refine at_end ?_
                          refine at_in_norm ?_
                          refine at_thn ?_
                          refine at_reg [] [3, 4, 5, 6, 7, 8] (L2 := [(3, .slice A12 b1.1.length c13), (4, .pointer (some ⟨g20, 0, none⟩)), (5, .int .i64 b1.2.2), (6, .int .i64 b3), (7, .pointer (some ⟨g50, 0, none⟩)), (8, .int .i64 (IntKind.i64.wrap (x51 + 1)))]) (obs := []) (by kernel_rfl) ?_ ?_
                          · intro w hs; exact trivial
                          refine at_thn ?_
                          refine at_drop (k := 2) rfl rfl ?_
                          refine at_eqM (M1 := (s14 :: s18 :: [(g194, .cells #[.int .i64 b6.Line, .int .i64 b6.Col] 31 (0, 0))] :: [(g20, .cells #[.slice A16 b1.2.1.Points.length c17, .int .i64 b1.2.1.Cursor, .int .i64 b1.2.1.Mark] 25 (0, 0))] :: [(g50, .cells #[.int .i64 b6.Line, .int .i64 b6.Col] 31 (0, 0))] :: Fs)) (M2 := (s14 :: s18 :: [(g194, .cells #[.int .i64 b6.Line, .int .i64 b6.Col] 31 (0, 0))] :: [(g20, .cells #[.slice A16 b1.2.1.Points.length c17, .int .i64 b1.2.1.Cursor, .int .i64 b1.2.1.Mark] 25 (0, 0))] :: [(g50, .cells #[.int .i64 b6.Line, .int .i64 b6.Col] 31 (0, 0))] :: Fs)) rfl rfl ?_
                          refine at_drop (k := 2) rfl rfl ?_
                          refine at_eqM (M1 := (s14 :: s18 :: [(g20, .cells #[.slice A16 b1.2.1.Points.length c17, .int .i64 b1.2.1.Cursor, .int .i64 b1.2.1.Mark] 25 (0, 0))] :: [(g50, .cells #[.int .i64 b6.Line, .int .i64 b6.Col] 31 (0, 0))] :: Fs)) (M2 := (s14 :: s18 :: [(g20, .cells #[.slice A16 b1.2.1.Points.length c17, .int .i64 b1.2.1.Cursor, .int .i64 b1.2.1.Mark] 25 (0, 0))] :: [(g50, .cells #[.int .i64 b6.Line, .int .i64 b6.Col] 31 (0, 0))] :: Fs)) rfl rfl ?_
                          refine at_perm ((perm_at (k := 2) rfl).trans (((perm_at (k := 2) rfl).trans ((List.Perm.refl _).cons _)).cons _)) ?_
                          refine at_keep [3, 4, 5, 6, 7, 8] (L2 := [(3, .slice A12 b1.1.length c13), (4, .pointer (some ⟨g20, 0, none⟩)), (5, .int .i64 b1.2.2), (6, .int .i64 b3), (7, .pointer (some ⟨g50, 0, none⟩)), (8, .int .i64 (IntKind.i64.wrap (x51 + 1)))]) rfl ?_
                          exact ih55 _ (by omega) _ _ _ ⟨IntKind.i64.wrap (x51 + 1), b6.Line, b6.Col, rfl, rfl, H, hle, by omega, ho15, ho19⟩
                    · rw [if_neg h211] at H
                      refine at_xweak (S' := fun w => CellsAt w ⟨g194, 0, none⟩ [.int .i64 b6.Line, .int .i64 b6.Col] 0 ∧ CellsAt w ⟨g20, 0, none⟩ [.slice A16 b1.2.1.Points.length c17, .int .i64 b1.2.1.Cursor, .int .i64 b1.2.1.Mark] 0 ∧ w.cell? ⟨g194, 0, none⟩ = some (.int .i64 b6.Line) ∧ w.cell? ⟨g50, 0, none⟩ = some (.int .i64 x52) ∧ w.cell? ⟨g194, 0, none⟩ = some (.int .i64 b6.Line) ∧ w.cell? ⟨g50, 0, none⟩ = some (.int .i64 x52) ∧ w.cell? ⟨g194, 1, none⟩ = some (.int .i64 b6.Col)) (fun w h_ => ⟨h_.1, h_.2.1⟩) ?_
                      refine at_xseg [7, 8, 9, 10, 11, 12, 13, 14, 15, 16, 17, 18, 19, 20, 21, 22, 23, 24, 25, 26, 27, 28, 29, 30, 31, 32, 33] 0 (#[true, true, true, true, true, true, true, true, true, true, true, true, true, true, true, true, true, true, true, true, true, true, true, true, true, true, true, true, true, true, true, true, true, true]) rfl (by kernel_rfl) [(7, .bool false), (9, .int .i64 b6.Line), (11, .int .i64 x52), (14, .bool false), (16, .int .i64 b6.Line), (18, .int .i64 x52), (20, .bool false), (30, .int .i64 b6.Col)] [3, 4, 5, 6, 7, 8, 9, 79] (L2 := [(3, .slice A12 b1.1.length c13), (4, .pointer (some ⟨g20, 0, none⟩)), (5, .int .i64 b1.2.2), (6, .int .i64 b3), (7, .pointer (some ⟨g50, 0, none⟩)), (8, .int .i64 x51), (9, .pointer (some ⟨g194, 0, none⟩)), (79, .bool (decide (b6.Col ≥ b1.2.2)))]) (obs := [fun _ => (.bool (!((b6.Line == b7.Line) && ((b6.Col == b7.Col) && true))) : Value) = .bool false, fun w => w.cell? ⟨g194, 0, none⟩ = some (.int .i64 b6.Line), fun w => w.cell? ⟨g50, 0, none⟩ = some (.int .i64 x52), fun _ => (.bool (decide (b6.Line < x52)) : Value) = .bool false, fun w => w.cell? ⟨g194, 0, none⟩ = some (.int .i64 b6.Line), fun w => w.cell? ⟨g50, 0, none⟩ = some (.int .i64 x52), fun _ => (.bool (b6.Line == x52) : Value) = .bool false, fun w => w.cell? ⟨g194, 1, none⟩ = some (.int .i64 b6.Col)]) (by kernel_rfl) (by kernel_rfl) (by kernel_rfl) (.inr fun w hs => ⟨cellsV (k := 3) hs rfl _ 0 (Nat.le_of_ble_eq_true (by kernel_rfl)) rfl, cellsV (k := 4) hs rfl _ 0 (Nat.le_of_ble_eq_true (by kernel_rfl)) rfl, hs.var (k := 3) rfl 0 rfl, hs.var (k := 5) rfl 0 rfl, hs.var (k := 3) rfl 0 rfl, hs.var (k := 5) rfl 0 rfl, hs.var (k := 3) rfl 1 rfl⟩) (fun w hS => ⟨congrArg Value.bool (not_ff (h209)), hS.2.2.1, hS.2.2.2.1, congrArg Value.bool (decide_eq_false h210), hS.2.2.2.2.1, hS.2.2.2.2.2.1, congrArg Value.bool (beq_eq_false_iff_ne.2 h211), hS.2.2.2.2.2.2⟩) (fun w hs => ⟨congrArg Value.bool (not_ff (h209)), hs.var (k := 3) rfl 0 rfl, hs.var (k := 5) rfl 0 rfl, congrArg Value.bool (decide_eq_false h210), hs.var (k := 3) rfl 0 rfl, hs.var (k := 5) rfl 0 rfl, congrArg Value.bool (beq_eq_false_iff_ne.2 h211), hs.var (k := 3) rfl 1 rfl⟩) ?_
                      refine at_xend (by kernel_rfl) ?_
                      refine at_thn ?_
                      by_cases h214 : b6.Col ≥ b1.2.2
                      · rw [if_pos h214] at H
                        refine at_cond_t rfl (decide_eq_true h214) ?_
                        refine at_seq ?_
                        refine at_reg [] [2] (L2 := [(2, .bool false)]) (obs := []) (by kernel_rfl) ?_ ?_
                        · intro w hs; exact trivial
                        refine at_thn ?_
                        refine at_ret ?_
                        refine at_then_ret ?_
                        refine at_in_ret ?_
                        refine at_then_ret ?_
                        refine at_then_ret ?_
                        refine at_in_ret ?_
                        refine at_then_ret ?_
                        obtain rfl := Option.some.inj H
                        refine at_drop (k := 0) rfl rfl ?_
                        refine at_eqM (M1 := (s18 :: s171 :: [(g194, .cells #[.int .i64 b6.Line, .int .i64 b6.Col] 31 (0, 0))] :: [(g20, .cells #[.slice A16 b1.2.1.Points.length c17, .int .i64 b1.2.1.Cursor, .int .i64 b1.2.1.Mark] 25 (0, 0))] :: [(g50, .cells #[.int .i64 x52, .int .i64 x53] 31 (0, 0))] :: Fs)) (M2 := (s18 :: s171 :: [(g194, .cells #[.int .i64 b6.Line, .int .i64 b6.Col] 31 (0, 0))] :: [(g20, .cells #[.slice A16 b1.2.1.Points.length c17, .int .i64 b1.2.1.Cursor, .int .i64 b1.2.1.Mark] 25 (0, 0))] :: [(g50, .cells #[.int .i64 x52, .int .i64 x53] 31 (0, 0))] :: Fs)) rfl rfl ?_
                        refine at_drop (k := 0) rfl rfl ?_
                        refine at_eqM (M1 := (s171 :: [(g194, .cells #[.int .i64 b6.Line, .int .i64 b6.Col] 31 (0, 0))] :: [(g20, .cells #[.slice A16 b1.2.1.Points.length c17, .int .i64 b1.2.1.Cursor, .int .i64 b1.2.1.Mark] 25 (0, 0))] :: [(g50, .cells #[.int .i64 x52, .int .i64 x53] 31 (0, 0))] :: Fs)) (M2 := (s171 :: [(g194, .cells #[.int .i64 b6.Line, .int .i64 b6.Col] 31 (0, 0))] :: [(g20, .cells #[.slice A16 b1.2.1.Points.length c17, .int .i64 b1.2.1.Cursor, .int .i64 b1.2.1.Mark] 25 (0, 0))] :: [(g50, .cells #[.int .i64 x52, .int .i64 x53] 31 (0, 0))] :: Fs)) rfl rfl ?_
                        refine at_drop (k := 0) rfl rfl ?_
                        refine at_eqM (M1 := ([(g194, .cells #[.int .i64 b6.Line, .int .i64 b6.Col] 31 (0, 0))] :: [(g20, .cells #[.slice A16 b1.2.1.Points.length c17, .int .i64 b1.2.1.Cursor, .int .i64 b1.2.1.Mark] 25 (0, 0))] :: [(g50, .cells #[.int .i64 x52, .int .i64 x53] 31 (0, 0))] :: Fs)) (M2 := ([(g194, .cells #[.int .i64 b6.Line, .int .i64 b6.Col] 31 (0, 0))] :: [(g20, .cells #[.slice A16 b1.2.1.Points.length c17, .int .i64 b1.2.1.Cursor, .int .i64 b1.2.1.Mark] 25 (0, 0))] :: [(g50, .cells #[.int .i64 x52, .int .i64 x53] 31 (0, 0))] :: Fs)) rfl rfl ?_
                        refine at_drop (k := 0) rfl rfl ?_
                        refine at_eqM (M1 := ([(g20, .cells #[.slice A16 b1.2.1.Points.length c17, .int .i64 b1.2.1.Cursor, .int .i64 b1.2.1.Mark] 25 (0, 0))] :: [(g50, .cells #[.int .i64 x52, .int .i64 x53] 31 (0, 0))] :: Fs)) (M2 := ([(g20, .cells #[.slice A16 b1.2.1.Points.length c17, .int .i64 b1.2.1.Cursor, .int .i64 b1.2.1.Mark] 25 (0, 0))] :: [(g50, .cells #[.int .i64 x52, .int .i64 x53] 31 (0, 0))] :: Fs)) rfl rfl ?_
                        refine at_drop (k := 0) rfl rfl ?_
                        refine at_eqM (M1 := ([(g50, .cells #[.int .i64 x52, .int .i64 x53] 31 (0, 0))] :: Fs)) (M2 := ([(g50, .cells #[.int .i64 x52, .int .i64 x53] 31 (0, 0))] :: Fs)) rfl rfl ?_
                        refine at_drop (k := 0) rfl rfl ?_
                        refine at_eqM (M1 := (Fs)) (M2 := (Fs)) rfl rfl ?_
                        refine at_done (vs := [.bool false]) (obs := []) (.inl rfl) [.tmp 2] [] rfl (by kernel_rfl) (fun w hs => trivial) (fun w hs => ⟨_, _, [], rfl, ⟨rfl, rfl⟩, hle, hs⟩)
                      · rw [if_neg h214] at H
                        refine at_cond_f rfl (decide_eq_false h214) ?_
                        refine at_skip ?_
                        refine at_thn ?_
                        refine at_ops [0, 1] rfl ?_
                        refine at_seg [0] [1] rfl [(0, .agg #[.int .i64 b6.Line, .int .i64 b6.Col])] [3, 4, 5, 6, 7, 8, 80] (L2 := [(3, .slice A12 b1.1.length c13), (4, .pointer (some ⟨g20, 0, none⟩)), (5, .int .i64 b1.2.2), (6, .int .i64 b3), (7, .pointer (some ⟨g50, 0, none⟩)), (8, .int .i64 x51), (80, .agg #[.int .i64 b6.Line, .int .i64 b6.Col])]) (obs := [fun w => CellsAt w ⟨g194, 0, none⟩ [.int .i64 b6.Line, .int .i64 b6.Col] 0]) (by kernel_rfl) ?_ ?_
                        · intro w hs; exact cellsV (k := 3) hs rfl _ 0 (Nat.le_of_ble_eq_true (by kernel_rfl)) rfl
                        refine at_eff rfl rfl ?_
                        refine eff_store 5 rfl rfl rfl rfl rfl rfl (.inl (Nat.le_refl _)) rfl (Nat.le_of_ble_eq_true (by kernel_rfl)) rfl ?_
                        refine at_eqM (M1 := (s14 :: s18 :: s171 :: [(g194, .cells #[.int .i64 b6.Line, .int .i64 b6.Col] 31 (0, 0))] :: [(g20, .cells #[.slice A16 b1.2.1.Points.length c17, .int .i64 b1.2.1.Cursor, .int .i64 b1.2.1.Mark] 25 (0, 0))] :: [(g50, .cells #[.int .i64 b6.Line, .int .i64 b6.Col] 31 (0, 0))] :: Fs)) (M2 := (s14 :: s18 :: s171 :: [(g194, .cells #[.int .i64 b6.Line, .int .i64 b6.Col] 31 (0, 0))] :: [(g20, .cells #[.slice A16 b1.2.1.Points.length c17, .int .i64 b1.2.1.Cursor, .int .i64 b1.2.1.Mark] 25 (0, 0))] :: [(g50, .cells #[.int .i64 b6.Line, .int .i64 b6.Col] 31 (0, 0))] :: Fs)) rfl rfl ?_
                        refine at_end ?_
                        refine at_in_norm ?_
                        refine at_thn ?_
                        refine at_reg [] [3, 4, 5, 6, 7, 8] (L2 := [(3, .slice A12 b1.1.length c13), (4, .pointer (some ⟨g20, 0, none⟩)), (5, .int .i64 b1.2.2), (6, .int .i64 b3), (7, .pointer (some ⟨g50, 0, none⟩)), (8, .int .i64 (IntKind.i64.wrap (x51 + 1)))]) (obs := []) (by kernel_rfl) ?_ ?_
                        · intro w hs; exact trivial
                        refine at_thn ?_
                        refine at_drop (k := 2) rfl rfl ?_
                        refine at_eqM (M1 := (s14 :: s18 :: [(g194, .cells #[.int .i64 b6.Line, .int .i64 b6.Col] 31 (0, 0))] :: [(g20, .cells #[.slice A16 b1.2.1.Points.length c17, .int .i64 b1.2.1.Cursor, .int .i64 b1.2.1.Mark] 25 (0, 0))] :: [(g50, .cells #[.int .i64 b6.Line, .int .i64 b6.Col] 31 (0, 0))] :: Fs)) (M2 := (s14 :: s18 :: [(g194, .cells #[.int .i64 b6.Line, .int .i64 b6.Col] 31 (0, 0))] :: [(g20, .cells #[.slice A16 b1.2.1.Points.length c17, .int .i64 b1.2.1.Cursor, .int .i64 b1.2.1.Mark] 25 (0, 0))] :: [(g50, .cells #[.int .i64 b6.Line, .int .i64 b6.Col] 31 (0, 0))] :: Fs)) rfl rfl ?_
                        refine at_drop (k := 2) rfl rfl ?_
                        refine at_eqM (M1 := (s14 :: s18 :: [(g20, .cells #[.slice A16 b1.2.1.Points.length c17, .int .i64 b1.2.1.Cursor, .int .i64 b1.2.1.Mark] 25 (0, 0))] :: [(g50, .cells #[.int .i64 b6.Line, .int .i64 b6.Col] 31 (0, 0))] :: Fs)) (M2 := (s14 :: s18 :: [(g20, .cells #[.slice A16 b1.2.1.Points.length c17, .int .i64 b1.2.1.Cursor, .int .i64 b1.2.1.Mark] 25 (0, 0))] :: [(g50, .cells #[.int .i64 b6.Line, .int .i64 b6.Col] 31 (0, 0))] :: Fs)) rfl rfl ?_
                        refine at_perm ((perm_at (k := 2) rfl).trans (((perm_at (k := 2) rfl).trans ((List.Perm.refl _).cons _)).cons _)) ?_
                        refine at_keep [3, 4, 5, 6, 7, 8] (L2 := [(3, .slice A12 b1.1.length c13), (4, .pointer (some ⟨g20, 0, none⟩)), (5, .int .i64 b1.2.2), (6, .int .i64 b3), (7, .pointer (some ⟨g50, 0, none⟩)), (8, .int .i64 (IntKind.i64.wrap (x51 + 1)))]) rfl ?_
                        exact ih55 _ (by omega) _ _ _ ⟨IntKind.i64.wrap (x51 + 1), b6.Line, b6.Col, rfl, rfl, H, hle, by omega, ho15, ho19⟩
                · rw [if_neg h209] at H
                  refine at_xseg [7, 8, 9, 10, 11, 12, 13, 14, 15, 16, 17, 18, 19, 20, 21, 22, 23, 24, 25, 26, 27, 28, 29, 30, 31, 32, 33] 0 (#[true, true, true, true, true, true, true, true, true, true, true, true, true, true, true, true, true, true, true, true, true, true, true, true, true, true, true, true, true, true, true, true, true, true]) rfl (by kernel_rfl) [(7, .bool true)] [3, 4, 5, 6, 7, 8, 9, 79] (L2 := [(3, .slice A12 b1.1.length c13), (4, .pointer (some ⟨g20, 0, none⟩)), (5, .int .i64 b1.2.2), (6, .int .i64 b3), (7, .pointer (some ⟨g50, 0, none⟩)), (8, .int .i64 x51), (9, .pointer (some ⟨g194, 0, none⟩)), (79, .bool true)]) (obs := [fun _ => (.bool (!((b6.Line == b7.Line) && ((b6.Col == b7.Col) && true))) : Value) = .bool true]) (by kernel_rfl) (by kernel_rfl) (by kernel_rfl) (.inr fun w hs => ⟨cellsV (k := 3) hs rfl _ 0 (Nat.le_of_ble_eq_true (by kernel_rfl)) rfl, cellsV (k := 4) hs rfl _ 0 (Nat.le_of_ble_eq_true (by kernel_rfl)) rfl⟩) (fun w hS => congrArg Value.bool (not_tt (ff_of h209))) (fun w hs => congrArg Value.bool (not_tt (ff_of h209))) ?_
                  refine at_xend (by kernel_rfl) ?_
                  refine at_thn ?_
                  refine at_cond_t rfl (rfl) ?_
                  refine at_seq ?_
                  refine at_reg [] [2] (L2 := [(2, .bool false)]) (obs := []) (by kernel_rfl) ?_ ?_
                  · intro w hs; exact trivial
                  refine at_thn ?_
                  refine at_ret ?_
                  refine at_then_ret ?_
                  refine at_in_ret ?_
                  refine at_then_ret ?_
                  refine at_then_ret ?_
                  refine at_in_ret ?_
                  refine at_then_ret ?_
                  obtain rfl := Option.some.inj H
                  refine at_drop (k := 0) rfl rfl ?_
                  refine at_eqM (M1 := (s18 :: s171 :: [(g194, .cells #[.int .i64 b6.Line, .int .i64 b6.Col] 31 (0, 0))] :: [(g20, .cells #[.slice A16 b1.2.1.Points.length c17, .int .i64 b1.2.1.Cursor, .int .i64 b1.2.1.Mark] 25 (0, 0))] :: [(g50, .cells #[.int .i64 x52, .int .i64 x53] 31 (0, 0))] :: Fs)) (M2 := (s18 :: s171 :: [(g194, .cells #[.int .i64 b6.Line, .int .i64 b6.Col] 31 (0, 0))] :: [(g20, .cells #[.slice A16 b1.2.1.Points.length c17, .int .i64 b1.2.1.Cursor, .int .i64 b1.2.1.Mark] 25 (0, 0))] :: [(g50, .cells #[.int .i64 x52, .int .i64 x53] 31 (0, 0))] :: Fs)) rfl rfl ?_
                  refine at_drop (k := 0) rfl rfl ?_
                  refine at_eqM (M1 := (s171 :: [(g194, .cells #[.int .i64 b6.Line, .int .i64 b6.Col] 31 (0, 0))] :: [(g20, .cells #[.slice A16 b1.2.1.Points.length c17, .int .i64 b1.2.1.Cursor, .int .i64 b1.2.1.Mark] 25 (0, 0))] :: [(g50, .cells #[.int .i64 x52, .int .i64 x53] 31 (0, 0))] :: Fs)) (M2 := (s171 :: [(g194, .cells #[.int .i64 b6.Line, .int .i64 b6.Col] 31 (0, 0))] :: [(g20, .cells #[.slice A16 b1.2.1.Points.length c17, .int .i64 b1.2.1.Cursor, .int .i64 b1.2.1.Mark] 25 (0, 0))] :: [(g50, .cells #[.int .i64 x52, .int .i64 x53] 31 (0, 0))] :: Fs)) rfl rfl ?_
                  refine at_drop (k := 0) rfl rfl ?_
                  refine at_eqM (M1 := ([(g194, .cells #[.int .i64 b6.Line, .int .i64 b6.Col] 31 (0, 0))] :: [(g20, .cells #[.slice A16 b1.2.1.Points.length c17, .int .i64 b1.2.1.Cursor, .int .i64 b1.2.1.Mark] 25 (0, 0))] :: [(g50, .cells #[.int .i64 x52, .int .i64 x53] 31 (0, 0))] :: Fs)) (M2 := ([(g194, .cells #[.int .i64 b6.Line, .int .i64 b6.Col] 31 (0, 0))] :: [(g20, .cells #[.slice A16 b1.2.1.Points.length c17, .int .i64 b1.2.1.Cursor, .int .i64 b1.2.1.Mark] 25 (0, 0))] :: [(g50, .cells #[.int .i64 x52, .int .i64 x53] 31 (0, 0))] :: Fs)) rfl rfl ?_
                  refine at_drop (k := 0) rfl rfl ?_
                  refine at_eqM (M1 := ([(g20, .cells #[.slice A16 b1.2.1.Points.length c17, .int .i64 b1.2.1.Cursor, .int .i64 b1.2.1.Mark] 25 (0, 0))] :: [(g50, .cells #[.int .i64 x52, .int .i64 x53] 31 (0, 0))] :: Fs)) (M2 := ([(g20, .cells #[.slice A16 b1.2.1.Points.length c17, .int .i64 b1.2.1.Cursor, .int .i64 b1.2.1.Mark] 25 (0, 0))] :: [(g50, .cells #[.int .i64 x52, .int .i64 x53] 31 (0, 0))] :: Fs)) rfl rfl ?_
                  refine at_drop (k := 0) rfl rfl ?_
                  refine at_eqM (M1 := ([(g50, .cells #[.int .i64 x52, .int .i64 x53] 31 (0, 0))] :: Fs)) (M2 := ([(g50, .cells #[.int .i64 x52, .int .i64 x53] 31 (0, 0))] :: Fs)) rfl rfl ?_
                  refine at_drop (k := 0) rfl rfl ?_
                  refine at_eqM (M1 := (Fs)) (M2 := (Fs)) rfl rfl ?_
                  refine at_done (vs := [.bool false]) (obs := []) (.inl rfl) [.tmp 2] [] rfl (by kernel_rfl) (fun w hs => trivial) (fun w hs => ⟨_, _, [], rfl, ⟨rfl, rfl⟩, hle, hs⟩)
            · refine at_xone (#[true, false, true, true, true, false, true, false]) (by kernel_rfl) rfl rfl ?_
              obtain ⟨i_, hi_, hz_, _, _⟩ := info31
              refine eff_alloc rfl rfl hi_ hz_ #[.int .i64 0, .int .i64 0] rfl (fun g215 => ?_)
              refine at_xS (fun w hs => cellsV (k := 1) hs rfl _ 0 (Nat.le_of_ble_eq_true (by kernel_rfl)) rfl) ?_
              refine at_x1 2 1 (#[true, true, true, true, true, false, true, false]) rfl (by kernel_rfl) (by kernel_rfl) rfl rfl ?_
              obtain ⟨b5, H216, H⟩ := bind_some H
              refine eff_lend rfl rfl (post := fun v M => ∃ (A_1 : Option Addr) (c_2 : Nat) (s_3 : Seg), v = .slice A_1 b5.length c_2 ∧ M = [s_3] ∧ Own (Kd.int .i64) 2 I A_1 c_2 b5 s_3) (lent := [s14]) (Mr := ([(g215, .cells #[.int .i64 0, .int .i64 0] 31 (0, 0))] :: [(g20, .cells #[.slice A16 b1.2.1.Points.length c17, .int .i64 b1.2.1.Cursor, .int .i64 b1.2.1.Mark] 25 (0, 0))] :: [(g50, .cells #[.int .i64 x52, .int .i64 x53] 31 (0, 0))] :: s18 :: Fs)) ok7 rfl rfl ?_ (fun v217 M219 hq220 => ?_)
              · refine Lends.lend (k := 3) rfl (fun J222 hJ223 hin224 => ?_)
                have hm_ := laws_lwCopy.calls (I0 := J222) H216 (ho15.rd hJ223 hin224)
                exact Lends.of_meets (Mc := []) (show Meets Try.prog 7 ([.slice A12 b1.1.length c13] : List Value).toArray J222 [] _ from hm_) (fun v J M h_ => by obtain ⟨a0_, a1_, a2_, e1_, e2_, h0_⟩ := h_; exact ⟨a0_, a1_, a2_, e1_, e2_, h0_.flat (fun h => h)⟩) (List.Perm.refl _)
              obtain ⟨A225, c226, s227, rfl, rfl, ho228⟩ := hq220
              refine at_xS (fun w hs => cellsV (k := 3) hs rfl _ 0 (Nat.le_of_ble_eq_true (by kernel_rfl)) rfl) ?_
              refine at_x1 1 5 (#[true, true, true, true, true, true, true, false]) rfl (by kernel_rfl) (by kernel_rfl) rfl rfl ?_
              obtain ⟨b6, H229, H⟩ := bind_some H
              refine eff_read rfl rfl (rv := .agg #[.int .i64 b6.Line, .int .i64 b6.Col]) (Ms' := (s227 :: s18 :: s14 :: [(g215, .cells #[.int .i64 0, .int .i64 0] 31 (0, 0))] :: [(g20, .cells #[.slice A16 b1.2.1.Points.length c17, .int .i64 b1.2.1.Cursor, .int .i64 b1.2.1.Mark] 25 (0, 0))] :: [(g50, .cells #[.int .i64 x52, .int .i64 x53] 31 (0, 0))] :: Fs)) ok9 rfl rfl ?_ ?_
              · refine Reads.lend (k := 1) rfl (fun J230 hJ231 hin232 => ?_)
                refine Reads.lend (k := 4) rfl (fun J233 hJ234 hin235 => ?_)
                have hm_ := impl_ViewSpot.calls (I0 := J233) H229 (ho228.rd (hJ231.trans hJ234) (hin232.mono hJ234)) (ho19.rd (hJ231.trans hJ234) hin235)
                exact Reads.of_meets (Mr := (s14 :: [(g215, .cells #[.int .i64 0, .int .i64 0] 31 (0, 0))] :: [(g20, .cells #[.slice A16 b1.2.1.Points.length c17, .int .i64 b1.2.1.Cursor, .int .i64 b1.2.1.Mark] 25 (0, 0))] :: [(g50, .cells #[.int .i64 x52, .int .i64 x53] 31 (0, 0))] :: Fs)) (show Meets Try.prog 9 ([.slice A225 b5.length c226, .agg #[.slice A16 b1.2.1.Points.length c17, .int .i64 b1.2.1.Cursor, .int .i64 b1.2.1.Mark], .int .i64 x51, .int .i64 b1.2.2] : List Value).toArray J233 [] _ from hm_) (List.Perm.refl _)
              refine at_xS (fun w hs => cellsV (k := 4) hs rfl _ 0 (Nat.le_of_ble_eq_true (by kernel_rfl)) rfl) ?_
              refine at_x1 0 7 (#[true, true, true, true, true, true, true, true]) rfl (by kernel_rfl) (by kernel_rfl) rfl rfl ?_
              refine eff_store 3 rfl rfl rfl rfl rfl rfl (.inl (Nat.le_refl _)) rfl (Nat.le_of_ble_eq_true (by kernel_rfl)) rfl ?_
              refine at_eqM (M1 := (s227 :: s18 :: s14 :: [(g215, .cells #[.int .i64 b6.Line, .int .i64 b6.Col] 31 (0, 0))] :: [(g20, .cells #[.slice A16 b1.2.1.Points.length c17, .int .i64 b1.2.1.Cursor, .int .i64 b1.2.1.Mark] 25 (0, 0))] :: [(g50, .cells #[.int .i64 x52, .int .i64 x53] 31 (0, 0))] :: Fs)) (M2 := (s227 :: s18 :: s14 :: [(g215, .cells #[.int .i64 b6.Line, .int .i64 b6.Col] 31 (0, 0))] :: [(g20, .cells #[.slice A16 b1.2.1.Points.length c17, .int .i64 b1.2.1.Cursor, .int .i64 b1.2.1.Mark] 25 (0, 0))] :: [(g50, .cells #[.int .i64 x52, .int .i64 x53] 31 (0, 0))] :: Fs)) rfl rfl ?_
              refine at_xX (by kernel_rfl) ?_
              refine at_xend (by kernel_rfl) ?_
              refine at_thn ?_
              refine at_seq ?_
              refine at_seq ?_
              refine at_x hmo (fun w => CellsAt w ⟨g215, 0, none⟩ [.int .i64 b6.Line, .int .i64 b6.Col] 0 ∧ CellsAt w ⟨g20, 0, none⟩ [.slice A16 b1.2.1.Points.length c17, .int .i64 b1.2.1.Cursor, .int .i64 b1.2.1.Mark] 0) [] ?_
              refine at_xseg [0, 1, 2, 3, 4] 29 (#[true, true, true, true, true, false, false, false, false, false, false, false, false, false, false, false, false, false, false, false, false, false, false, false, false, false, false, false, false, false, false, false, false, false]) rfl (by kernel_rfl) [(0, .agg #[.int .i64 b6.Line, .int .i64 b6.Col]), (2, .agg #[.slice A16 b1.2.1.Points.length c17, .int .i64 b1.2.1.Cursor, .int .i64 b1.2.1.Mark])] [3, 4, 5, 6, 7, 8, 9, 46, 47, 48, 49, 50] (L2 := [(3, .slice A12 b1.1.length c13), (4, .pointer (some ⟨g20, 0, none⟩)), (5, .int .i64 b1.2.2), (6, .int .i64 b3), (7, .pointer (some ⟨g50, 0, none⟩)), (8, .int .i64 x51), (9, .pointer (some ⟨g215, 0, none⟩)), (46, .agg #[.int .i64 b6.Line, .int .i64 b6.Col]), (47, .slice A12 b1.1.length c13), (48, .agg #[.slice A16 b1.2.1.Points.length c17, .int .i64 b1.2.1.Cursor, .int .i64 b1.2.1.Mark]), (49, .int .i64 x51), (50, .int .i64 b1.2.2)]) (obs := [fun w => CellsAt w ⟨g215, 0, none⟩ [.int .i64 b6.Line, .int .i64 b6.Col] 0, fun w => CellsAt w ⟨g20, 0, none⟩ [.slice A16 b1.2.1.Points.length c17, .int .i64 b1.2.1.Cursor, .int .i64 b1.2.1.Mark] 0]) (by kernel_rfl) (by kernel_rfl) (by kernel_rfl) (.inr fun w hs => ⟨cellsV (k := 3) hs rfl _ 0 (Nat.le_of_ble_eq_true (by kernel_rfl)) rfl, cellsV (k := 4) hs rfl _ 0 (Nat.le_of_ble_eq_true (by kernel_rfl)) rfl⟩) (fun w hS => ⟨hS.1, hS.2⟩) (fun w hs => ⟨cellsV (k := 3) hs rfl _ 0 (Nat.le_of_ble_eq_true (by kernel_rfl)) rfl, cellsV (k := 4) hs rfl _ 0 (Nat.le_of_ble_eq_true (by kernel_rfl)) rfl⟩) ?_
              refine at_x1 28 5 (#[true, true, true, true, true, true, false, false, false, false, false, false, false, false, false, false, false, false, false, false, false, false, false, false, false, false, false, false, false, false, false, false, false, false]) rfl (by kernel_rfl) (by kernel_rfl) rfl rfl ?_
              obtain ⟨b7, H236, H⟩ := bind_some H
              refine eff_read rfl rfl (rv := .agg #[.int .i64 b7.Line, .int .i64 b7.Col]) (Ms' := (s14 :: s18 :: s227 :: [(g215, .cells #[.int .i64 b6.Line, .int .i64 b6.Col] 31 (0, 0))] :: [(g20, .cells #[.slice A16 b1.2.1.Points.length c17, .int .i64 b1.2.1.Cursor, .int .i64 b1.2.1.Mark] 25 (0, 0))] :: [(g50, .cells #[.int .i64 x52, .int .i64 x53] 31 (0, 0))] :: Fs)) ok10 rfl rfl ?_ ?_
              · refine Reads.lend (k := 2) rfl (fun J237 hJ238 hin239 => ?_)
                refine Reads.lend (k := 1) rfl (fun J240 hJ241 hin242 => ?_)
                have hm_ := spec_ViewSpot.calls (I0 := J240) H236 (ho15.rd (hJ238.trans hJ241) (hin239.mono hJ241)) (ho19.rd (hJ238.trans hJ241) hin242)
                exact Reads.of_meets (Mr := (s227 :: [(g215, .cells #[.int .i64 b6.Line, .int .i64 b6.Col] 31 (0, 0))] :: [(g20, .cells #[.slice A16 b1.2.1.Points.length c17, .int .i64 b1.2.1.Cursor, .int .i64 b1.2.1.Mark] 25 (0, 0))] :: [(g50, .cells #[.int .i64 x52, .int .i64 x53] 31 (0, 0))] :: Fs)) (show Meets Try.prog 10 ([.slice A12 b1.1.length c13, .agg #[.slice A16 b1.2.1.Points.length c17, .int .i64 b1.2.1.Cursor, .int .i64 b1.2.1.Mark], .int .i64 x51, .int .i64 b1.2.2] : List Value).toArray J240 [] _ from hm_) (List.Perm.refl _)
              refine at_xS (fun w hs => ⟨cellsV (k := 3) hs rfl _ 0 (Nat.le_of_ble_eq_true (by kernel_rfl)) rfl, cellsV (k := 4) hs rfl _ 0 (Nat.le_of_ble_eq_true (by kernel_rfl)) rfl⟩) ?_
              refine at_x1 27 6 (#[true, true, true, true, true, true, true, false, false, false, false, false, false, false, false, false, false, false, false, false, false, false, false, false, false, false, false, false, false, false, false, false, false, false]) rfl (by kernel_rfl) (by kernel_rfl) rfl rfl ?_
              refine eff_neAgg (b := ((b6.Line == b7.Line) && ((b6.Col == b7.Col) && true))) 4 rfl rfl (by decide) (by kernel_rfl) rfl rfl (by kernel_rfl) ?_
              refine at_xS (fun w hs => ⟨cellsV (k := 3) hs rfl _ 0 (Nat.le_of_ble_eq_true (by kernel_rfl)) rfl, cellsV (k := 4) hs rfl _ 0 (Nat.le_of_ble_eq_true (by kernel_rfl)) rfl⟩) ?_
              by_cases h243 : ((b6.Line == b7.Line) && ((b6.Col == b7.Col) && true)) = true
              · rw [if_pos h243] at H
                by_cases h244 : b6.Line < x52
                · rw [if_pos h244] at H
                  refine at_xweak (S' := fun w => CellsAt w ⟨g215, 0, none⟩ [.int .i64 b6.Line, .int .i64 b6.Col] 0 ∧ CellsAt w ⟨g20, 0, none⟩ [.slice A16 b1.2.1.Points.length c17, .int .i64 b1.2.1.Cursor, .int .i64 b1.2.1.Mark] 0 ∧ w.cell? ⟨g215, 0, none⟩ = some (.int .i64 b6.Line) ∧ w.cell? ⟨g50, 0, none⟩ = some (.int .i64 x52)) (fun w h_ => ⟨h_.1, h_.2.1⟩) ?_
                  refine at_xseg [7, 8, 9, 10, 11, 12, 13, 14, 15, 16, 17, 18, 19, 20, 21, 22, 23, 24, 25, 26, 27, 28, 29, 30, 31, 32, 33] 0 (#[true, true, true, true, true, true, true, true, true, true, true, true, true, true, true, true, true, true, true, true, true, true, true, true, true, true, true, true, true, true, true, true, true, true]) rfl (by kernel_rfl) [(7, .bool false), (9, .int .i64 b6.Line), (11, .int .i64 x52), (14, .bool true)] [3, 4, 5, 6, 7, 8, 9, 79] (L2 := [(3, .slice A12 b1.1.length c13), (4, .pointer (some ⟨g20, 0, none⟩)), (5, .int .i64 b1.2.2), (6, .int .i64 b3), (7, .pointer (some ⟨g50, 0, none⟩)), (8, .int .i64 x51), (9, .pointer (some ⟨g215, 0, none⟩)), (79, .bool true)]) (obs := [fun _ => (.bool (!((b6.Line == b7.Line) && ((b6.Col == b7.Col) && true))) : Value) = .bool false, fun w => w.cell? ⟨g215, 0, none⟩ = some (.int .i64 b6.Line), fun w => w.cell? ⟨g50, 0, none⟩ = some (.int .i64 x52), fun _ => (.bool (decide (b6.Line < x52)) : Value) = .bool true]) (by kernel_rfl) (by kernel_rfl) (by kernel_rfl) (.inr fun w hs => ⟨cellsV (k := 3) hs rfl _ 0 (Nat.le_of_ble_eq_true (by kernel_rfl)) rfl, cellsV (k := 4) hs rfl _ 0 (Nat.le_of_ble_eq_true (by kernel_rfl)) rfl, hs.var (k := 3) rfl 0 rfl, hs.var (k := 5) rfl 0 rfl⟩) (fun w hS => ⟨congrArg Value.bool (not_ff (h243)), hS.2.2.1, hS.2.2.2, congrArg Value.bool (decide_eq_true h244)⟩) (fun w hs => ⟨congrArg Value.bool (not_ff (h243)), hs.var (k := 3) rfl 0 rfl, hs.var (k := 5) rfl 0 rfl, congrArg Value.bool (decide_eq_true h244)⟩) ?_
                  refine at_xend (by kernel_rfl) ?_
                  refine at_thn ?_
                  refine at_cond_t rfl (rfl) ?_
                  refine at_seq ?_
                  refine at_reg [] [2] (L2 := [(2, .bool false)]) (obs := []) (by kernel_rfl) ?_ ?_
                  · intro w hs; exact trivial
                  refine at_thn ?_
                  refine at_ret ?_
                  refine at_then_ret ?_
                  refine at_in_ret ?_
                  refine at_then_ret ?_
                  refine at_then_ret ?_
                  refine at_in_ret ?_
                  refine at_then_ret ?_
                  obtain rfl := Option.some.inj H
                  refine at_drop (k := 0) rfl rfl ?_
                  refine at_eqM (M1 := (s18 :: s227 :: [(g215, .cells #[.int .i64 b6.Line, .int .i64 b6.Col] 31 (0, 0))] :: [(g20, .cells #[.slice A16 b1.2.1.Points.length c17, .int .i64 b1.2.1.Cursor, .int .i64 b1.2.1.Mark] 25 (0, 0))] :: [(g50, .cells #[.int .i64 x52, .int .i64 x53] 31 (0, 0))] :: Fs)) (M2 := (s18 :: s227 :: [(g215, .cells #[.int .i64 b6.Line, .int .i64 b6.Col] 31 (0, 0))] :: [(g20, .cells #[.slice A16 b1.2.1.Points.length c17, .int .i64 b1.2.1.Cursor, .int .i64 b1.2.1.Mark] 25 (0, 0))] :: [(g50, .cells #[.int .i64 x52, .int .i64 x53] 31 (0, 0))] :: Fs)) rfl rfl ?_
                  refine at_drop (k := 0) rfl rfl ?_
                  refine at_eqM (M1 := (s227 :: [(g215, .cells #[.int .i64 b6.Line, .int .i64 b6.Col] 31 (0, 0))] :: [(g20, .cells #[.slice A16 b1.2.1.Points.length c17, .int .i64 b1.2.1.Cursor, .int .i64 b1.2.1.Mark] 25 (0, 0))] :: [(g50, .cells #[.int .i64 x52, .int .i64 x53] 31 (0, 0))] :: Fs)) (M2 := (s227 :: [(g215, .cells #[.int .i64 b6.Line, .int .i64 b6.Col] 31 (0, 0))] :: [(g20, .cells #[.slice A16 b1.2.1.Points.length c17, .int .i64 b1.2.1.Cursor, .int .i64 b1.2.1.Mark] 25 (0, 0))] :: [(g50, .cells #[.int .i64 x52, .int .i64 x53] 31 (0, 0))] :: Fs)) rfl rfl ?_
                  refine at_drop (k := 0) rfl rfl ?_
                  refine at_eqM (M1 := ([(g215, .cells #[.int .i64 b6.Line, .int .i64 b6.Col] 31 (0, 0))] :: [(g20, .cells #[.slice A16 b1.2.1.Points.length c17, .int .i64 b1.2.1.Cursor, .int .i64 b1.2.1.Mark] 25 (0, 0))] :: [(g50, .cells #[.int .i64 x52, .int .i64 x53] 31 (0, 0))] :: Fs)) (M2 := ([(g215, .cells #[.int .i64 b6.Line, .int .i64 b6.Col] 31 (0, 0))] :: [(g20, .cells #[.slice A16 b1.2.1.Points.length c17, .int .i64 b1.2.1.Cursor, .int .i64 b1.2.1.Mark] 25 (0, 0))] :: [(g50, .cells #[.int .i64 x52, .int .i64 x53] 31 (0, 0))] :: Fs)) rfl rfl ?_
                  refine at_drop (k := 0) rfl rfl ?_
                  refine at_eqM (M1 := ([(g20, .cells #[.slice A16 b1.2.1.Points.length c17, .int .i64 b1.2.1.Cursor, .int .i64 b1.2.1.Mark] 25 (0, 0))] :: [(g50, .cells #[.int .i64 x52, .int .i64 x53] 31 (0, 0))] :: Fs)) (M2 := ([(g20, .cells #[.slice A16 b1.2.1.Points.length c17, .int .i64 b1.2.1.Cursor, .int .i64 b1.2.1.Mark] 25 (0, 0))] :: [(g50, .cells #[.int .i64 x52, .int .i64 x53] 31 (0, 0))] :: Fs)) rfl rfl ?_
                  refine at_drop (k := 0) rfl rfl ?_
                  refine at_eqM (M1 := ([(g50, .cells #[.int .i64 x52, .int .i64 x53] 31 (0, 0))] :: Fs)) (M2 := ([(g50, .cells #[.int .i64 x52, .int .i64 x53] 31 (0, 0))] :: Fs)) rfl rfl ?_
                  refine at_drop (k := 0) rfl rfl ?_
                  refine at_eqM (M1 := (Fs)) (M2 := (Fs)) rfl rfl ?_
                  refine at_done (vs := [.bool false]) (obs := []) (.inl rfl) [.tmp 2] [] rfl (by kernel_rfl) (fun w hs => trivial) (fun w hs => ⟨_, _, [], rfl, ⟨rfl, rfl⟩, hle, hs⟩)
                · rw [if_neg h244] at H
                  by_cases h245 : b6.Line = x52
                  · rw [if_pos h245] at H
                    by_cases h246 : b6.Col < x53
                    · rw [if_pos h246] at H
                      refine at_xweak (S' := fun w => CellsAt w ⟨g215, 0, none⟩ [.int .i64 b6.Line, .int .i64 b6.Col] 0 ∧ CellsAt w ⟨g20, 0, none⟩ [.slice A16 b1.2.1.Points.length c17, .int .i64 b1.2.1.Cursor, .int .i64 b1.2.1.Mark] 0 ∧ w.cell? ⟨g215, 0, none⟩ = some (.int .i64 b6.Line) ∧ w.cell? ⟨g50, 0, none⟩ = some (.int .i64 x52) ∧ w.cell? ⟨g215, 0, none⟩ = some (.int .i64 b6.Line) ∧ w.cell? ⟨g50, 0, none⟩ = some (.int .i64 x52) ∧ w.cell? ⟨g215, 1, none⟩ = some (.int .i64 b6.Col) ∧ w.cell? ⟨g50, 1, none⟩ = some (.int .i64 x53)) (fun w h_ => ⟨h_.1, h_.2.1⟩) ?_
                      refine at_xseg [7, 8, 9, 10, 11, 12, 13, 14, 15, 16, 17, 18, 19, 20, 21, 22, 23, 24, 25, 26, 27, 28, 29, 30, 31, 32, 33] 0 (#[true, true, true, true, true, true, true, true, true, true, true, true, true, true, true, true, true, true, true, true, true, true, true, true, true, true, true, true, true, true, true, true, true, true]) rfl (by kernel_rfl) [(7, .bool false), (9, .int .i64 b6.Line), (11, .int .i64 x52), (14, .bool false), (16, .int .i64 b6.Line), (18, .int .i64 x52), (20, .bool true), (22, .int .i64 b6.Col), (24, .int .i64 x53), (28, .bool true)] [3, 4, 5, 6, 7, 8, 9, 79] (L2 := [(3, .slice A12 b1.1.length c13), (4, .pointer (some ⟨g20, 0, none⟩)), (5, .int .i64 b1.2.2), (6, .int .i64 b3), (7, .pointer (some ⟨g50, 0, none⟩)), (8, .int .i64 x51), (9, .pointer (some ⟨g215, 0, none⟩)), (79, .bool true)]) (obs := [fun _ => (.bool (!((b6.Line == b7.Line) && ((b6.Col == b7.Col) && true))) : Value) = .bool false, fun w => w.cell? ⟨g215, 0, none⟩ = some (.int .i64 b6.Line), fun w => w.cell? ⟨g50, 0, none⟩ = some (.int .i64 x52), fun _ => (.bool (decide (b6.Line < x52)) : Value) = .bool false, fun w => w.cell? ⟨g215, 0, none⟩ = some (.int .i64 b6.Line), fun w => w.cell? ⟨g50, 0, none⟩ = some (.int .i64 x52), fun _ => (.bool (b6.Line == x52) : Value) = .bool true, fun w => w.cell? ⟨g215, 1, none⟩ = some (.int .i64 b6.Col), fun w => w.cell? ⟨g50, 1, none⟩ = some (.int .i64 x53), fun _ => (.bool (decide (b6.Col < x53)) : Value) = .bool true]) (by kernel_rfl) (by kernel_rfl) (by kernel_rfl) (.inr fun w hs => ⟨cellsV (k := 3) hs rfl _ 0 (Nat.le_of_ble_eq_true (by kernel_rfl)) rfl, cellsV (k := 4) hs rfl _ 0 (Nat.le_of_ble_eq_true (by kernel_rfl)) rfl, hs.var (k := 3) rfl 0 rfl, hs.var (k := 5) rfl 0 rfl, hs.var (k := 3) rfl 0 rfl, hs.var (k := 5) rfl 0 rfl, hs.var (k := 3) rfl 1 rfl, hs.var (k := 5) rfl 1 rfl⟩) (fun w hS => ⟨congrArg Value.bool (not_ff (h243)), hS.2.2.1, hS.2.2.2.1, congrArg Value.bool (decide_eq_false h244), hS.2.2.2.2.1, hS.2.2.2.2.2.1, congrArg Value.bool (beq_iff_eq.2 h245), hS.2.2.2.2.2.2.1, hS.2.2.2.2.2.2.2, congrArg Value.bool (decide_eq_true h246)⟩) (fun w hs => ⟨congrArg Value.bool (not_ff (h243)), hs.var (k := 3) rfl 0 rfl, hs.var (k := 5) rfl 0 rfl, congrArg Value.bool (decide_eq_false h244), hs.var (k := 3) rfl 0 rfl, hs.var (k := 5) rfl 0 rfl, congrArg Value.bool (beq_iff_eq.2 h245), hs.var (k := 3) rfl 1 rfl, hs.var (k := 5) rfl 1 rfl, congrArg Value.bool (decide_eq_true h246)⟩) ?_
                      refine at_xend (by kernel_rfl) ?_
                      refine at_thn ?_
                      refine at_cond_t rfl (rfl) ?_
                      refine at_seq ?_
                      refine at_reg [] [2] (L2 := [(2, .bool false)]) (obs := []) (by kernel_rfl) ?_ ?_
                      · intro w hs; exact trivial
                      refine at_thn ?_
                      refine at_ret ?_
                      refine at_then_ret ?_
                      refine at_in_ret ?_
                      refine at_then_ret ?_
                      refine at_then_ret ?_
                      refine at_in_ret ?_
                      refine at_then_ret ?_
                      obtain rfl := Option.some.inj H
                      refine at_drop (k := 0) rfl rfl ?_
                      refine at_eqM (M1 := (s18 :: s227 :: [(g215, .cells #[.int .i64 b6.Line, .int .i64 b6.Col] 31 (0, 0))] :: [(g20, .cells #[.slice A16 b1.2.1.Points.length c17, .int .i64 b1.2.1.Cursor, .int .i64 b1.2.1.Mark] 25 (0, 0))] :: [(g50, .cells #[.int .i64 x52, .int .i64 x53] 31 (0, 0))] :: Fs)) (M2 := (s18 :: s227 :: [(g215, .cells #[.int .i64 b6.Line, .int .i64 b6.Col] 31 (0, 0))] :: [(g20, .cells #[.slice A16 b1.2.1.Points.length c17, .int .i64 b1.2.1.Cursor, .int .i64 b1.2.1.Mark] 25 (0, 0))] :: [(g50, .cells #[.int .i64 x52, .int .i64 x53] 31 (0, 0))] :: Fs)) rfl rfl ?_
                      refine at_drop (k := 0) rfl rfl ?_
                      refine at_eqM (M1 := (s227 :: [(g215, .cells #[.int .i64 b6.Line, .int .i64 b6.Col] 31 (0, 0))] :: [(g20, .cells #[.slice A16 b1.2.1.Points.length c17, .int .i64 b1.2.1.Cursor, .int .i64 b1.2.1.Mark] 25 (0, 0))] :: [(g50, .cells #[.int .i64 x52, .int .i64 x53] 31 (0, 0))] :: Fs)) (M2 := (s227 :: [(g215, .cells #[.int .i64 b6.Line, .int .i64 b6.Col] 31 (0, 0))] :: [(g20, .cells #[.slice A16 b1.2.1.Points.length c17, .int .i64 b1.2.1.Cursor, .int .i64 b1.2.1.Mark] 25 (0, 0))] :: [(g50, .cells #[.int .i64 x52, .int .i64 x53] 31 (0, 0))] :: Fs)) rfl rfl ?_
                      refine at_drop (k := 0) rfl rfl ?_
                      refine at_eqM (M1 := ([(g215, .cells #[.int .i64 b6.Line, .int .i64 b6.Col] 31 (0, 0))] :: [(g20, .cells #[.slice A16 b1.2.1.Points.length c17, .int .i64 b1.2.1.Cursor, .int .i64 b1.2.1.Mark] 25 (0, 0))] :: [(g50, .cells #[.int .i64 x52, .int .i64 x53] 31 (0, 0))] :: Fs)) (M2 := ([(g215, .cells #[.int .i64 b6.Line, .int .i64 b6.Col] 31 (0, 0))] :: [(g20, .cells #[.slice A16 b1.2.1.Points.length c17, .int .i64 b1.2.1.Cursor, .int .i64 b1.2.1.Mark] 25 (0, 0))] :: [(g50, .cells #[.int .i64 x52, .int .i64 x53] 31 (0, 0))] :: Fs)) rfl rfl ?_
                      refine at_drop (k := 0) rfl rfl ?_
                      refine at_eqM (M1 := ([(g20, .cells #[.slice A16 b1.2.1.Points.length c17, .int .i64 b1.2.1.Cursor, .int .i64 b1.2.1.Mark] 25 (0, 0))] :: [(g50, .cells #[.int .i64 x52, .int .i64 x53] 31 (0, 0))] :: Fs)) (M2 := ([(g20, .cells #[.slice A16 b1.2.1.Points.length c17, .int .i64 b1.2.1.Cursor, .int .i64 b1.2.1.Mark] 25 (0, 0))] :: [(g50, .cells #[.int .i64 x52, .int .i64 x53] 31 (0, 0))] :: Fs)) rfl rfl ?_
                      refine at_drop (k := 0) rfl rfl ?_
                      refine at_eqM (M1 := ([(g50, .cells #[.int .i64 x52, .int .i64 x53] 31 (0, 0))] :: Fs)) (M2 := ([(g50, .cells #[.int .i64 x52, .int .i64 x53] 31 (0, 0))] :: Fs)) rfl rfl ?_
                      refine at_drop (k := 0) rfl rfl ?_
                      refine at_eqM (M1 := (Fs)) (M2 := (Fs)) rfl rfl ?_
                      refine at_done (vs := [.bool false]) (obs := []) (.inl rfl) [.tmp 2] [] rfl (by kernel_rfl) (fun w hs => trivial) (fun w hs => ⟨_, _, [], rfl, ⟨rfl, rfl⟩, hle, hs⟩)
                    · rw [if_neg h246] at H
                      refine at_xweak (S' := fun w => CellsAt w ⟨g215, 0, none⟩ [.int .i64 b6.Line, .int .i64 b6.Col] 0 ∧ CellsAt w ⟨g20, 0, none⟩ [.slice A16 b1.2.1.Points.length c17, .int .i64 b1.2.1.Cursor, .int .i64 b1.2.1.Mark] 0 ∧ w.cell? ⟨g215, 0, none⟩ = some (.int .i64 b6.Line) ∧ w.cell? ⟨g50, 0, none⟩ = some (.int .i64 x52) ∧ w.cell? ⟨g215, 0, none⟩ = some (.int .i64 b6.Line) ∧ w.cell? ⟨g50, 0, none⟩ = some (.int .i64 x52) ∧ w.cell? ⟨g215, 1, none⟩ = some (.int .i64 b6.Col) ∧ w.cell? ⟨g50, 1, none⟩ = some (.int .i64 x53) ∧ w.cell? ⟨g215, 1, none⟩ = some (.int .i64 b6.Col)) (fun w h_ => ⟨h_.1, h_.2.1⟩) ?_
                      refine at_xseg [7, 8, 9, 10, 11, 12, 13, 14, 15, 16, 17, 18, 19, 20, 21, 22, 23, 24, 25, 26, 27, 28, 29, 30, 31, 32, 33] 0 (#[true, true, true, true, true, true, true, true, true, true, true, true, true, true, true, true, true, true, true, true, true, true, true, true, true, true, true, true, true, true, true, true, true, true]) rfl (by kernel_rfl) [(7, .bool false), (9, .int .i64 b6.Line), (11, .int .i64 x52), (14, .bool false), (16, .int .i64 b6.Line), (18, .int .i64 x52), (20, .bool true), (22, .int .i64 b6.Col), (24, .int .i64 x53), (28, .bool false), (30, .int .i64 b6.Col)] [3, 4, 5, 6, 7, 8, 9, 79] (L2 := [(3, .slice A12 b1.1.length c13), (4, .pointer (some ⟨g20, 0, none⟩)), (5, .int .i64 b1.2.2), (6, .int .i64 b3), (7, .pointer (some ⟨g50, 0, none⟩)), (8, .int .i64 x51), (9, .pointer (some ⟨g215, 0, none⟩)), (79, .bool (decide (b6.Col ≥ b1.2.2)))]) (obs := [fun _ => (.bool (!((b6.Line == b7.Line) && ((b6.Col == b7.Col) && true))) : Value) = .bool false, fun w => w.cell? ⟨g215, 0, none⟩ = some (.int .i64 b6.Line), fun w => w.cell? ⟨g50, 0, none⟩ = some (.int .i64 x52), fun _ => (.bool (decide (b6.Line < x52)) : Value) = .bool false, fun w => w.cell? ⟨g215, 0, none⟩ = some (.int .i64 b6.Line), fun w => w.cell? ⟨g50, 0, none⟩ = some (.int .i64 x52), fun _ => (.bool (b6.Line == x52) : Value) = .bool true, fun w => w.cell? ⟨g215, 1, none⟩ = some (.int .i64 b6.Col), fun w => w.cell? ⟨g50, 1, none⟩ = some (.int .i64 x53), fun _ => (.bool (decide (b6.Col < x53)) : Value) = .bool false, fun w => w.cell? ⟨g215, 1, none⟩ = some (.int .i64 b6.Col)]) (by kernel_rfl) (by kernel_rfl) (by kernel_rfl) (.inr fun w hs => ⟨cellsV (k := 3) hs rfl _ 0 (Nat.le_of_ble_eq_true (by kernel_rfl)) rfl, cellsV (k := 4) hs rfl _ 0 (Nat.le_of_ble_eq_true (by kernel_rfl)) rfl, hs.var (k := 3) rfl 0 rfl, hs.var (k := 5) rfl 0 rfl, hs.var (k := 3) rfl 0 rfl, hs.var (k := 5) rfl 0 rfl, hs.var (k := 3) rfl 1 rfl, hs.var (k := 5) rfl 1 rfl, hs.var (k := 3) rfl 1 rfl⟩) (fun w hS => ⟨congrArg Value.bool (not_ff (h243)), hS.2.2.1, hS.2.2.2.1, congrArg Value.bool (decide_eq_false h244), hS.2.2.2.2.1, hS.2.2.2.2.2.1, congrArg Value.bool (beq_iff_eq.2 h245), hS.2.2.2.2.2.2.1, hS.2.2.2.2.2.2.2.1, congrArg Value.bool (decide_eq_false h246), hS.2.2.2.2.2.2.2.2⟩) (fun w hs => ⟨congrArg Value.bool (not_ff (h243)), hs.var (k := 3) rfl 0 rfl, hs.var (k := 5) rfl 0 rfl, congrArg Value.bool (decide_eq_false h244), hs.var (k := 3) rfl 0 rfl, hs.var (k := 5) rfl 0 rfl, congrArg Value.bool (beq_iff_eq.2 h245), hs.var (k := 3) rfl 1 rfl, hs.var (k := 5) rfl 1 rfl, congrArg Value.bool (decide_eq_false h246), hs.var (k := 3) rfl 1 rfl⟩) ?_
                      refine at_xend (by kernel_rfl) ?_
                      refine at_thn ?_
                      by_cases h247 : b6.Col ≥ b1.2.2
                      · rw [if_pos h247] at H
                        refine at_cond_t rfl (decide_eq_true h247) ?_
                        refine at_seq ?_
                        refine at_reg [] [2] (L2 := [(2, .bool false)]) (obs := []) (by kernel_rfl) ?_ ?_
                        · intro w hs; exact trivial
                        refine at_thn ?_
                        refine at_ret ?_
                        refine at_then_ret ?_
                        refine at_in_ret ?_
                        refine at_then_ret ?_
                        refine at_then_ret ?_
                        refine at_in_ret ?_
                        refine at_then_ret ?_
                        obtain rfl := Option.some.inj H
                        refine at_drop (k := 0) rfl rfl ?_
                        refine at_eqM (M1 := (s18 :: s227 :: [(g215, .cells #[.int .i64 b6.Line, .int .i64 b6.Col] 31 (0, 0))] :: [(g20, .cells #[.slice A16 b1.2.1.Points.length c17, .int .i64 b1.2.1.Cursor, .int .i64 b1.2.1.Mark] 25 (0, 0))] :: [(g50, .cells #[.int .i64 x52, .int .i64 x53] 31 (0, 0))] :: Fs)) (M2 := (s18 :: s227 :: [(g215, .cells #[.int .i64 b6.Line, .int .i64 b6.Col] 31 (0, 0))] :: [(g20, .cells #[.slice A16 b1.2.1.Points.length c17, .int .i64 b1.2.1.Cursor, .int .i64 b1.2.1.Mark] 25 (0, 0))] :: [(g50, .cells #[.int .i64 x52, .int .i64 x53] 31 (0, 0))] :: Fs)) rfl rfl ?_
                        refine at_drop (k := 0) rfl rfl ?_
                        refine at_eqM (M1 := (s227 :: [(g215, .cells #[.int .i64 b6.Line, .int .i64 b6.Col] 31 (0, 0))] :: [(g20, .cells #[.slice A16 b1.2.1.Points.length c17, .int .i64 b1.2.1.Cursor, .int .i64 b1.2.1.Mark] 25 (0, 0))] :: [(g50, .cells #[.int .i64 x52, .int .i64 x53] 31 (0, 0))] :: Fs)) (M2 := (s227 :: [(g215, .cells #[.int .i64 b6.Line, .int .i64 b6.Col] 31 (0, 0))] :: [(g20, .cells #[.slice A16 b1.2.1.Points.length c17, .int .i64 b1.2.1.Cursor, .int .i64 b1.2.1.Mark] 25 (0, 0))] :: [(g50, .cells #[.int .i64 x52, .int .i64 x53] 31 (0, 0))] :: Fs)) rfl rfl ?_
                        refine at_drop (k := 0) rfl rfl ?_
                        refine at_eqM (M1 := ([(g215, .cells #[.int .i64 b6.Line, .int .i64 b6.Col] 31 (0, 0))] :: [(g20, .cells #[.slice A16 b1.2.1.Points.length c17, .int .i64 b1.2.1.Cursor, .int .i64 b1.2.1.Mark] 25 (0, 0))] :: [(g50, .cells #[.int .i64 x52, .int .i64 x53] 31 (0, 0))] :: Fs)) (M2 := ([(g215, .cells #[.int .i64 b6.Line, .int .i64 b6.Col] 31 (0, 0))] :: [(g20, .cells #[.slice A16 b1.2.1.Points.length c17, .int .i64 b1.2.1.Cursor, .int .i64 b1.2.1.Mark] 25 (0, 0))] :: [(g50, .cells #[.int .i64 x52, .int .i64 x53] 31 (0, 0))] :: Fs)) rfl rfl ?_
                        refine at_drop (k := 0) rfl rfl ?_
                        refine at_eqM (M1 := ([(g20, .cells #[.slice A16 b1.2.1.Points.length c17, .int .i64 b1.2.1.Cursor, .int .i64 b1.2.1.Mark] 25 (0, 0))] :: [(g50, .cells #[.int .i64 x52, .int .i64 x53] 31 (0, 0))] :: Fs)) (M2 := ([(g20, .cells #[.slice A16 b1.2.1.Points.length c17, .int .i64 b1.2.1.Cursor, .int .i64 b1.2.1.Mark] 25 (0, 0))] :: [(g50, .cells #[.int .i64 x52, .int .i64 x53] 31 (0, 0))] :: Fs)) rfl rfl ?_
                        refine at_drop (k := 0) rfl rfl ?_
                        refine at_eqM (M1 := ([(g50, .cells #[.int .i64 x52, .int .i64 x53] 31 (0, 0))] :: Fs)) (M2 := ([(g50, .cells #[.int .i64 x52, .int .i64 x53] 31 (0, 0))] :: Fs)) rfl rfl ?_
                        refine at_drop (k := 0) rfl rfl ?_
                        refine at_eqM (M1 := (Fs)) (M2 := (Fs)) rfl rfl ?_
                        refine at_done (vs := [.bool false]) (obs := []) (.inl rfl) [.tmp 2] [] rfl (by kernel_rfl) (fun w hs => trivial) (fun w hs => ⟨_, _, [], rfl, ⟨rfl, rfl⟩, hle, hs⟩)
                      · rw [if_neg h247] at H
                        refine at_cond_f rfl (decide_eq_false h247) ?_
                        refine at_skip ?_
                        refine at_thn ?_
                        refine at_ops [0, 1] rfl ?_
                        refine at_seg [0] [1] rfl [(0, .agg #[.int .i64 b6.Line, .int .i64 b6.Col])] [3, 4, 5, 6, 7, 8, 80] (L2 := [(3, .slice A12 b1.1.length c13), (4, .pointer (some ⟨g20, 0, none⟩)), (5, .int .i64 b1.2.2), (6, .int .i64 b3), (7, .pointer (some ⟨g50, 0, none⟩)), (8, .int .i64 x51), (80, .agg #[.int .i64 b6.Line, .int .i64 b6.Col])]) (obs := [fun w => CellsAt w ⟨g215, 0, none⟩ [.int .i64 b6.Line, .int .i64 b6.Col] 0]) (by kernel_rfl) ?_ ?_
                        · intro w hs; exact cellsV (k := 3) hs rfl _ 0 (Nat.le_of_ble_eq_true (by kernel_rfl)) rfl
                        refine at_eff rfl rfl ?_
                        refine eff_store 5 rfl rfl rfl rfl rfl rfl (.inl (Nat.le_refl _)) rfl (Nat.le_of_ble_eq_true (by kernel_rfl)) rfl ?_
                        refine at_eqM (M1 := (s14 :: s18 :: s227 :: [(g215, .cells #[.int .i64 b6.Line, .int .i64 b6.Col] 31 (0, 0))] :: [(g20, .cells #[.slice A16 b1.2.1.Points.length c17, .int .i64 b1.2.1.Cursor, .int .i64 b1.2.1.Mark] 25 (0, 0))] :: [(g50, .cells #[.int .i64 b6.Line, .int .i64 b6.Col] 31 (0, 0))] :: Fs)) (M2 := (s14 :: s18 :: s227 :: [(g215, .cells #[.int .i64 b6.Line, .int .i64 b6.Col] 31 (0, 0))] :: [(g20, .cells #[.slice A16 b1.2.1.Points.length c17, .int .i64 b1.2.1.Cursor, .int .i64 b1.2.1.Mark] 25 (0, 0))] :: [(g50, .cells #[.int .i64 b6.Line, .int .i64 b6.Col] 31 (0, 0))] :: Fs)) rfl rfl ?_
                        refine at_end ?_
                        refine at_in_norm ?_
                        refine at_thn ?_
                        refine at_reg [] [3, 4, 5, 6, 7, 8] (L2 := [(3, .slice A12 b1.1.length c13), (4, .pointer (some ⟨g20, 0, none⟩)), (5, .int .i64 b1.2.2), (6, .int .i64 b3), (7, .pointer (some ⟨g50, 0, none⟩)), (8, .int .i64 (IntKind.i64.wrap (x51 + 1)))]) (obs := []) (by kernel_rfl) ?_ ?_
                        · intro w hs; exact trivial
                        refine at_thn ?_
                        refine at_drop (k := 2) rfl rfl ?_
                        refine at_eqM (M1 := (s14 :: s18 :: [(g215, .cells #[.int .i64 b6.Line, .int .i64 b6.Col] 31 (0, 0))] :: [(g20, .cells #[.slice A16 b1.2.1.Points.length c17, .int .i64 b1.2.1.Cursor, .int .i64 b1.2.1.Mark] 25 (0, 0))] :: [(g50, .cells #[.int .i64 b6.Line, .int .i64 b6.Col] 31 (0, 0))] :: Fs)) (M2 := (s14 :: s18 :: [(g215, .cells #[.int .i64 b6.Line, .int .i64 b6.Col] 31 (0, 0))] :: [(g20, .cells #[.slice A16 b1.2.1.Points.length c17, .int .i64 b1.2.1.Cursor, .int .i64 b1.2.1.Mark] 25 (0, 0))] :: [(g50, .cells #[.int .i64 b6.Line, .int .i64 b6.Col] 31 (0, 0))] :: Fs)) rfl rfl ?_
                        refine at_drop (k := 2) rfl rfl ?_
                        refine at_eqM (M1 := (s14 :: s18 :: [(g20, .cells #[.slice A16 b1.2.1.Points.length c17, .int .i64 b1.2.1.Cursor, .int .i64 b1.2.1.Mark] 25 (0, 0))] :: [(g50, .cells #[.int .i64 b6.Line, .int .i64 b6.Col] 31 (0, 0))] :: Fs)) (M2 := (s14 :: s18 :: [(g20, .cells #[.slice A16 b1.2.1.Points.length c17, .int .i64 b1.2.1.Cursor, .int .i64 b1.2.1.Mark] 25 (0, 0))] :: [(g50, .cells #[.int .i64 b6.Line, .int .i64 b6.Col] 31 (0, 0))] :: Fs)) rfl rfl ?_
                        refine at_perm ((perm_at (k := 2) rfl).trans (((perm_at (k := 2) rfl).trans ((List.Perm.refl _).cons _)).cons _)) ?_
                        refine at_keep [3, 4, 5, 6, 7, 8] (L2 := [(3, .slice A12 b1.1.length c13), (4, .pointer (some ⟨g20, 0, none⟩)), (5, .int .i64 b1.2.2), (6, .int .i64 b3), (7, .pointer (some ⟨g50, 0, none⟩)), (8, .int .i64 (IntKind.i64.wrap (x51 + 1)))]) rfl ?_
                        exact ih55 _ (by omega) _ _ _ ⟨IntKind.i64.wrap (x51 + 1), b6.Line, b6.Col, rfl, rfl, H, hle, by omega, ho15, ho19⟩
                  · rw [if_neg h245] at H
                    refine at_xweak (S' := fun w => CellsAt w ⟨g215, 0, none⟩ [.int .i64 b6.Line, .int .i64 b6.Col] 0 ∧ CellsAt w ⟨g20, 0, none⟩ [.slice A16 b1.2.1.Points.length c17, .int .i64 b1.2.1.Cursor, .int .i64 b1.2.1.Mark] 0 ∧ w.cell? ⟨g215, 0, none⟩ = some (.int .i64 b6.Line) ∧ w.cell? ⟨g50, 0, none⟩ = some (.int .i64 x52) ∧ w.cell? ⟨g215, 0, none⟩ = some (.int .i64 b6.Line) ∧ w.cell? ⟨g50, 0, none⟩ = some (.int .i64 x52) ∧ w.cell? ⟨g215, 1, none⟩ = some (.int .i64 b6.Col)) (fun w h_ => ⟨h_.1, h_.2.1⟩) ?_
                    refine at_xseg [7, 8, 9, 10, 11, 12, 13, 14, 15, 16, 17, 18, 19, 20, 21, 22, 23, 24, 25, 26, 27, 28, 29, 30, 31, 32, 33] 0 (#[true, true, true, true, true, true, true, true, true, true, true, true, true, true, true, true, true, true, true, true, true, true, true, true, true, true, true, true, true, true, true, true, true, true]) rfl (by kernel_rfl) [(7, .bool false), (9, .int .i64 b6.Line), (11, .int .i64 x52), (14, .bool false), (16, .int .i64 b6.Line), (18, .int .i64 x52), (20, .bool false), (30, .int .i64 b6.Col)] [3, 4, 5, 6, 7, 8, 9, 79] (L2 := [(3, .slice A12 b1.1.length c13), (4, .pointer (some ⟨g20, 0, none⟩)), (5, .int .i64 b1.2.2), (6, .int .i64 b3), (7, .pointer (some ⟨g50, 0, none⟩)), (8, .int .i64 x51), (9, .pointer (some ⟨g215, 0, none⟩)), (79, .bool (decide (b6.Col ≥ b1.2.2)))]) (obs := [fun _ => (.bool (!((b6.Line == b7.Line) && ((b6.Col == b7.Col) && true))) : Value) = .bool false, fun w => w.cell? ⟨g215, 0, none⟩ = some (.int .i64 b6.Line), fun w => w.cell? ⟨g50, 0, none⟩ = some (.int .i64 x52), fun _ => (.bool (decide (b6.Line < x52)) : Value) = .bool false, fun w => w.cell? ⟨g215, 0, none⟩ = some (.int .i64 b6.Line), fun w => w.cell? ⟨g50, 0, none⟩ = some (.int .i64 x52), fun _ => (.bool (b6.Line == x52) : Value) = .bool false, fun w => w.cell? ⟨g215, 1, none⟩ = some (.int .i64 b6.Col)]) (by kernel_rfl) (by kernel_rfl) (by kernel_rfl) (.inr fun w hs => ⟨cellsV (k := 3) hs rfl _ 0 (Nat.le_of_ble_eq_true (by kernel_rfl)) rfl, cellsV (k := 4) hs rfl _ 0 (Nat.le_of_ble_eq_true (by kernel_rfl)) rfl, hs.var (k := 3) rfl 0 rfl, hs.var (k := 5) rfl 0 rfl, hs.var (k := 3) rfl 0 rfl, hs.var (k := 5) rfl 0 rfl, hs.var (k := 3) rfl 1 rfl⟩) (fun w hS => ⟨congrArg Value.bool (not_ff (h243)), hS.2.2.1, hS.2.2.2.1, congrArg Value.bool (decide_eq_false h244), hS.2.2.2.2.1, hS.2.2.2.2.2.1, congrArg Value.bool (beq_eq_false_iff_ne.2 h245), hS.2.2.2.2.2.2⟩) (fun w hs => ⟨congrArg Value.bool (not_ff (h243)), hs.var (k := 3) rfl 0 rfl, hs.var (k := 5) rfl 0 rfl, congrArg Value.bool (decide_eq_false h244), hs.var (k := 3) rfl 0 rfl, hs.var (k := 5) rfl 0 rfl, congrArg Value.bool (beq_eq_false_iff_ne.2 h245), hs.var (k := 3) rfl 1 rfl⟩) ?_
                    refine at_xend (by kernel_rfl) ?_
                    refine at_thn ?_
                    by_cases h248 : b6.Col ≥ b1.2.2
                    · rw [if_pos h248] at H
                      refine at_cond_t rfl (decide_eq_true h248) ?_
                      refine at_seq ?_
                      refine at_reg [] [2] (L2 := [(2, .bool false)]) (obs := []) (by kernel_rfl) ?_ ?_
                      · intro w hs; exact trivial
                      refine at_thn ?_
                      refine at_ret ?_
                      refine at_then_ret ?_
                      refine at_in_ret ?_
                      refine at_then_ret ?_
                      refine at_then_ret ?_
                      refine at_in_ret ?_
                      refine at_then_ret ?_
                      obtain rfl := Option.some.inj H
                      refine at_drop (k := 0) rfl rfl ?_
                      refine at_eqM (M1 := (s18 :: s227 :: [(g215, .cells #[.int .i64 b6.Line, .int .i64 b6.Col] 31 (0, 0))] :: [(g20, .cells #[.slice A16 b1.2.1.Points.length c17, .int .i64 b1.2.1.Cursor, .int .i64 b1.2.1.Mark] 25 (0, 0))] :: [(g50, .cells #[.int .i64 x52, .int .i64 x53] 31 (0, 0))] :: Fs)) (M2 := (s18 :: s227 :: [(g215, .cells #[.int .i64 b6.Line, .int .i64 b6.Col] 31 (0, 0))] :: [(g20, .cells #[.slice A16 b1.2.1.Points.length c17, .int .i64 b1.2.1.Cursor, .int .i64 b1.2.1.Mark] 25 (0, 0))] :: [(g50, .cells #[.int .i64 x52, .int .i64 x53] 31 (0, 0))] :: Fs)) rfl rfl ?_
                      refine at_drop (k := 0) rfl rfl ?_
                      refine at_eqM (M1 := (s227 :: [(g215, .cells #[.int .i64 b6.Line, .int .i64 b6.Col] 31 (0, 0))] :: [(g20, .cells #[.slice A16 b1.2.1.Points.length c17, .int .i64 b1.2.1.Cursor, .int .i64 b1.2.1.Mark] 25 (0, 0))] :: [(g50, .cells #[.int .i64 x52, .int .i64 x53] 31 (0, 0))] :: Fs)) (M2 := (s227 :: [(g215, .cells #[.int .i64 b6.Line, .int .i64 b6.Col] 31 (0, 0))] :: [(g20, .cells #[.slice A16 b1.2.1.Points.length c17, .int .i64 b1.2.1.Cursor, .int .i64 b1.2.1.Mark] 25 (0, 0))] :: [(g50, .cells #[.int .i64 x52, .int .i64 x53] 31 (0, 0))] :: Fs)) rfl rfl ?_
                      refine at_drop (k := 0) rfl rfl ?_
                      refine at_eqM (M1 := ([(g215, .cells #[.int .i64 b6.Line, .int .i64 b6.Col] 31 (0, 0))] :: [(g20, .cells #[.slice A16 b1.2.1.Points.length c17, .int .i64 b1.2.1.Cursor, .int .i64 b1.2.1.Mark] 25 (0, 0))] :: [(g50, .cells #[.int .i64 x52, .int .i64 x53] 31 (0, 0))] :: Fs)) (M2 := ([(g215, .cells #[.int .i64 b6.Line, .int .i64 b6.Col] 31 (0, 0))] :: [(g20, .cells #[.slice A16 b1.2.1.Points.length c17, .int .i64 b1.2.1.Cursor, .int .i64 b1.2.1.Mark] 25 (0, 0))] :: [(g50, .cells #[.int .i64 x52, .int .i64 x53] 31 (0, 0))] :: Fs)) rfl rfl ?_
                      refine at_drop (k := 0) rfl rfl ?_
                      refine at_eqM (M1 := ([(g20, .cells #[.slice A16 b1.2.1.Points.length c17, .int .i64 b1.2.1.Cursor, .int .i64 b1.2.1.Mark] 25 (0, 0))] :: [(g50, .cells #[.int .i64 x52, .int .i64 x53] 31 (0, 0))] :: Fs)) (M2 := ([(g20, .cells #[.slice A16 b1.2.1.Points.length c17, .int .i64 b1.2.1.Cursor, .int .i64 b1.2.1.Mark] 25 (0, 0))] :: [(g50, .cells #[.int .i64 x52, .int .i64 x53] 31 (0, 0))] :: Fs)) rfl rfl ?_
                      refine at_drop (k := 0) rfl rfl ?_
                      refine at_eqM (M1 := ([(g50, .cells #[.int .i64 x52, .int .i64 x53] 31 (0, 0))] :: Fs)) (M2 := ([(g50, .cells #[.int .i64 x52, .int .i64 x53] 31 (0, 0))] :: Fs)) rfl rfl ?_
                      refine at_drop (k := 0) rfl rfl ?_
                      refine at_eqM (M1 := (Fs)) (M2 := (Fs)) rfl rfl ?_
                      refine at_done (vs := [.bool false]) (obs := []) (.inl rfl) [.tmp 2] [] rfl (by kernel_rfl) (fun w hs => trivial) (fun w hs => ⟨_, _, [], rfl, ⟨rfl, rfl⟩, hle, hs⟩)
                    · rw [if_neg h248] at H
                      refine at_cond_f rfl (decide_eq_false h248) ?_
                      refine at_skip ?_
                      refine at_thn ?_
                      refine at_ops [0, 1] rfl ?_
                      refine at_seg [0] [1] rfl [(0, .agg #[.int .i64 b6.Line, .int .i64 b6.Col])] [3, 4, 5, 6, 7, 8, 80] (L2 := [(3, .slice A12 b1.1.length c13), (4, .pointer (some ⟨g20, 0, none⟩)), (5, .int .i64 b1.2.2), (6, .int .i64 b3), (7, .pointer (some ⟨g50, 0, none⟩)), (8, .int .i64 x51), (80, .agg #[.int .i64 b6.Line, .int .i64 b6.Col])]) (obs := [fun w => CellsAt w ⟨g215, 0, none⟩ [.int .i64 b6.Line, .int .i64 b6.Col] 0]) (by kernel_rfl) ?_ ?_
                      · intro w hs; exact cellsV (k := 3) hs rfl _ 0 (Nat.le_of_ble_eq_true (by kernel_rfl)) rfl
                      refine at_eff rfl rfl ?_
                      refine eff_store 5 rfl rfl rfl rfl rfl rfl (.inl (Nat.le_refl _)) rfl (Nat.le_of_ble_eq_true (by kernel_rfl)) rfl ?_
                      refine at_eqM (M1 := (s14 :: s18 :: s227 :: [(g215, .cells #[.int .i64 b6.Line, .int .i64 b6.Col] 31 (0, 0))] :: [(g20, .cells #[.slice A16 b1.2.1.Points.length c17, .int .i64 b1.2.1.Cursor, .int .i64 b1.2.1.Mark] 25 (0, 0))] :: [(g50, .cells #[.int .i64 b6.Line, .int .i64 b6.Col] 31 (0, 0))] :: Fs)) (M2 := (s14 :: s18 :: s227 :: [(g215, .cells #[.int .i64 b6.Line, .int .i64 b6.Col] 31 (0, 0))] :: [(g20, .cells #[.slice A16 b1.2.1.Points.length c17, .int .i64 b1.2.1.Cursor, .int .i64 b1.2.1.Mark] 25 (0, 0))] :: [(g50, .cells #[.int .i64 b6.Line, .int .i64 b6.Col] 31 (0, 0))] :: Fs)) rfl rfl ?_
                      refine at_end ?_
                      refine at_in_norm ?_
                      refine at_thn ?_
                      refine at_reg [] [3, 4, 5, 6, 7, 8] (L2 := [(3, .slice A12 b1.1.length c13), (4, .pointer (some ⟨g20, 0, none⟩)), (5, .int .i64 b1.2.2), (6, .int .i64 b3), (7, .pointer (some ⟨g50, 0, none⟩)), (8, .int .i64 (IntKind.i64.wrap (x51 + 1)))]) (obs := []) (by kernel_rfl) ?_ ?_
                      · intro w hs; exact trivial
                      refine at_thn ?_
                      refine at_drop (k := 2) rfl rfl ?_
                      refine at_eqM (M1 := (s14 :: s18 :: [(g215, .cells #[.int .i64 b6.Line, .int .i64 b6.Col] 31 (0, 0))] :: [(g20, .cells #[.slice A16 b1.2.1.Points.length c17, .int .i64 b1.2.1.Cursor, .int .i64 b1.2.1.Mark] 25 (0, 0))] :: [(g50, .cells #[.int .i64 b6.Line, .int .i64 b6.Col] 31 (0, 0))] :: Fs)) (M2 := (s14 :: s18 :: [(g215, .cells #[.int .i64 b6.Line, .int .i64 b6.Col] 31 (0, 0))] :: [(g20, .cells #[.slice A16 b1.2.1.Points.length c17, .int .i64 b1.2.1.Cursor, .int .i64 b1.2.1.Mark] 25 (0, 0))] :: [(g50, .cells #[.int .i64 b6.Line, .int .i64 b6.Col] 31 (0, 0))] :: Fs)) rfl rfl ?_
                      refine at_drop (k := 2) rfl rfl ?_
                      refine at_eqM (M1 := (s14 :: s18 :: [(g20, .cells #[.slice A16 b1.2.1.Points.length c17, .int .i64 b1.2.1.Cursor, .int .i64 b1.2.1.Mark] 25 (0, 0))] :: [(g50, .cells #[.int .i64 b6.Line, .int .i64 b6.Col] 31 (0, 0))] :: Fs)) (M2 := (s14 :: s18 :: [(g20, .cells #[.slice A16 b1.2.1.Points.length c17, .int .i64 b1.2.1.Cursor, .int .i64 b1.2.1.Mark] 25 (0, 0))] :: [(g50, .cells #[.int .i64 b6.Line, .int .i64 b6.Col] 31 (0, 0))] :: Fs)) rfl rfl ?_
                      refine at_perm ((perm_at (k := 2) rfl).trans (((perm_at (k := 2) rfl).trans ((List.Perm.refl _).cons _)).cons _)) ?_
                      refine at_keep [3, 4, 5, 6, 7, 8] (L2 := [(3, .slice A12 b1.1.length c13), (4, .pointer (some ⟨g20, 0, none⟩)), (5, .int .i64 b1.2.2), (6, .int .i64 b3), (7, .pointer (some ⟨g50, 0, none⟩)), (8, .int .i64 (IntKind.i64.wrap (x51 + 1)))]) rfl ?_
                      exact ih55 _ (by omega) _ _ _ ⟨IntKind.i64.wrap (x51 + 1), b6.Line, b6.Col, rfl, rfl, H, hle, by omega, ho15, ho19⟩
              · rw [if_neg h243] at H
                refine at_xseg [7, 8, 9, 10, 11, 12, 13, 14, 15, 16, 17, 18, 19, 20, 21, 22, 23, 24, 25, 26, 27, 28, 29, 30, 31, 32, 33] 0 (#[true, true, true, true, true, true, true, true, true, true, true, true, true, true, true, true, true, true, true, true, true, true, true, true, true, true, true, true, true, true, true, true, true, true]) rfl (by kernel_rfl) [(7, .bool true)] [3, 4, 5, 6, 7, 8, 9, 79] (L2 := [(3, .slice A12 b1.1.length c13), (4, .pointer (some ⟨g20, 0, none⟩)), (5, .int .i64 b1.2.2), (6, .int .i64 b3), (7, .pointer (some ⟨g50, 0, none⟩)), (8, .int .i64 x51), (9, .pointer (some ⟨g215, 0, none⟩)), (79, .bool true)]) (obs := [fun _ => (.bool (!((b6.Line == b7.Line) && ((b6.Col == b7.Col) && true))) : Value) = .bool true]) (by kernel_rfl) (by kernel_rfl) (by kernel_rfl) (.inr fun w hs => ⟨cellsV (k := 3) hs rfl _ 0 (Nat.le_of_ble_eq_true (by kernel_rfl)) rfl, cellsV (k := 4) hs rfl _ 0 (Nat.le_of_ble_eq_true (by kernel_rfl)) rfl⟩) (fun w hS => congrArg Value.bool (not_tt (ff_of h243))) (fun w hs => congrArg Value.bool (not_tt (ff_of h243))) ?_
                refine at_xend (by kernel_rfl) ?_
                refine at_thn ?_
                refine at_cond_t rfl (rfl) ?_
                refine at_seq ?_
                refine at_reg [] [2] (L2 := [(2, .bool false)]) (obs := []) (by kernel_rfl) ?_ ?_
                · intro w hs; exact trivial
                refine at_thn ?_
                refine at_ret ?_
                refine at_then_ret ?_
                refine at_in_ret ?_
                refine at_then_ret ?_
                refine at_then_ret ?_
                refine at_in_ret ?_
                refine at_then_ret ?_
                obtain rfl := Option.some.inj H
                refine at_drop (k := 0) rfl rfl ?_
                refine at_eqM (M1 := (s18 :: s227 :: [(g215, .cells #[.int .i64 b6.Line, .int .i64 b6.Col] 31 (0, 0))] :: [(g20, .cells #[.slice A16 b1.2.1.Points.length c17, .int .i64 b1.2.1.Cursor, .int .i64 b1.2.1.Mark] 25 (0, 0))] :: [(g50, .cells #[.int .i64 x52, .int .i64 x53] 31 (0, 0))] :: Fs)) (M2 := (s18 :: s227 :: [(g215, .cells #[.int .i64 b6.Line, .int .i64 b6.Col] 31 (0, 0))] :: [(g20, .cells #[.slice A16 b1.2.1.Points.length c17, .int .i64 b1.2.1.Cursor, .int .i64 b1.2.1.Mark] 25 (0, 0))] :: [(g50, .cells #[.int .i64 x52, .int .i64 x53] 31 (0, 0))] :: Fs)) rfl rfl ?_
                refine at_drop (k := 0) rfl rfl ?_
                refine at_eqM (M1 := (s227 :: [(g215, .cells #[.int .i64 b6.Line, .int .i64 b6.Col] 31 (0, 0))] :: [(g20, .cells #[.slice A16 b1.2.1.Points.length c17, .int .i64 b1.2.1.Cursor, .int .i64 b1.2.1.Mark] 25 (0, 0))] :: [(g50, .cells #[.int .i64 x52, .int .i64 x53] 31 (0, 0))] :: Fs)) (M2 := (s227 :: [(g215, .cells #[.int .i64 b6.Line, .int .i64 b6.Col] 31 (0, 0))] :: [(g20, .cells #[.slice A16 b1.2.1.Points.length c17, .int .i64 b1.2.1.Cursor, .int .i64 b1.2.1.Mark] 25 (0, 0))] :: [(g50, .cells #[.int .i64 x52, .int .i64 x53] 31 (0, 0))] :: Fs)) rfl rfl ?_
                refine at_drop (k := 0) rfl rfl ?_
                refine at_eqM (M1 := ([(g215, .cells #[.int .i64 b6.Line, .int .i64 b6.Col] 31 (0, 0))] :: [(g20, .cells #[.slice A16 b1.2.1.Points.length c17, .int .i64 b1.2.1.Cursor, .int .i64 b1.2.1.Mark] 25 (0, 0))] :: [(g50, .cells #[.int .i64 x52, .int .i64 x53] 31 (0, 0))] :: Fs)) (M2 := ([(g215, .cells #[.int .i64 b6.Line, .int .i64 b6.Col] 31 (0, 0))] :: [(g20, .cells #[.slice A16 b1.2.1.Points.length c17, .int .i64 b1.2.1.Cursor, .int .i64 b1.2.1.Mark] 25 (0, 0))] :: [(g50, .cells #[.int .i64 x52, .int .i64 x53] 31 (0, 0))] :: Fs)) rfl rfl ?_
                refine at_drop (k := 0) rfl rfl ?_
                refine at_eqM (M1 := ([(g20, .cells #[.slice A16 b1.2.1.Points.length c17, .int .i64 b1.2.1.Cursor, .int .i64 b1.2.1.Mark] 25 (0, 0))] :: [(g50, .cells #[.int .i64 x52, .int .i64 x53] 31 (0, 0))] :: Fs)) (M2 := ([(g20, .cells #[.slice A16 b1.2.1.Points.length c17, .int .i64 b1.2.1.Cursor, .int .i64 b1.2.1.Mark] 25 (0, 0))] :: [(g50, .cells #[.int .i64 x52, .int .i64 x53] 31 (0, 0))] :: Fs)) rfl rfl ?_
                refine at_drop (k := 0) rfl rfl ?_
                refine at_eqM (M1 := ([(g50, .cells #[.int .i64 x52, .int .i64 x53] 31 (0, 0))] :: Fs)) (M2 := ([(g50, .cells #[.int .i64 x52, .int .i64 x53] 31 (0, 0))] :: Fs)) rfl rfl ?_
                refine at_drop (k := 0) rfl rfl ?_
                refine at_eqM (M1 := (Fs)) (M2 := (Fs)) rfl rfl ?_
                refine at_done (vs := [.bool false]) (obs := []) (.inl rfl) [.tmp 2] [] rfl (by kernel_rfl) (fun w hs => trivial) (fun w hs => ⟨_, _, [], rfl, ⟨rfl, rfl⟩, hle, hs⟩)
          · rw [if_neg h57] at H
            refine at_cond_f rfl (decide_eq_false h57) ?_
            refine at_exit ?_
            refine at_then_exit ?_
            refine at_then_exit ?_
            refine at_in_hit ?_
            refine at_thn ?_
            refine at_seq ?_
            refine at_reg [(1, .int .i64 x52)] [2] (L2 := [(2, .bool (x52 == (IntKind.i64.wrap (b3 - 1))))]) (obs := [fun w => w.cell? ⟨g50, 0, none⟩ = some (.int .i64 x52)]) (by kernel_rfl) ?_ ?_
            · intro w hs; exact hs.var (k := 1) rfl 0 rfl
            refine at_thn ?_
            refine at_ret ?_
            obtain rfl := Option.some.inj H
            refine at_drop (k := 0) rfl rfl ?_
            refine at_eqM (M1 := ([(g50, .cells #[.int .i64 x52, .int .i64 x53] 31 (0, 0))] :: s14 :: s18 :: Fs)) (M2 := ([(g50, .cells #[.int .i64 x52, .int .i64 x53] 31 (0, 0))] :: s14 :: s18 :: Fs)) rfl rfl ?_
            refine at_drop (k := 0) rfl rfl ?_
            refine at_eqM (M1 := (s14 :: s18 :: Fs)) (M2 := (s14 :: s18 :: Fs)) rfl rfl ?_
            refine at_drop (k := 0) rfl rfl ?_
            refine at_eqM (M1 := (s18 :: Fs)) (M2 := (s18 :: Fs)) rfl rfl ?_
            refine at_drop (k := 0) rfl rfl ?_
            refine at_eqM (M1 := (Fs)) (M2 := (Fs)) rfl rfl ?_
            refine at_done (vs := [.bool (x52 == (IntKind.i64.wrap (b3 - 1)))]) (obs := []) (.inl rfl) [.tmp 2] [] rfl (by kernel_rfl) (fun w hs => trivial) (fun w hs => ⟨_, _, [], rfl, ⟨rfl, rfl⟩, hle, hs⟩)
    · rw [if_neg h48] at H
      refine at_cond_t rfl (bne_iff_ne.2 h48) ?_
      refine at_seq ?_
      refine at_reg [] [2] (L2 := [(2, .bool false)]) (obs := []) (by kernel_rfl) ?_ ?_
      · intro w hs; exact trivial
      refine at_thn ?_
      refine at_ret ?_
      refine at_then_ret ?_
      obtain rfl := Option.some.inj H
      refine at_drop (k := 0) rfl rfl ?_
      refine at_eqM (M1 := (s18 :: s32 :: [(g20, .cells #[.slice A16 b1.2.1.Points.length c17, .int .i64 b1.2.1.Cursor, .int .i64 b1.2.1.Mark] 25 (0, 0))] :: Fs)) (M2 := (s18 :: s32 :: [(g20, .cells #[.slice A16 b1.2.1.Points.length c17, .int .i64 b1.2.1.Cursor, .int .i64 b1.2.1.Mark] 25 (0, 0))] :: Fs)) rfl rfl ?_
      refine at_drop (k := 0) rfl rfl ?_
      refine at_eqM (M1 := (s32 :: [(g20, .cells #[.slice A16 b1.2.1.Points.length c17, .int .i64 b1.2.1.Cursor, .int .i64 b1.2.1.Mark] 25 (0, 0))] :: Fs)) (M2 := (s32 :: [(g20, .cells #[.slice A16 b1.2.1.Points.length c17, .int .i64 b1.2.1.Cursor, .int .i64 b1.2.1.Mark] 25 (0, 0))] :: Fs)) rfl rfl ?_
      refine at_drop (k := 0) rfl rfl ?_
      refine at_eqM (M1 := ([(g20, .cells #[.slice A16 b1.2.1.Points.length c17, .int .i64 b1.2.1.Cursor, .int .i64 b1.2.1.Mark] 25 (0, 0))] :: Fs)) (M2 := ([(g20, .cells #[.slice A16 b1.2.1.Points.length c17, .int .i64 b1.2.1.Cursor, .int .i64 b1.2.1.Mark] 25 (0, 0))] :: Fs)) rfl rfl ?_
      refine at_drop (k := 0) rfl rfl ?_
      refine at_eqM (M1 := (Fs)) (M2 := (Fs)) rfl rfl ?_
      refine at_done (vs := [.bool false]) (obs := []) (.inl rfl) [.tmp 2] [] rfl (by kernel_rfl) (fun w hs => trivial) (fun w hs => ⟨_, _, [], rfl, ⟨rfl, rfl⟩, hle, hs⟩)
end Go.Proofs.Ytnhnipdanpcbeaa
