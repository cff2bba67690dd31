import Derived.Test.YtnhnipdanpcbeaaV17
namespace Go.Proofs.Ytnhnipdanpcbeaa
open Go Eng
set_option linter.unusedVariables false
set_option linter.unusedSimpArgs false
/-! ### loop.example/g00146/laws.FnView: function 4 -/
mutual
def laws_FnView_j0 : Nat → ((List Int) × T_impl_Buf × Bool × Int × Int) → T_impl_View → T_impl_View → Option Bool
  | 0, _, _, _ => none
  | k + 1, b1, b2, b4 => if b4.Code = b2.Code then (if b2.Code = 0 then ((laws_lwCopy b1.1).bind fun b5 => ((impl_ViewSpot k b5 b1.2.1 b1.2.1.Cursor b1.2.2.2.2).bind fun b6 => (laws_FnView_j1 k b1 b2 b4 b6))) else (some true)) else (some false)
def laws_FnView_j1 : Nat → ((List Int) × T_impl_Buf × Bool × Int × Int) → T_impl_View → T_impl_View → T_impl_Spot → Option Bool
  | 0, _, _, _, _ => none
  | k + 1, b1, b2, b4, b6 => (impl_GridRight k b4.Grid).bind fun b7 => (if b7 = true then ((impl_FlatRight k b4.Grid).bind fun b8 => (if b8 = true then (if b4.Grid.Rows = b1.2.2.2.1 then (if b4.Grid.Cols = b1.2.2.2.2 then (if (IntKind.i64.wrap (b4.Top + b4.Grid.Row)) = b6.Line then (if b4.Grid.Col = b6.Col then (if b4.Top > 0 then (if b4.Grid.Row = (IntKind.i64.wrap (b1.2.2.2.1 - 1)) then (if b4.Top < 0 then (some false) else (laws_FnView_j2 k b1 b2 b4 b6)) else (some false)) else (if b4.Top < 0 then (some false) else (laws_FnView_j2 k b1 b2 b4 b6))) else (some false)) else (some false)) else (some false)) else (some false)) else (some false))) else (some false))
def laws_FnView_j2 : Nat → ((List Int) × T_impl_Buf × Bool × Int × Int) → T_impl_View → T_impl_View → T_impl_Spot → Option Bool
  | 0, _, _, _, _ => none
  | k + 1, b1, b2, b4, b6 => (laws_lwCopy b1.1).bind fun b9 => ((impl_ViewRows k b9 b1.2.1 b1.2.2.2.2).bind fun b10 => (if b6.Line < b10 then ((impl_GridSame k b4.Grid b2.Grid).bind fun b11 => (some b11)) else (some false)))
end
def laws_FnView (k : Nat) (p1 : List Int) : Option Bool := if (p1.length : Int) > 1048576 then (some true) else ((spec_DrawViewOf k p1).bind fun b1 => ((spec_ViewOf k b1.1 b1.2.1 b1.2.2.1 b1.2.2.2.1 b1.2.2.2.2).bind fun b2 => ((laws_lwCopy b1.1).bind fun b3 => ((impl_ViewOf k b3 b1.2.1 b1.2.2.1 b1.2.2.2.1 b1.2.2.2.2).bind fun b4 => (laws_FnView_j0 k b1 b2 b4)))))
set_option maxHeartbeats 4000000 in
set_option maxRecDepth 100000 in
theorem laws_FnView.calls {k : Nat} {p1 : List Int} {r : Bool} {I0 : Imm} {A2 : Option Addr} {c3 : Nat} (H : laws_FnView k p1 = some r) (hr4 : Rd (Kd.int .u8) I0 A2 c3 p1) :
    Meets Try.prog 4 ([.slice A2 p1.length c3] : List Value).toArray I0 [] (fun v J M => v = .bool r ∧ M = []) := by
 have hle := ImmLe.refl I0
 unfold laws_FnView at H
 refine fn_intro (fn := Try.f4) 124 Try.func4 rfl rfl rfl (fun E Fs => ?_)
 refine at_seq (at_reg0 [] [0] [(0, .slice A2 p1.length c3)] ?_)
 refine at_thn (at_seq (at_seq (at_reg0 [] [0, 13] [(0, .slice A2 p1.length c3), (13, .bool (decide ((p1.length : Int) > 1048576)))] ?_)))
 refine at_thn ?_
 by_cases h5 : (p1.length : Int) > 1048576
 ·
  rw [if_pos h5] at H
  refine at_cond_t rfl (decide_eq_true h5) ?_
  refine at_seq (at_reg0 [] [2] [(2, .bool true)] ?_)
  refine at_thn (at_ret (at_then_ret ?_))
  obtain rfl := Option.some.inj H
  exact at_done0 [.bool true] (.inl rfl) [.tmp 2] fun w hs => ⟨_, _, [], rfl, ⟨rfl, rfl⟩, hle, hs⟩
 ·
  rw [if_neg h5] at H
  refine at_cond_f rfl (decide_eq_false h5) ?_
  refine at_skip (at_thn (at_seq (at_ops [0, 1, 2, 3, 4, 5, 6, 7, 8, 9, 10, 11, 12, 13] rfl ?_)))
  refine at_seg0 [0] [1, 2, 3, 4, 5, 6, 7, 8, 9, 10, 11, 12, 13] [] [15] [(15, .slice A2 p1.length c3)] ?_
  refine at_eff rfl rfl ?_
  obtain ⟨b1, H6, H⟩ := bind_some H
  have hm_ := spec_DrawViewOf.calls (I0 := I0) H6 hr4
  refine eff_call rfl rfl ok11 rfl rfl (show Meets Try.prog 11 ([.slice A2 p1.length c3] : List Value).toArray _ [] _ from hm_) (Mr := (Fs)) (List.Perm.refl _) (fun v7 J8 M9 hq10 hJ11 => ?_)
  replace hle := hle.trans hJ11
  replace hr4 := hr4.mono hJ11
  obtain ⟨A12, c13, s14, A16, c17, s18, rfl, rfl, ho15, ho19⟩ := hq10
  refine at_seg0 [2, 3, 4, 5, 6, 7] [8, 9, 10, 11, 12, 13] [] [17, 18, 19, 20, 21] [(17, .slice A12 b1.1.length c13), (18, .agg #[.slice A16 b1.2.1.Points.length c17, iV b1.2.1.Cursor, iV b1.2.1.Mark]), (19, .bool b1.2.2.1), (20, iV b1.2.2.2.1), (21, iV b1.2.2.2.2)] ?_
  refine at_eff rfl rfl ?_
  obtain ⟨i_, hi_, hz_, _, _⟩ := info25
  refine eff_alloc rfl rfl hi_ hz_ #[.slice none ([] : List Int).length 0, iV 0, iV 0] rfl (fun g20 => ?_)
  refine at_seg0 [9] [10, 11, 12, 13] [] [3, 4, 18, 19, 20, 21] [(3, .slice A12 b1.1.length c13), (4, .pointer (some ⟨g20, 0, none⟩)), (18, .agg #[.slice A16 b1.2.1.Points.length c17, iV b1.2.1.Cursor, iV b1.2.1.Mark]), (19, .bool b1.2.2.1), (20, iV b1.2.2.2.1), (21, iV b1.2.2.2.2)] ?_
  refine at_eff rfl rfl ?_
  refine eff_store 0 rfl rfl rfl rfl rfl rfl (.inl (Nat.le_refl _)) rfl (Nat.le_of_ble_eq_true (by kernel_rfl)) rfl ?_
  refine at_sg ([(g20, .cells #[.slice A16 b1.2.1.Points.length c17, iV b1.2.1.Cursor, iV b1.2.1.Mark] 25 (0, 0))] :: s14 :: s18 :: Fs) ?_
  refine at_seg0 [11, 12, 13] [] [] [3, 4, 5, 6, 7] [(3, .slice A12 b1.1.length c13), (4, .pointer (some ⟨g20, 0, none⟩)), (5, .bool b1.2.2.1), (6, iV b1.2.2.2.1), (7, iV b1.2.2.2.2)] ?_
  refine at_end (at_thn (at_seq (at_ops [0, 1, 2, 3, 4, 5, 6, 7] rfl ?_)))
  refine at_seg1 [0, 1, 2, 3, 4] [5, 6, 7] [(1, .agg #[.slice A16 b1.2.1.Points.length c17, iV b1.2.1.Cursor, iV b1.2.1.Mark])] [3, 4, 5, 6, 7, 22, 23, 24, 25, 26] [(3, .slice A12 b1.1.length c13), (4, .pointer (some ⟨g20, 0, none⟩)), (5, .bool b1.2.2.1), (6, iV b1.2.2.2.1), (7, iV b1.2.2.2.2), (22, .slice A12 b1.1.length c13), (23, .agg #[.slice A16 b1.2.1.Points.length c17, iV b1.2.1.Cursor, iV b1.2.1.Mark]), (24, .bool b1.2.2.1), (25, iV b1.2.2.2.1), (26, iV b1.2.2.2.2)] [fun w => CellsAt w ⟨g20, 0, none⟩ [.slice A16 b1.2.1.Points.length c17, iV b1.2.1.Cursor, iV b1.2.1.Mark] 0] (fun w hs => cellsV (k := 0) hs rfl _ 0 (Nat.le_of_ble_eq_true (by kernel_rfl)) rfl) ?_
  refine at_eff rfl rfl ?_
  refine at_freeze (k := 1) rfl rfl (fun J21 hJ22 hin23 => ?_)
  replace hle := hle.trans hJ22
  replace ho15 := ho15.mono hJ22
  replace ho19 := ho19.mono hJ22
  have hr24 : Rd (Kd.int .i64) J21 A12 c13 b1.1 := ho15.rd (ImmLe.refl _) hin23
  refine at_freeze (k := 1) rfl rfl (fun J25 hJ26 hin27 => ?_)
  replace hle := hle.trans hJ26
  replace ho19 := ho19.mono hJ26
  replace hr24 := hr24.mono hJ26
  have hr28 : Rd (Kd.int .i64) J25 A16 c17 b1.2.1.Points := ho19.rd (ImmLe.refl _) hin27
  obtain ⟨b2, H29, H⟩ := bind_some H
  have hm_ := spec_ViewOf.calls (I0 := J25) H29 hr24 hr28
  refine eff_call rfl rfl ok12 rfl rfl (show Meets Try.prog 12 ([.slice A12 b1.1.length c13, .agg #[.slice A16 b1.2.1.Points.length c17, iV b1.2.1.Cursor, iV b1.2.1.Mark], .bool b1.2.2.1, iV b1.2.2.2.1, iV b1.2.2.2.2] : List Value).toArray _ [] _ from hm_) (Mr := ([(g20, .cells #[.slice A16 b1.2.1.Points.length c17, iV b1.2.1.Cursor, iV b1.2.1.Mark] 25 (0, 0))] :: Fs)) (List.Perm.refl _) (fun v30 J31 M32 hq33 hJ34 => ?_)
  replace hle := hle.trans hJ34
  replace hr24 := hr24.mono hJ34
  replace hr28 := hr28.mono hJ34
  obtain ⟨A35, c36, s37, rfl, rfl, ho38⟩ := hq33
  refine at_eff rfl rfl ?_
  obtain ⟨i_, hi_, hz_, _, _⟩ := info40
  refine eff_alloc rfl rfl hi_ hz_ #[iV 0, iV 0, .slice none ([] : List T_impl_Cell).length 0, iV 0, iV 0, .bool false, iV 0, iV 0, iV 0] rfl (fun g39 => ?_)
  refine at_eff rfl rfl ?_
  refine eff_store 0 rfl rfl rfl rfl rfl rfl (.inl (Nat.le_refl _)) rfl (Nat.le_of_ble_eq_true (by kernel_rfl)) rfl ?_
  refine at_sg ([(g39, .cells #[iV b2.Grid.Rows, iV b2.Grid.Cols, .slice A35 b2.Grid.Cells.length c36, iV b2.Grid.Row, iV b2.Grid.Col, .bool b2.Grid.Hang, iV b2.Grid.Attr, iV b2.Top, iV b2.Code] 40 (0, 0))] :: s37 :: [(g20, .cells #[.slice A16 b1.2.1.Points.length c17, iV b1.2.1.Cursor, iV b1.2.1.Mark] 25 (0, 0))] :: Fs) ?_
  refine at_end (at_thn (at_join (fun L I Ms => ∃ (k11140 : Nat), ∃ (A7050 : Option Addr) (b4 : T_impl_View) (c7051 : Nat) (g8040 : Nat) (s7052 : Seg), L = [(3, .slice A12 b1.1.length c13), (4, .pointer (some ⟨g20, 0, none⟩)), (6, iV b1.2.2.2.1), (7, iV b1.2.2.2.2), (8, .pointer (some ⟨g39, 0, none⟩)), (9, .pointer (some ⟨g8040, 0, none⟩))] ∧ Ms = ([(g20, .cells #[.slice A16 b1.2.1.Points.length c17, iV b1.2.1.Cursor, iV b1.2.1.Mark] 25 (0, 0))] :: [(g39, .cells #[iV b2.Grid.Rows, iV b2.Grid.Cols, .slice A35 b2.Grid.Cells.length c36, iV b2.Grid.Row, iV b2.Grid.Col, .bool b2.Grid.Hang, iV b2.Grid.Attr, iV b2.Top, iV b2.Code] 40 (0, 0))] :: [(g8040, .cells #[iV b4.Grid.Rows, iV b4.Grid.Cols, .slice A7050 b4.Grid.Cells.length c7051, iV b4.Grid.Row, iV b4.Grid.Col, .bool b4.Grid.Hang, iV b4.Grid.Attr, iV b4.Top, iV b4.Code] 40 (0, 0))] :: s7052 :: s37 :: Fs) ∧ laws_FnView_j0 k11140 b1 b2 b4 = some r ∧ ImmLe I0 I ∧ k11140 ≤ k ∧ Own k_impl_Cell 71 I A35 c36 b2.Grid.Cells s37 ∧ Own k_impl_Cell 71 I A7050 c7051 b4.Grid.Cells s7052 ∧ Rd (Kd.int .i64) I A12 c13 b1.1 ∧ Rd (Kd.int .i64) I A16 c17 b1.2.1.Points) ?_ ?_))
  ·
   clear H hle ho38 hr24 hr28
   intro L I Ms h_; obtain ⟨k11140, A7050, b4, c7051, g8040, s7052, hL_, hM_, H, hle, hk11141, ho38, ho7053, hr24, hr28⟩ := h_; rw [hL_, hM_]; clear hL_ hM_ L Ms
   rcases k11140 with _ | k11140
   · exact (no_none H).elim
   rw [laws_FnView_j0] at H
   refine at_seq (at_seq (at_reg1 [(1, iV b4.Code), (3, iV b2.Code)] [3, 4, 6, 7, 8, 9, 39] [(3, .slice A12 b1.1.length c13), (4, .pointer (some ⟨g20, 0, none⟩)), (6, iV b1.2.2.2.1), (7, iV b1.2.2.2.2), (8, .pointer (some ⟨g39, 0, none⟩)), (9, .pointer (some ⟨g8040, 0, none⟩)), (39, .bool (b4.Code != b2.Code))] [fun w => w.cell? ⟨g8040, 8, none⟩ = some (iV b4.Code), fun w => w.cell? ⟨g39, 8, none⟩ = some (iV b2.Code)] (fun w hs => ⟨hs.var (k := 2) rfl 8 rfl, hs.var (k := 1) rfl 8 rfl⟩) ?_))
   refine at_thn ?_
   by_cases h11142 : b4.Code = b2.Code
   ·
    rw [if_pos h11142] at H
    refine at_cond_f rfl (bne_eq_false_iff_eq.2 h11142) ?_
    refine at_skip (at_thn (at_seq (at_seq (at_reg1 [(1, iV b2.Code)] [3, 4, 6, 7, 8, 9, 42] [(3, .slice A12 b1.1.length c13), (4, .pointer (some ⟨g20, 0, none⟩)), (6, iV b1.2.2.2.1), (7, iV b1.2.2.2.2), (8, .pointer (some ⟨g39, 0, none⟩)), (9, .pointer (some ⟨g8040, 0, none⟩)), (42, .bool (b2.Code != 0))] [fun w => w.cell? ⟨g39, 8, none⟩ = some (iV b2.Code)] (fun w hs => hs.var (k := 1) rfl 8 rfl) ?_))))
    refine at_thn ?_
    by_cases h11143 : b2.Code = 0
    ·
     rw [if_pos h11143] at H
     refine at_cond_f rfl (bne_eq_false_iff_eq.2 h11143) ?_
     refine at_skip (at_thn (at_join (fun L I Ms => ∃ (k22244 : Nat), ∃ (b6 : T_impl_Spot) (g19144 : Nat), L = [(3, .slice A12 b1.1.length c13), (4, .pointer (some ⟨g20, 0, none⟩)), (6, iV b1.2.2.2.1), (7, iV b1.2.2.2.2), (8, .pointer (some ⟨g39, 0, none⟩)), (9, .pointer (some ⟨g8040, 0, none⟩)), (10, .pointer (some ⟨g19144, 0, none⟩))] ∧ Ms = ([(g19144, .cells #[iV b6.Line, iV b6.Col] 31 (0, 0))] :: [(g20, .cells #[.slice A16 b1.2.1.Points.length c17, iV b1.2.1.Cursor, iV b1.2.1.Mark] 25 (0, 0))] :: [(g39, .cells #[iV b2.Grid.Rows, iV b2.Grid.Cols, .slice A35 b2.Grid.Cells.length c36, iV b2.Grid.Row, iV b2.Grid.Col, .bool b2.Grid.Hang, iV b2.Grid.Attr, iV b2.Top, iV b2.Code] 40 (0, 0))] :: [(g8040, .cells #[iV b4.Grid.Rows, iV b4.Grid.Cols, .slice A7050 b4.Grid.Cells.length c7051, iV b4.Grid.Row, iV b4.Grid.Col, .bool b4.Grid.Hang, iV b4.Grid.Attr, iV b4.Top, iV b4.Code] 40 (0, 0))] :: s37 :: s7052 :: Fs) ∧ laws_FnView_j1 k22244 b1 b2 b4 b6 = some r ∧ ImmLe I0 I ∧ k22244 ≤ k11140 ∧ Own k_impl_Cell 71 I A35 c36 b2.Grid.Cells s37 ∧ Own k_impl_Cell 71 I A7050 c7051 b4.Grid.Cells s7052 ∧ Rd (Kd.int .i64) I A12 c13 b1.1 ∧ Rd (Kd.int .i64) I A16 c17 b1.2.1.Points) ?_ ?_))
     ·
      clear H hle ho38 ho7053 hr24 hr28
      intro L I Ms h_; obtain ⟨k22244, b6, g19144, hL_, hM_, H, hle, hk22245, ho38, ho7053, hr24, hr28⟩ := h_; rw [hL_, hM_]; clear hL_ hM_ L Ms
      rcases k22244 with _ | k22244
      · exact (no_none H).elim
      rw [laws_FnView_j1] at H
      refine at_seq (at_seq (at_ops [0, 1, 2, 3, 4, 5, 6, 7, 8, 9, 10, 11, 12, 13, 14, 15, 16, 17, 18, 19, 20, 21, 22, 23, 24, 25, 26, 27, 28, 29, 30, 31, 32, 33, 34, 35, 36, 37, 38, 39, 40, 41, 42] rfl ?_))
      refine at_seg1 [0, 1] [2, 3, 4, 5, 6, 7, 8, 9, 10, 11, 12, 13, 14, 15, 16, 17, 18, 19, 20, 21, 22, 23, 24, 25, 26, 27, 28, 29, 30, 31, 32, 33, 34, 35, 36, 37, 38, 39, 40, 41, 42] [(1, .agg #[iV b4.Grid.Rows, iV b4.Grid.Cols, .slice A7050 b4.Grid.Cells.length c7051, iV b4.Grid.Row, iV b4.Grid.Col, .bool b4.Grid.Hang, iV b4.Grid.Attr])] [3, 4, 6, 7, 8, 9, 10, 51] [(3, .slice A12 b1.1.length c13), (4, .pointer (some ⟨g20, 0, none⟩)), (6, iV b1.2.2.2.1), (7, iV b1.2.2.2.2), (8, .pointer (some ⟨g39, 0, none⟩)), (9, .pointer (some ⟨g8040, 0, none⟩)), (10, .pointer (some ⟨g19144, 0, none⟩)), (51, .agg #[iV b4.Grid.Rows, iV b4.Grid.Cols, .slice A7050 b4.Grid.Cells.length c7051, iV b4.Grid.Row, iV b4.Grid.Col, .bool b4.Grid.Hang, iV b4.Grid.Attr])] [fun w => CellsAt w ⟨g8040, 0, none⟩ [iV b4.Grid.Rows, iV b4.Grid.Cols, .slice A7050 b4.Grid.Cells.length c7051, iV b4.Grid.Row, iV b4.Grid.Col, .bool b4.Grid.Hang, iV b4.Grid.Attr] 0] (fun w hs => cellsV (k := 3) hs rfl _ 0 (Nat.le_of_ble_eq_true (by kernel_rfl)) rfl) ?_
      refine at_eff rfl rfl ?_
      obtain ⟨b7, H22246, H⟩ := bind_some H
      refine eff_read rfl rfl (rv := .bool b7) (Ms' := (s7052 :: [(g19144, .cells #[iV b6.Line, iV b6.Col] 31 (0, 0))] :: [(g20, .cells #[.slice A16 b1.2.1.Points.length c17, iV b1.2.1.Cursor, iV b1.2.1.Mark] 25 (0, 0))] :: [(g39, .cells #[iV b2.Grid.Rows, iV b2.Grid.Cols, .slice A35 b2.Grid.Cells.length c36, iV b2.Grid.Row, iV b2.Grid.Col, .bool b2.Grid.Hang, iV b2.Grid.Attr, iV b2.Top, iV b2.Code] 40 (0, 0))] :: [(g8040, .cells #[iV b4.Grid.Rows, iV b4.Grid.Cols, .slice A7050 b4.Grid.Cells.length c7051, iV b4.Grid.Row, iV b4.Grid.Col, .bool b4.Grid.Hang, iV b4.Grid.Attr, iV b4.Top, iV b4.Code] 40 (0, 0))] :: s37 :: Fs)) ok14 rfl rfl ?_ ?_
      ·
       refine Reads.lend (k := 5) rfl (fun J22247 hJ22248 hin22249 => ?_)
       have hm_ := impl_GridRight.calls (I0 := J22247) H22246 (ho7053.rd hJ22248 hin22249)
       exact Reads.of_meets (Mr := ([(g19144, .cells #[iV b6.Line, iV b6.Col] 31 (0, 0))] :: [(g20, .cells #[.slice A16 b1.2.1.Points.length c17, iV b1.2.1.Cursor, iV b1.2.1.Mark] 25 (0, 0))] :: [(g39, .cells #[iV b2.Grid.Rows, iV b2.Grid.Cols, .slice A35 b2.Grid.Cells.length c36, iV b2.Grid.Row, iV b2.Grid.Col, .bool b2.Grid.Hang, iV b2.Grid.Attr, iV b2.Top, iV b2.Code] 40 (0, 0))] :: [(g8040, .cells #[iV b4.Grid.Rows, iV b4.Grid.Cols, .slice A7050 b4.Grid.Cells.length c7051, iV b4.Grid.Row, iV b4.Grid.Col, .bool b4.Grid.Hang, iV b4.Grid.Attr, iV b4.Top, iV b4.Code] 40 (0, 0))] :: s37 :: Fs)) (show Meets Try.prog 14 ([.agg #[iV b4.Grid.Rows, iV b4.Grid.Cols, .slice A7050 b4.Grid.Cells.length c7051, iV b4.Grid.Row, iV b4.Grid.Col, .bool b4.Grid.Hang, iV b4.Grid.Attr]] : List Value).toArray J22247 [] _ from hm_) (List.Perm.refl _)
      by_cases h22250 : b7 = true
      ·
       rw [if_pos h22250] at H
       refine at_seg1 [3, 4, 5, 6] [7, 8, 9, 10, 11, 12, 13, 14, 15, 16, 17, 18, 19, 20, 21, 22, 23, 24, 25, 26, 27, 28, 29, 30, 31, 32, 33, 34, 35, 36, 37, 38, 39, 40, 41, 42] [(4, .bool false), (6, .agg #[iV b4.Grid.Rows, iV b4.Grid.Cols, .slice A7050 b4.Grid.Cells.length c7051, iV b4.Grid.Row, iV b4.Grid.Col, .bool b4.Grid.Hang, iV b4.Grid.Attr])] [3, 4, 6, 7, 8, 9, 10, 54, 56] [(3, .slice A12 b1.1.length c13), (4, .pointer (some ⟨g20, 0, none⟩)), (6, iV b1.2.2.2.1), (7, iV b1.2.2.2.2), (8, .pointer (some ⟨g39, 0, none⟩)), (9, .pointer (some ⟨g8040, 0, none⟩)), (10, .pointer (some ⟨g19144, 0, none⟩)), (54, .bool false), (56, .agg #[iV b4.Grid.Rows, iV b4.Grid.Cols, .slice A7050 b4.Grid.Cells.length c7051, iV b4.Grid.Row, iV b4.Grid.Col, .bool b4.Grid.Hang, iV b4.Grid.Attr])] [fun _ => (.bool (!b7) : Value) = .bool false, fun w => CellsAt w ⟨g8040, 0, none⟩ [iV b4.Grid.Rows, iV b4.Grid.Cols, .slice A7050 b4.Grid.Cells.length c7051, iV b4.Grid.Row, iV b4.Grid.Col, .bool b4.Grid.Hang, iV b4.Grid.Attr] 0] (fun w hs => ⟨congrArg Value.bool (not_ff (h22250)), cellsV (k := 4) hs rfl _ 0 (Nat.le_of_ble_eq_true (by kernel_rfl)) rfl⟩) ?_
       refine at_eff rfl rfl ?_
       obtain ⟨b8, H22251, H⟩ := bind_some H
       refine eff_read rfl rfl (rv := .bool b8) (Ms' := (s7052 :: [(g19144, .cells #[iV b6.Line, iV b6.Col] 31 (0, 0))] :: [(g20, .cells #[.slice A16 b1.2.1.Points.length c17, iV b1.2.1.Cursor, iV b1.2.1.Mark] 25 (0, 0))] :: [(g39, .cells #[iV b2.Grid.Rows, iV b2.Grid.Cols, .slice A35 b2.Grid.Cells.length c36, iV b2.Grid.Row, iV b2.Grid.Col, .bool b2.Grid.Hang, iV b2.Grid.Attr, iV b2.Top, iV b2.Code] 40 (0, 0))] :: [(g8040, .cells #[iV b4.Grid.Rows, iV b4.Grid.Cols, .slice A7050 b4.Grid.Cells.length c7051, iV b4.Grid.Row, iV b4.Grid.Col, .bool b4.Grid.Hang, iV b4.Grid.Attr, iV b4.Top, iV b4.Code] 40 (0, 0))] :: s37 :: Fs)) ok15 rfl rfl ?_ ?_
       ·
        refine Reads.lend (k := 0) rfl (fun J22252 hJ22253 hin22254 => ?_)
        have hm_ := impl_FlatRight.calls (I0 := J22252) H22251 (ho7053.rd hJ22253 hin22254)
        exact Reads.of_meets (Mr := ([(g19144, .cells #[iV b6.Line, iV b6.Col] 31 (0, 0))] :: [(g20, .cells #[.slice A16 b1.2.1.Points.length c17, iV b1.2.1.Cursor, iV b1.2.1.Mark] 25 (0, 0))] :: [(g39, .cells #[iV b2.Grid.Rows, iV b2.Grid.Cols, .slice A35 b2.Grid.Cells.length c36, iV b2.Grid.Row, iV b2.Grid.Col, .bool b2.Grid.Hang, iV b2.Grid.Attr, iV b2.Top, iV b2.Code] 40 (0, 0))] :: [(g8040, .cells #[iV b4.Grid.Rows, iV b4.Grid.Cols, .slice A7050 b4.Grid.Cells.length c7051, iV b4.Grid.Row, iV b4.Grid.Col, .bool b4.Grid.Hang, iV b4.Grid.Attr, iV b4.Top, iV b4.Code] 40 (0, 0))] :: s37 :: Fs)) (show Meets Try.prog 15 ([.agg #[iV b4.Grid.Rows, iV b4.Grid.Cols, .slice A7050 b4.Grid.Cells.length c7051, iV b4.Grid.Row, iV b4.Grid.Col, .bool b4.Grid.Hang, iV b4.Grid.Attr]] : List Value).toArray J22252 [] _ from hm_) (List.Perm.refl _)
       by_cases h22255 : b8 = true
       ·
        rw [if_pos h22255] at H
        by_cases h22256 : b4.Grid.Rows = b1.2.2.2.1
        ·
         rw [if_pos h22256] at H
         by_cases h22257 : b4.Grid.Cols = b1.2.2.2.2
         ·
          rw [if_pos h22257] at H
          by_cases h22258 : (IntKind.i64.wrap (b4.Top + b4.Grid.Row)) = b6.Line
          ·
           rw [if_pos h22258] at H
           refine at_seg1 [8, 9, 10, 11, 12, 13, 14, 15, 16, 17, 18, 19, 20, 21, 22, 23, 24, 25, 26, 27, 28, 29, 30, 31, 32, 33, 34, 35, 36, 37, 38, 39, 40, 41, 42] [] [(10, .bool false), (13, iV b4.Grid.Rows), (17, .bool false), (20, iV b4.Grid.Cols), (24, .bool false), (26, iV b4.Top), (29, iV b4.Grid.Row), (32, iV b6.Line), (35, .bool false), (38, iV b4.Grid.Col), (40, iV b6.Col)] [3, 4, 6, 7, 8, 9, 10, 92] [(3, .slice A12 b1.1.length c13), (4, .pointer (some ⟨g20, 0, none⟩)), (6, iV b1.2.2.2.1), (7, iV b1.2.2.2.2), (8, .pointer (some ⟨g39, 0, none⟩)), (9, .pointer (some ⟨g8040, 0, none⟩)), (10, .pointer (some ⟨g19144, 0, none⟩)), (92, .bool (b4.Grid.Col != b6.Col))] [fun _ => (.bool (!b8) : Value) = .bool false, fun w => w.cell? ⟨g8040, 0, none⟩ = some (iV b4.Grid.Rows), fun _ => (.bool (b4.Grid.Rows != b1.2.2.2.1) : Value) = .bool false, fun w => w.cell? ⟨g8040, 1, none⟩ = some (iV b4.Grid.Cols), fun _ => (.bool (b4.Grid.Cols != b1.2.2.2.2) : Value) = .bool false, fun w => w.cell? ⟨g8040, 7, none⟩ = some (iV b4.Top), fun w => w.cell? ⟨g8040, 3, none⟩ = some (iV b4.Grid.Row), fun w => w.cell? ⟨g19144, 0, none⟩ = some (iV b6.Line), fun _ => (.bool ((IntKind.i64.wrap (b4.Top + b4.Grid.Row)) != b6.Line) : Value) = .bool false, fun w => w.cell? ⟨g8040, 4, none⟩ = some (iV b4.Grid.Col), fun w => w.cell? ⟨g19144, 1, none⟩ = some (iV b6.Col)] (fun w hs => ⟨congrArg Value.bool (not_ff (h22255)), hs.var (k := 4) rfl 0 rfl, congrArg Value.bool (bne_eq_false_iff_eq.2 h22256), hs.var (k := 4) rfl 1 rfl, congrArg Value.bool (bne_eq_false_iff_eq.2 h22257), hs.var (k := 4) rfl 7 rfl, hs.var (k := 4) rfl 3 rfl, hs.var (k := 1) rfl 0 rfl, congrArg Value.bool (bne_eq_false_iff_eq.2 h22258), hs.var (k := 4) rfl 4 rfl, hs.var (k := 1) rfl 1 rfl⟩) ?_
           refine at_end (at_thn ?_)
           by_cases h22259 : b4.Grid.Col = b6.Col
           ·
            rw [if_pos h22259] at H
            refine at_cond_f rfl (bne_eq_false_iff_eq.2 h22259) ?_
            refine at_skip (at_thn (at_join (fun L I Ms => ∃ (k22364 : Nat), L = [(3, .slice A12 b1.1.length c13), (4, .pointer (some ⟨g20, 0, none⟩)), (7, iV b1.2.2.2.2), (8, .pointer (some ⟨g39, 0, none⟩)), (9, .pointer (some ⟨g8040, 0, none⟩)), (10, .pointer (some ⟨g19144, 0, none⟩))] ∧ Ms = ([(g19144, .cells #[iV b6.Line, iV b6.Col] 31 (0, 0))] :: [(g20, .cells #[.slice A16 b1.2.1.Points.length c17, iV b1.2.1.Cursor, iV b1.2.1.Mark] 25 (0, 0))] :: [(g39, .cells #[iV b2.Grid.Rows, iV b2.Grid.Cols, .slice A35 b2.Grid.Cells.length c36, iV b2.Grid.Row, iV b2.Grid.Col, .bool b2.Grid.Hang, iV b2.Grid.Attr, iV b2.Top, iV b2.Code] 40 (0, 0))] :: [(g8040, .cells #[iV b4.Grid.Rows, iV b4.Grid.Cols, .slice A7050 b4.Grid.Cells.length c7051, iV b4.Grid.Row, iV b4.Grid.Col, .bool b4.Grid.Hang, iV b4.Grid.Attr, iV b4.Top, iV b4.Code] 40 (0, 0))] :: s37 :: s7052 :: Fs) ∧ laws_FnView_j2 k22364 b1 b2 b4 b6 = some r ∧ ImmLe I0 I ∧ k22364 ≤ k22244 ∧ Own k_impl_Cell 71 I A35 c36 b2.Grid.Cells s37 ∧ Own k_impl_Cell 71 I A7050 c7051 b4.Grid.Cells s7052 ∧ Rd (Kd.int .i64) I A12 c13 b1.1 ∧ Rd (Kd.int .i64) I A16 c17 b1.2.1.Points) ?_ ?_))
            ·
             clear H hle ho38 ho7053 hr24 hr28
             intro L I Ms h_; obtain ⟨k22364, hL_, hM_, H, hle, hk22365, ho38, ho7053, hr24, hr28⟩ := h_; rw [hL_, hM_]; clear hL_ hM_ L Ms
             rcases k22364 with _ | k22364
             · exact (no_none H).elim
             rw [laws_FnView_j2] at H
             refine at_seq (at_x hmo (fun w => w.cell? ⟨g19144, 0, none⟩ = some (iV b6.Line) ∧ CellsAt w ⟨g20, 0, none⟩ [.slice A16 b1.2.1.Points.length c17, iV b1.2.1.Cursor, iV b1.2.1.Mark] 0) [] ?_)
             refine at_xseg [0, 1, 2, 4, 5] 11 (#[true, true, true, false, true, true, false, false, false, false, false, false, false, false, false, false]) rfl (by kernel_rfl) [(1, iV b6.Line), (4, .agg #[.slice A16 b1.2.1.Points.length c17, iV b1.2.1.Cursor, iV b1.2.1.Mark])] [8, 9, 110, 111, 113, 114] (L2 := [(8, .pointer (some ⟨g39, 0, none⟩)), (9, .pointer (some ⟨g8040, 0, none⟩)), (110, iV b6.Line), (111, .slice A12 b1.1.length c13), (113, .agg #[.slice A16 b1.2.1.Points.length c17, iV b1.2.1.Cursor, iV b1.2.1.Mark]), (114, iV b1.2.2.2.2)]) (obs := [fun w => w.cell? ⟨g19144, 0, none⟩ = some (iV b6.Line), fun w => CellsAt w ⟨g20, 0, none⟩ [.slice A16 b1.2.1.Points.length c17, iV b1.2.1.Cursor, iV b1.2.1.Mark] 0]) (by kernel_rfl) (by kernel_rfl) (by kernel_rfl) (.inr fun w hs => ⟨hs.var (k := 0) rfl 0 rfl, cellsV (k := 1) hs rfl _ 0 (Nat.le_of_ble_eq_true (by kernel_rfl)) rfl⟩) (fun w hS => ⟨hS.1, hS.2⟩) (fun w hs => ⟨hs.var (k := 0) rfl 0 rfl, cellsV (k := 1) hs rfl _ 0 (Nat.le_of_ble_eq_true (by kernel_rfl)) rfl⟩) ?_
             refine at_x1 10 3 (#[true, true, true, true, true, true, false, false, false, false, false, false, false, false, false, false]) rfl (by kernel_rfl) (by kernel_rfl) rfl rfl ?_
             obtain ⟨b9, H26366, H⟩ := bind_some H
             have hm_ := laws_lwCopy.calls (I0 := I) H26366 hr24
             refine eff_call rfl rfl ok7 rfl rfl (show Meets Try.prog 7 ([.slice A12 b1.1.length c13] : List Value).toArray _ [] _ from hm_) (Mr := ([(g19144, .cells #[iV b6.Line, iV b6.Col] 31 (0, 0))] :: [(g20, .cells #[.slice A16 b1.2.1.Points.length c17, iV b1.2.1.Cursor, iV b1.2.1.Mark] 25 (0, 0))] :: [(g39, .cells #[iV b2.Grid.Rows, iV b2.Grid.Cols, .slice A35 b2.Grid.Cells.length c36, iV b2.Grid.Row, iV b2.Grid.Col, .bool b2.Grid.Hang, iV b2.Grid.Attr, iV b2.Top, iV b2.Code] 40 (0, 0))] :: [(g8040, .cells #[iV b4.Grid.Rows, iV b4.Grid.Cols, .slice A7050 b4.Grid.Cells.length c7051, iV b4.Grid.Row, iV b4.Grid.Col, .bool b4.Grid.Hang, iV b4.Grid.Attr, iV b4.Top, iV b4.Code] 40 (0, 0))] :: s37 :: s7052 :: Fs)) (List.Perm.refl _) (fun v26367 J26368 M26369 hq26370 hJ26371 => ?_)
             replace hle := hle.trans hJ26371
             replace ho38 := ho38.mono hJ26371
             replace ho7053 := ho7053.mono hJ26371
             replace hr24 := hr24.mono hJ26371
             replace hr28 := hr28.mono hJ26371
             obtain ⟨A26372, c26373, s26374, rfl, rfl, ho26375⟩ := hq26370
             refine at_xS (fun w hs => ⟨hs.var (k := 1) rfl 0 rfl, cellsV (k := 2) hs rfl _ 0 (Nat.le_of_ble_eq_true (by kernel_rfl)) rfl⟩) ?_
             refine at_x1 9 6 (#[true, true, true, true, true, true, true, false, false, false, false, false, false, false, false, false]) rfl (by kernel_rfl) (by kernel_rfl) rfl rfl ?_
             obtain ⟨b10, H29366, H⟩ := bind_some H
             refine eff_read rfl rfl (rv := iV b10) (Ms' := (s26374 :: [(g19144, .cells #[iV b6.Line, iV b6.Col] 31 (0, 0))] :: [(g20, .cells #[.slice A16 b1.2.1.Points.length c17, iV b1.2.1.Cursor, iV b1.2.1.Mark] 25 (0, 0))] :: [(g39, .cells #[iV b2.Grid.Rows, iV b2.Grid.Cols, .slice A35 b2.Grid.Cells.length c36, iV b2.Grid.Row, iV b2.Grid.Col, .bool b2.Grid.Hang, iV b2.Grid.Attr, iV b2.Top, iV b2.Code] 40 (0, 0))] :: [(g8040, .cells #[iV b4.Grid.Rows, iV b4.Grid.Cols, .slice A7050 b4.Grid.Cells.length c7051, iV b4.Grid.Row, iV b4.Grid.Col, .bool b4.Grid.Hang, iV b4.Grid.Attr, iV b4.Top, iV b4.Code] 40 (0, 0))] :: s37 :: s7052 :: Fs)) ok6 rfl rfl ?_ ?_
             ·
              refine Reads.lend (k := 0) rfl (fun J29367 hJ29368 hin29369 => ?_)
              have hm_ := impl_ViewRows.calls (I0 := J29367) H29366 (ho26375.rd hJ29368 hin29369) (hr28.mono hJ29368)
              exact Reads.of_meets (Mr := ([(g19144, .cells #[iV b6.Line, iV b6.Col] 31 (0, 0))] :: [(g20, .cells #[.slice A16 b1.2.1.Points.length c17, iV b1.2.1.Cursor, iV b1.2.1.Mark] 25 (0, 0))] :: [(g39, .cells #[iV b2.Grid.Rows, iV b2.Grid.Cols, .slice A35 b2.Grid.Cells.length c36, iV b2.Grid.Row, iV b2.Grid.Col, .bool b2.Grid.Hang, iV b2.Grid.Attr, iV b2.Top, iV b2.Code] 40 (0, 0))] :: [(g8040, .cells #[iV b4.Grid.Rows, iV b4.Grid.Cols, .slice A7050 b4.Grid.Cells.length c7051, iV b4.Grid.Row, iV b4.Grid.Col, .bool b4.Grid.Hang, iV b4.Grid.Attr, iV b4.Top, iV b4.Code] 40 (0, 0))] :: s37 :: s7052 :: Fs)) (show Meets Try.prog 6 ([.slice A26372 b9.length c26373, .agg #[.slice A16 b1.2.1.Points.length c17, iV b1.2.1.Cursor, iV b1.2.1.Mark], iV b1.2.2.2.2] : List Value).toArray J29367 [] _ from hm_) (List.Perm.refl _)
             refine at_xS (fun w hs => ⟨hs.var (k := 1) rfl 0 rfl, cellsV (k := 2) hs rfl _ 0 (Nat.le_of_ble_eq_true (by kernel_rfl)) rfl⟩) ?_
             by_cases h29370 : b6.Line < b10
             ·
              rw [if_pos h29370] at H
              refine at_xweak (S' := fun w => w.cell? ⟨g19144, 0, none⟩ = some (iV b6.Line) ∧ CellsAt w ⟨g20, 0, none⟩ [.slice A16 b1.2.1.Points.length c17, iV b1.2.1.Cursor, iV b1.2.1.Mark] 0 ∧ CellsAt w ⟨g8040, 0, none⟩ [iV b4.Grid.Rows, iV b4.Grid.Cols, .slice A7050 b4.Grid.Cells.length c7051, iV b4.Grid.Row, iV b4.Grid.Col, .bool b4.Grid.Hang, iV b4.Grid.Attr] 0 ∧ CellsAt w ⟨g39, 0, none⟩ [iV b2.Grid.Rows, iV b2.Grid.Cols, .slice A35 b2.Grid.Cells.length c36, iV b2.Grid.Row, iV b2.Grid.Col, .bool b2.Grid.Hang, iV b2.Grid.Attr] 0) (fun w h_ => ⟨h_.1, h_.2.1⟩) ?_
              refine at_xseg [7, 8, 9, 10, 11, 12] 3 (#[true, true, true, true, true, true, true, true, true, true, true, true, true, false, false, false]) rfl (by kernel_rfl) [(8, .bool true), (10, .agg #[iV b4.Grid.Rows, iV b4.Grid.Cols, .slice A7050 b4.Grid.Cells.length c7051, iV b4.Grid.Row, iV b4.Grid.Col, .bool b4.Grid.Hang, iV b4.Grid.Attr]), (12, .agg #[iV b2.Grid.Rows, iV b2.Grid.Cols, .slice A35 b2.Grid.Cells.length c36, iV b2.Grid.Row, iV b2.Grid.Col, .bool b2.Grid.Hang, iV b2.Grid.Attr])] [117, 119, 121] (L2 := [(117, .bool true), (119, .agg #[iV b4.Grid.Rows, iV b4.Grid.Cols, .slice A7050 b4.Grid.Cells.length c7051, iV b4.Grid.Row, iV b4.Grid.Col, .bool b4.Grid.Hang, iV b4.Grid.Attr]), (121, .agg #[iV b2.Grid.Rows, iV b2.Grid.Cols, .slice A35 b2.Grid.Cells.length c36, iV b2.Grid.Row, iV b2.Grid.Col, .bool b2.Grid.Hang, iV b2.Grid.Attr])]) (obs := [fun _ => (.bool (decide (b6.Line < b10)) : Value) = .bool true, fun w => CellsAt w ⟨g8040, 0, none⟩ [iV b4.Grid.Rows, iV b4.Grid.Cols, .slice A7050 b4.Grid.Cells.length c7051, iV b4.Grid.Row, iV b4.Grid.Col, .bool b4.Grid.Hang, iV b4.Grid.Attr] 0, fun w => CellsAt w ⟨g39, 0, none⟩ [iV b2.Grid.Rows, iV b2.Grid.Cols, .slice A35 b2.Grid.Cells.length c36, iV b2.Grid.Row, iV b2.Grid.Col, .bool b2.Grid.Hang, iV b2.Grid.Attr] 0]) (by kernel_rfl) (by kernel_rfl) (by kernel_rfl) (.inr fun w hs => ⟨hs.var (k := 1) rfl 0 rfl, cellsV (k := 2) hs rfl _ 0 (Nat.le_of_ble_eq_true (by kernel_rfl)) rfl, cellsV (k := 4) hs rfl _ 0 (Nat.le_of_ble_eq_true (by kernel_rfl)) rfl, cellsV (k := 3) hs rfl _ 0 (Nat.le_of_ble_eq_true (by kernel_rfl)) rfl⟩) (fun w hS => ⟨cT (h29370), hS.2.2.1, hS.2.2.2⟩) (fun w hs => ⟨cT (h29370), cellsV (k := 4) hs rfl _ 0 (Nat.le_of_ble_eq_true (by kernel_rfl)) rfl, cellsV (k := 3) hs rfl _ 0 (Nat.le_of_ble_eq_true (by kernel_rfl)) rfl⟩) ?_
              refine at_x1 2 13 (#[true, true, true, true, true, true, true, true, true, true, true, true, true, true, false, false]) rfl (by kernel_rfl) (by kernel_rfl) rfl rfl ?_
              obtain ⟨b11, H36366, H⟩ := bind_some H
              refine eff_read rfl rfl (rv := .bool b11) (Ms' := (s7052 :: s37 :: s26374 :: [(g19144, .cells #[iV b6.Line, iV b6.Col] 31 (0, 0))] :: [(g20, .cells #[.slice A16 b1.2.1.Points.length c17, iV b1.2.1.Cursor, iV b1.2.1.Mark] 25 (0, 0))] :: [(g39, .cells #[iV b2.Grid.Rows, iV b2.Grid.Cols, .slice A35 b2.Grid.Cells.length c36, iV b2.Grid.Row, iV b2.Grid.Col, .bool b2.Grid.Hang, iV b2.Grid.Attr, iV b2.Top, iV b2.Code] 40 (0, 0))] :: [(g8040, .cells #[iV b4.Grid.Rows, iV b4.Grid.Cols, .slice A7050 b4.Grid.Cells.length c7051, iV b4.Grid.Row, iV b4.Grid.Col, .bool b4.Grid.Hang, iV b4.Grid.Attr, iV b4.Top, iV b4.Code] 40 (0, 0))] :: Fs)) ok16 rfl rfl ?_ ?_
              ·
               refine Reads.lend (k := 6) rfl (fun J36367 hJ36368 hin36369 => ?_)
               refine Reads.lend (k := 5) rfl (fun J36370 hJ36371 hin36372 => ?_)
               have hm_ := impl_GridSame.calls (I0 := J36370) H36366 (ho7053.rd (hJ36368.trans hJ36371) (hin36369.mono hJ36371)) (ho38.rd (hJ36368.trans hJ36371) hin36372)
               exact Reads.of_meets (Mr := (s26374 :: [(g19144, .cells #[iV b6.Line, iV b6.Col] 31 (0, 0))] :: [(g20, .cells #[.slice A16 b1.2.1.Points.length c17, iV b1.2.1.Cursor, iV b1.2.1.Mark] 25 (0, 0))] :: [(g39, .cells #[iV b2.Grid.Rows, iV b2.Grid.Cols, .slice A35 b2.Grid.Cells.length c36, iV b2.Grid.Row, iV b2.Grid.Col, .bool b2.Grid.Hang, iV b2.Grid.Attr, iV b2.Top, iV b2.Code] 40 (0, 0))] :: [(g8040, .cells #[iV b4.Grid.Rows, iV b4.Grid.Cols, .slice A7050 b4.Grid.Cells.length c7051, iV b4.Grid.Row, iV b4.Grid.Col, .bool b4.Grid.Hang, iV b4.Grid.Attr, iV b4.Top, iV b4.Code] 40 (0, 0))] :: Fs)) (show Meets Try.prog 16 ([.agg #[iV b4.Grid.Rows, iV b4.Grid.Cols, .slice A7050 b4.Grid.Cells.length c7051, iV b4.Grid.Row, iV b4.Grid.Col, .bool b4.Grid.Hang, iV b4.Grid.Attr], .agg #[iV b2.Grid.Rows, iV b2.Grid.Cols, .slice A35 b2.Grid.Cells.length c36, iV b2.Grid.Row, iV b2.Grid.Col, .bool b2.Grid.Hang, iV b2.Grid.Attr]] : List Value).toArray J36370 [] _ from hm_) (List.Perm.refl _)
              refine at_xS (fun w hs => ⟨hs.var (k := 3) rfl 0 rfl, cellsV (k := 4) hs rfl _ 0 (Nat.le_of_ble_eq_true (by kernel_rfl)) rfl, cellsV (k := 6) hs rfl _ 0 (Nat.le_of_ble_eq_true (by kernel_rfl)) rfl, cellsV (k := 5) hs rfl _ 0 (Nat.le_of_ble_eq_true (by kernel_rfl)) rfl⟩) ?_
              refine at_xseg [14, 15] 0 (#[true, true, true, true, true, true, true, true, true, true, true, true, true, true, true, true]) rfl (by kernel_rfl) [] [2] (L2 := [(2, .bool b11)]) (obs := []) (by kernel_rfl) (by kernel_rfl) (by kernel_rfl) (.inr fun w hs => ⟨hs.var (k := 3) rfl 0 rfl, cellsV (k := 4) hs rfl _ 0 (Nat.le_of_ble_eq_true (by kernel_rfl)) rfl, cellsV (k := 6) hs rfl _ 0 (Nat.le_of_ble_eq_true (by kernel_rfl)) rfl, cellsV (k := 5) hs rfl _ 0 (Nat.le_of_ble_eq_true (by kernel_rfl)) rfl⟩) (fun w hS => trivial) (fun w hs => trivial) ?_
              refine at_xend (by kernel_rfl) ?_
              refine at_thn (at_ret ?_)
              obtain rfl := Option.some.inj H
              refine at_drop (k := 0) rfl rfl ?_
              refine at_drop (k := 0) rfl rfl ?_
              refine at_drop (k := 0) rfl rfl ?_
              refine at_drop (k := 0) rfl rfl ?_
              refine at_drop (k := 0) rfl rfl ?_
              refine at_drop (k := 0) rfl rfl ?_
              refine at_drop (k := 0) rfl rfl ?_
              exact at_done0 [.bool b11] (.inl rfl) [.tmp 2] fun w hs => ⟨_, _, [], rfl, ⟨rfl, rfl⟩, hle, hs⟩
             ·
              rw [if_neg h29370] at H
              refine at_xseg [7, 8, 9, 10, 11, 12] 3 (#[true, true, true, true, true, true, true, true, true, true, true, true, true, false, false, false]) rfl (by kernel_rfl) [(8, .bool false)] [117, 119, 121] (L2 := [(117, .bool false), (119, undef), (121, undef)]) (obs := [fun _ => (.bool (decide (b6.Line < b10)) : Value) = .bool false]) (by kernel_rfl) (by kernel_rfl) (by kernel_rfl) (.inr fun w hs => ⟨hs.var (k := 1) rfl 0 rfl, cellsV (k := 2) hs rfl _ 0 (Nat.le_of_ble_eq_true (by kernel_rfl)) rfl⟩) (fun w hS => cF (h29370)) (fun w hs => cF (h29370)) ?_
              refine at_xseg [13, 14, 15] 0 (#[true, true, true, true, true, true, true, true, true, true, true, true, true, true, true, true]) rfl (by kernel_rfl) [] [2] (L2 := [(2, .bool false)]) (obs := []) (by kernel_rfl) (by kernel_rfl) (by kernel_rfl) (.inr fun w hs => ⟨hs.var (k := 1) rfl 0 rfl, cellsV (k := 2) hs rfl _ 0 (Nat.le_of_ble_eq_true (by kernel_rfl)) rfl⟩) (fun w hS => trivial) (fun w hs => trivial) ?_
              refine at_xend (by kernel_rfl) ?_
              refine at_thn (at_ret ?_)
              obtain rfl := Option.some.inj H
              refine at_drop (k := 0) rfl rfl ?_
              refine at_drop (k := 0) rfl rfl ?_
              refine at_drop (k := 0) rfl rfl ?_
              refine at_drop (k := 0) rfl rfl ?_
              refine at_drop (k := 0) rfl rfl ?_
              refine at_drop (k := 0) rfl rfl ?_
              refine at_drop (k := 0) rfl rfl ?_
              exact at_done0 [.bool false] (.inl rfl) [.tmp 2] fun w hs => ⟨_, _, [], rfl, ⟨rfl, rfl⟩, hle, hs⟩
            ·
             intro Jn22260
             refine at_seq ?_
             by_cases h22260 : b4.Top > 0
             ·
              rw [if_pos h22260] at H
              by_cases h22261 : b4.Grid.Row = (IntKind.i64.wrap (b1.2.2.2.1 - 1))
              ·
               rw [if_pos h22261] at H
               refine at_reg1 [(1, iV b4.Top), (3, .bool true), (6, iV b4.Grid.Row), (11, .bool false), (13, iV b4.Top)] [3, 4, 7, 8, 9, 10, 108] [(3, .slice A12 b1.1.length c13), (4, .pointer (some ⟨g20, 0, none⟩)), (7, iV b1.2.2.2.2), (8, .pointer (some ⟨g39, 0, none⟩)), (9, .pointer (some ⟨g8040, 0, none⟩)), (10, .pointer (some ⟨g19144, 0, none⟩)), (108, .bool (decide (b4.Top < 0)))] [fun w => w.cell? ⟨g8040, 7, none⟩ = some (iV b4.Top), oT (b4.Top > 0), fun w => w.cell? ⟨g8040, 3, none⟩ = some (iV b4.Grid.Row), fun _ => (.bool (b4.Grid.Row != (IntKind.i64.wrap (b1.2.2.2.1 - 1))) : Value) = .bool false, fun w => w.cell? ⟨g8040, 7, none⟩ = some (iV b4.Top)] (fun w hs => ⟨hs.var (k := 4) rfl 7 rfl, cT (h22260), hs.var (k := 4) rfl 3 rfl, congrArg Value.bool (bne_eq_false_iff_eq.2 h22261), hs.var (k := 4) rfl 7 rfl⟩) ?_
               refine at_thn ?_
               by_cases h22262 : b4.Top < 0
               ·
                rw [if_pos h22262] at H
                refine at_cond_t rfl (decide_eq_true h22262) ?_
                refine at_seq (at_reg0 [] [2] [(2, .bool false)] ?_)
                refine at_thn (at_ret (at_then_ret ?_))
                obtain rfl := Option.some.inj H
                refine at_drop (k := 0) rfl rfl ?_
                refine at_drop (k := 0) rfl rfl ?_
                refine at_drop (k := 0) rfl rfl ?_
                refine at_drop (k := 0) rfl rfl ?_
                refine at_drop (k := 0) rfl rfl ?_
                refine at_drop (k := 0) rfl rfl ?_
                exact at_done0 [.bool false] (.inl rfl) [.tmp 2] fun w hs => ⟨_, _, [], rfl, ⟨rfl, rfl⟩, hle, hs⟩
               ·
                rw [if_neg h22262] at H
                refine at_cond_f rfl (decide_eq_false h22262) ?_
                refine at_skip (at_thn (at_perm ((perm_at (k := 1) rfl).trans (((perm_at (k := 1) rfl).trans (((perm_at (k := 1) rfl).trans (((perm_at (k := 1) rfl).trans (((perm_at (k := 1) rfl).trans ((List.Perm.refl _).cons _)).cons _)).cons _)).cons _)).cons _)) ?_))
                refine at_keep [3, 4, 7, 8, 9, 10] (L2 := [(3, .slice A12 b1.1.length c13), (4, .pointer (some ⟨g20, 0, none⟩)), (7, iV b1.2.2.2.2), (8, .pointer (some ⟨g39, 0, none⟩)), (9, .pointer (some ⟨g8040, 0, none⟩)), (10, .pointer (some ⟨g19144, 0, none⟩))]) rfl ?_
                exact Jn22260 _ _ _ ⟨_, rfl, rfl, H, hle, by omega, ho38, ho7053, hr24, hr28⟩
              ·
               rw [if_neg h22261] at H
               refine at_reg1 [(1, iV b4.Top), (3, .bool true), (6, iV b4.Grid.Row), (11, .bool true)] [3, 4, 7, 8, 9, 10, 108] [(3, .slice A12 b1.1.length c13), (4, .pointer (some ⟨g20, 0, none⟩)), (7, iV b1.2.2.2.2), (8, .pointer (some ⟨g39, 0, none⟩)), (9, .pointer (some ⟨g8040, 0, none⟩)), (10, .pointer (some ⟨g19144, 0, none⟩)), (108, .bool true)] [fun w => w.cell? ⟨g8040, 7, none⟩ = some (iV b4.Top), oT (b4.Top > 0), fun w => w.cell? ⟨g8040, 3, none⟩ = some (iV b4.Grid.Row), fun _ => (.bool (b4.Grid.Row != (IntKind.i64.wrap (b1.2.2.2.1 - 1))) : Value) = .bool true] (fun w hs => ⟨hs.var (k := 4) rfl 7 rfl, cT (h22260), hs.var (k := 4) rfl 3 rfl, congrArg Value.bool (bne_iff_ne.2 h22261)⟩) ?_
               refine at_thn (at_cond_t rfl (rfl) ?_)
               refine at_seq (at_reg0 [] [2] [(2, .bool false)] ?_)
               refine at_thn (at_ret (at_then_ret ?_))
               obtain rfl := Option.some.inj H
               refine at_drop (k := 0) rfl rfl ?_
               refine at_drop (k := 0) rfl rfl ?_
               refine at_drop (k := 0) rfl rfl ?_
               refine at_drop (k := 0) rfl rfl ?_
               refine at_drop (k := 0) rfl rfl ?_
               refine at_drop (k := 0) rfl rfl ?_
               exact at_done0 [.bool false] (.inl rfl) [.tmp 2] fun w hs => ⟨_, _, [], rfl, ⟨rfl, rfl⟩, hle, hs⟩
             ·
              rw [if_neg h22260] at H
              refine at_reg1 [(1, iV b4.Top), (3, .bool false), (13, iV b4.Top)] [3, 4, 7, 8, 9, 10, 108] [(3, .slice A12 b1.1.length c13), (4, .pointer (some ⟨g20, 0, none⟩)), (7, iV b1.2.2.2.2), (8, .pointer (some ⟨g39, 0, none⟩)), (9, .pointer (some ⟨g8040, 0, none⟩)), (10, .pointer (some ⟨g19144, 0, none⟩)), (108, .bool (decide (b4.Top < 0)))] [fun w => w.cell? ⟨g8040, 7, none⟩ = some (iV b4.Top), oF (b4.Top > 0), fun w => w.cell? ⟨g8040, 7, none⟩ = some (iV b4.Top)] (fun w hs => ⟨hs.var (k := 4) rfl 7 rfl, cF (h22260), hs.var (k := 4) rfl 7 rfl⟩) ?_
              refine at_thn ?_
              by_cases h22263 : b4.Top < 0
              ·
               rw [if_pos h22263] at H
               refine at_cond_t rfl (decide_eq_true h22263) ?_
               refine at_seq (at_reg0 [] [2] [(2, .bool false)] ?_)
               refine at_thn (at_ret (at_then_ret ?_))
               obtain rfl := Option.some.inj H
               refine at_drop (k := 0) rfl rfl ?_
               refine at_drop (k := 0) rfl rfl ?_
               refine at_drop (k := 0) rfl rfl ?_
               refine at_drop (k := 0) rfl rfl ?_
               refine at_drop (k := 0) rfl rfl ?_
               refine at_drop (k := 0) rfl rfl ?_
               exact at_done0 [.bool false] (.inl rfl) [.tmp 2] fun w hs => ⟨_, _, [], rfl, ⟨rfl, rfl⟩, hle, hs⟩
              ·
               rw [if_neg h22263] at H
               refine at_cond_f rfl (decide_eq_false h22263) ?_
               refine at_skip (at_thn (at_perm ((perm_at (k := 1) rfl).trans (((perm_at (k := 1) rfl).trans (((perm_at (k := 1) rfl).trans (((perm_at (k := 1) rfl).trans (((perm_at (k := 1) rfl).trans ((List.Perm.refl _).cons _)).cons _)).cons _)).cons _)).cons _)) ?_))
               refine at_keep [3, 4, 7, 8, 9, 10] (L2 := [(3, .slice A12 b1.1.length c13), (4, .pointer (some ⟨g20, 0, none⟩)), (7, iV b1.2.2.2.2), (8, .pointer (some ⟨g39, 0, none⟩)), (9, .pointer (some ⟨g8040, 0, none⟩)), (10, .pointer (some ⟨g19144, 0, none⟩))]) rfl ?_
               exact Jn22260 _ _ _ ⟨_, rfl, rfl, H, hle, by omega, ho38, ho7053, hr24, hr28⟩
           ·
            rw [if_neg h22259] at H
            refine at_cond_t rfl (bne_iff_ne.2 h22259) ?_
            refine at_seq (at_reg0 [] [2] [(2, .bool false)] ?_)
            refine at_thn (at_ret (at_then_ret ?_))
            obtain rfl := Option.some.inj H
            refine at_drop (k := 0) rfl rfl ?_
            refine at_drop (k := 0) rfl rfl ?_
            refine at_drop (k := 0) rfl rfl ?_
            refine at_drop (k := 0) rfl rfl ?_
            refine at_drop (k := 0) rfl rfl ?_
            refine at_drop (k := 0) rfl rfl ?_
            exact at_done0 [.bool false] (.inl rfl) [.tmp 2] fun w hs => ⟨_, _, [], rfl, ⟨rfl, rfl⟩, hle, hs⟩
          ·
           rw [if_neg h22258] at H
           refine at_seg1 [8, 9, 10, 11, 12, 13, 14, 15, 16, 17, 18, 19, 20, 21, 22, 23, 24, 25, 26, 27, 28, 29, 30, 31, 32, 33, 34, 35, 36, 37, 38, 39, 40, 41, 42] [] [(10, .bool false), (13, iV b4.Grid.Rows), (17, .bool false), (20, iV b4.Grid.Cols), (24, .bool false), (26, iV b4.Top), (29, iV b4.Grid.Row), (32, iV b6.Line), (35, .bool true)] [3, 4, 6, 7, 8, 9, 10, 92] [(3, .slice A12 b1.1.length c13), (4, .pointer (some ⟨g20, 0, none⟩)), (6, iV b1.2.2.2.1), (7, iV b1.2.2.2.2), (8, .pointer (some ⟨g39, 0, none⟩)), (9, .pointer (some ⟨g8040, 0, none⟩)), (10, .pointer (some ⟨g19144, 0, none⟩)), (92, .bool true)] [fun _ => (.bool (!b8) : Value) = .bool false, fun w => w.cell? ⟨g8040, 0, none⟩ = some (iV b4.Grid.Rows), fun _ => (.bool (b4.Grid.Rows != b1.2.2.2.1) : Value) = .bool false, fun w => w.cell? ⟨g8040, 1, none⟩ = some (iV b4.Grid.Cols), fun _ => (.bool (b4.Grid.Cols != b1.2.2.2.2) : Value) = .bool false, fun w => w.cell? ⟨g8040, 7, none⟩ = some (iV b4.Top), fun w => w.cell? ⟨g8040, 3, none⟩ = some (iV b4.Grid.Row), fun w => w.cell? ⟨g19144, 0, none⟩ = some (iV b6.Line), fun _ => (.bool ((IntKind.i64.wrap (b4.Top + b4.Grid.Row)) != b6.Line) : Value) = .bool true] (fun w hs => ⟨congrArg Value.bool (not_ff (h22255)), hs.var (k := 4) rfl 0 rfl, congrArg Value.bool (bne_eq_false_iff_eq.2 h22256), hs.var (k := 4) rfl 1 rfl, congrArg Value.bool (bne_eq_false_iff_eq.2 h22257), hs.var (k := 4) rfl 7 rfl, hs.var (k := 4) rfl 3 rfl, hs.var (k := 1) rfl 0 rfl, congrArg Value.bool (bne_iff_ne.2 h22258)⟩) ?_
           refine at_end (at_thn (at_cond_t rfl (rfl) ?_))
           refine at_seq (at_reg0 [] [2] [(2, .bool false)] ?_)
           refine at_thn (at_ret (at_then_ret ?_))
           obtain rfl := Option.some.inj H
           refine at_drop (k := 0) rfl rfl ?_
           refine at_drop (k := 0) rfl rfl ?_
           refine at_drop (k := 0) rfl rfl ?_
           refine at_drop (k := 0) rfl rfl ?_
           refine at_drop (k := 0) rfl rfl ?_
           refine at_drop (k := 0) rfl rfl ?_
           exact at_done0 [.bool false] (.inl rfl) [.tmp 2] fun w hs => ⟨_, _, [], rfl, ⟨rfl, rfl⟩, hle, hs⟩
         ·
          rw [if_neg h22257] at H
          refine at_seg1 [8, 9, 10, 11, 12, 13, 14, 15, 16, 17, 18, 19, 20, 21, 22, 23, 24, 25, 26, 27, 28, 29, 30, 31, 32, 33, 34, 35, 36, 37, 38, 39, 40, 41, 42] [] [(10, .bool false), (13, iV b4.Grid.Rows), (17, .bool false), (20, iV b4.Grid.Cols), (24, .bool true)] [3, 4, 6, 7, 8, 9, 10, 92] [(3, .slice A12 b1.1.length c13), (4, .pointer (some ⟨g20, 0, none⟩)), (6, iV b1.2.2.2.1), (7, iV b1.2.2.2.2), (8, .pointer (some ⟨g39, 0, none⟩)), (9, .pointer (some ⟨g8040, 0, none⟩)), (10, .pointer (some ⟨g19144, 0, none⟩)), (92, .bool true)] [fun _ => (.bool (!b8) : Value) = .bool false, fun w => w.cell? ⟨g8040, 0, none⟩ = some (iV b4.Grid.Rows), fun _ => (.bool (b4.Grid.Rows != b1.2.2.2.1) : Value) = .bool false, fun w => w.cell? ⟨g8040, 1, none⟩ = some (iV b4.Grid.Cols), fun _ => (.bool (b4.Grid.Cols != b1.2.2.2.2) : Value) = .bool true] (fun w hs => ⟨congrArg Value.bool (not_ff (h22255)), hs.var (k := 4) rfl 0 rfl, congrArg Value.bool (bne_eq_false_iff_eq.2 h22256), hs.var (k := 4) rfl 1 rfl, congrArg Value.bool (bne_iff_ne.2 h22257)⟩) ?_
          refine at_end (at_thn (at_cond_t rfl (rfl) ?_))
          refine at_seq (at_reg0 [] [2] [(2, .bool false)] ?_)
          refine at_thn (at_ret (at_then_ret ?_))
          obtain rfl := Option.some.inj H
          refine at_drop (k := 0) rfl rfl ?_
          refine at_drop (k := 0) rfl rfl ?_
          refine at_drop (k := 0) rfl rfl ?_
          refine at_drop (k := 0) rfl rfl ?_
          refine at_drop (k := 0) rfl rfl ?_
          refine at_drop (k := 0) rfl rfl ?_
          exact at_done0 [.bool false] (.inl rfl) [.tmp 2] fun w hs => ⟨_, _, [], rfl, ⟨rfl, rfl⟩, hle, hs⟩
        ·
         rw [if_neg h22256] at H
         refine at_seg1 [8, 9, 10, 11, 12, 13, 14, 15, 16, 17, 18, 19, 20, 21, 22, 23, 24, 25, 26, 27, 28, 29, 30, 31, 32, 33, 34, 35, 36, 37, 38, 39, 40, 41, 42] [] [(10, .bool false), (13, iV b4.Grid.Rows), (17, .bool true)] [3, 4, 6, 7, 8, 9, 10, 92] [(3, .slice A12 b1.1.length c13), (4, .pointer (some ⟨g20, 0, none⟩)), (6, iV b1.2.2.2.1), (7, iV b1.2.2.2.2), (8, .pointer (some ⟨g39, 0, none⟩)), (9, .pointer (some ⟨g8040, 0, none⟩)), (10, .pointer (some ⟨g19144, 0, none⟩)), (92, .bool true)] [fun _ => (.bool (!b8) : Value) = .bool false, fun w => w.cell? ⟨g8040, 0, none⟩ = some (iV b4.Grid.Rows), fun _ => (.bool (b4.Grid.Rows != b1.2.2.2.1) : Value) = .bool true] (fun w hs => ⟨congrArg Value.bool (not_ff (h22255)), hs.var (k := 4) rfl 0 rfl, congrArg Value.bool (bne_iff_ne.2 h22256)⟩) ?_
         refine at_end (at_thn (at_cond_t rfl (rfl) ?_))
         refine at_seq (at_reg0 [] [2] [(2, .bool false)] ?_)
         refine at_thn (at_ret (at_then_ret ?_))
         obtain rfl := Option.some.inj H
         refine at_drop (k := 0) rfl rfl ?_
         refine at_drop (k := 0) rfl rfl ?_
         refine at_drop (k := 0) rfl rfl ?_
         refine at_drop (k := 0) rfl rfl ?_
         refine at_drop (k := 0) rfl rfl ?_
         refine at_drop (k := 0) rfl rfl ?_
         exact at_done0 [.bool false] (.inl rfl) [.tmp 2] fun w hs => ⟨_, _, [], rfl, ⟨rfl, rfl⟩, hle, hs⟩
       ·
        rw [if_neg h22255] at H
        refine at_seg1 [8, 9, 10, 11, 12, 13, 14, 15, 16, 17, 18, 19, 20, 21, 22, 23, 24, 25, 26, 27, 28, 29, 30, 31, 32, 33, 34, 35, 36, 37, 38, 39, 40, 41, 42] [] [(10, .bool true)] [3, 4, 6, 7, 8, 9, 10, 92] [(3, .slice A12 b1.1.length c13), (4, .pointer (some ⟨g20, 0, none⟩)), (6, iV b1.2.2.2.1), (7, iV b1.2.2.2.2), (8, .pointer (some ⟨g39, 0, none⟩)), (9, .pointer (some ⟨g8040, 0, none⟩)), (10, .pointer (some ⟨g19144, 0, none⟩)), (92, .bool true)] [fun _ => (.bool (!b8) : Value) = .bool true] (fun w hs => congrArg Value.bool (not_tt (ff_of h22255))) ?_
        refine at_end (at_thn (at_cond_t rfl (rfl) ?_))
        refine at_seq (at_reg0 [] [2] [(2, .bool false)] ?_)
        refine at_thn (at_ret (at_then_ret ?_))
        obtain rfl := Option.some.inj H
        refine at_drop (k := 0) rfl rfl ?_
        refine at_drop (k := 0) rfl rfl ?_
        refine at_drop (k := 0) rfl rfl ?_
        refine at_drop (k := 0) rfl rfl ?_
        refine at_drop (k := 0) rfl rfl ?_
        refine at_drop (k := 0) rfl rfl ?_
        exact at_done0 [.bool false] (.inl rfl) [.tmp 2] fun w hs => ⟨_, _, [], rfl, ⟨rfl, rfl⟩, hle, hs⟩
      ·
       rw [if_neg h22250] at H
       refine at_seg1 [3, 4, 5, 6] [7, 8, 9, 10, 11, 12, 13, 14, 15, 16, 17, 18, 19, 20, 21, 22, 23, 24, 25, 26, 27, 28, 29, 30, 31, 32, 33, 34, 35, 36, 37, 38, 39, 40, 41, 42] [(4, .bool true)] [3, 4, 6, 7, 8, 9, 10, 54, 56] [(3, .slice A12 b1.1.length c13), (4, .pointer (some ⟨g20, 0, none⟩)), (6, iV b1.2.2.2.1), (7, iV b1.2.2.2.2), (8, .pointer (some ⟨g39, 0, none⟩)), (9, .pointer (some ⟨g8040, 0, none⟩)), (10, .pointer (some ⟨g19144, 0, none⟩)), (54, .bool true), (56, undef)] [fun _ => (.bool (!b7) : Value) = .bool true] (fun w hs => congrArg Value.bool (not_tt (ff_of h22250))) ?_
       refine at_seg0 [7, 8, 9, 10, 11, 12, 13, 14, 15, 16, 17, 18, 19, 20, 21, 22, 23, 24, 25, 26, 27, 28, 29, 30, 31, 32, 33, 34, 35, 36, 37, 38, 39, 40, 41, 42] [] [] [3, 4, 6, 7, 8, 9, 10, 92] [(3, .slice A12 b1.1.length c13), (4, .pointer (some ⟨g20, 0, none⟩)), (6, iV b1.2.2.2.1), (7, iV b1.2.2.2.2), (8, .pointer (some ⟨g39, 0, none⟩)), (9, .pointer (some ⟨g8040, 0, none⟩)), (10, .pointer (some ⟨g19144, 0, none⟩)), (92, .bool true)] ?_
       refine at_end (at_thn (at_cond_t rfl (rfl) ?_))
       refine at_seq (at_reg0 [] [2] [(2, .bool false)] ?_)
       refine at_thn (at_ret (at_then_ret ?_))
       obtain rfl := Option.some.inj H
       refine at_drop (k := 0) rfl rfl ?_
       refine at_drop (k := 0) rfl rfl ?_
       refine at_drop (k := 0) rfl rfl ?_
       refine at_drop (k := 0) rfl rfl ?_
       refine at_drop (k := 0) rfl rfl ?_
       refine at_drop (k := 0) rfl rfl ?_
       exact at_done0 [.bool false] (.inl rfl) [.tmp 2] fun w hs => ⟨_, _, [], rfl, ⟨rfl, rfl⟩, hle, hs⟩
     ·
      intro Jn11144
      refine at_x hmo (fun w => CellsAt w ⟨g20, 0, none⟩ [.slice A16 b1.2.1.Points.length c17, iV b1.2.1.Cursor, iV b1.2.1.Mark] 0 ∧ w.cell? ⟨g20, 1, none⟩ = some (iV b1.2.1.Cursor)) [8] ?_
      refine at_xseg [0, 2, 3, 4, 5] 4 (#[true, false, true, true, true, true, false, false, false]) rfl (by kernel_rfl) [(2, .agg #[.slice A16 b1.2.1.Points.length c17, iV b1.2.1.Cursor, iV b1.2.1.Mark]), (4, iV b1.2.1.Cursor)] [3, 4, 6, 7, 8, 9, 43, 45, 47, 48] (L2 := [(3, .slice A12 b1.1.length c13), (4, .pointer (some ⟨g20, 0, none⟩)), (6, iV b1.2.2.2.1), (7, iV b1.2.2.2.2), (8, .pointer (some ⟨g39, 0, none⟩)), (9, .pointer (some ⟨g8040, 0, none⟩)), (43, .slice A12 b1.1.length c13), (45, .agg #[.slice A16 b1.2.1.Points.length c17, iV b1.2.1.Cursor, iV b1.2.1.Mark]), (47, iV b1.2.1.Cursor), (48, iV b1.2.2.2.2)]) (obs := [fun w => CellsAt w ⟨g20, 0, none⟩ [.slice A16 b1.2.1.Points.length c17, iV b1.2.1.Cursor, iV b1.2.1.Mark] 0, fun w => w.cell? ⟨g20, 1, none⟩ = some (iV b1.2.1.Cursor)]) (by kernel_rfl) (by kernel_rfl) (by kernel_rfl) (.inr fun w hs => ⟨cellsV (k := 0) hs rfl _ 0 (Nat.le_of_ble_eq_true (by kernel_rfl)) rfl, hs.var (k := 0) rfl 1 rfl⟩) (fun w hS => ⟨hS.1, hS.2⟩) (fun w hs => ⟨cellsV (k := 0) hs rfl _ 0 (Nat.le_of_ble_eq_true (by kernel_rfl)) rfl, hs.var (k := 0) rfl 1 rfl⟩) ?_
      refine at_xall (fuel := 3) [1, 7] (by kernel_rfl) (by simp) (List.forall_mem_cons.2 ⟨?_, (List.forall_mem_cons.2 ⟨?_, fun _ h => nomatch h⟩)⟩)
      ·
       refine at_xone (#[true, true, true, true, true, true, false, false, false]) (by kernel_rfl) rfl rfl ?_
       obtain ⟨b5, H13144, H⟩ := bind_some H
       have hm_ := laws_lwCopy.calls (I0 := I) H13144 hr24
       refine eff_call rfl rfl ok7 rfl rfl (show Meets Try.prog 7 ([.slice A12 b1.1.length c13] : List Value).toArray _ [] _ from hm_) (Mr := ([(g20, .cells #[.slice A16 b1.2.1.Points.length c17, iV b1.2.1.Cursor, iV b1.2.1.Mark] 25 (0, 0))] :: [(g39, .cells #[iV b2.Grid.Rows, iV b2.Grid.Cols, .slice A35 b2.Grid.Cells.length c36, iV b2.Grid.Row, iV b2.Grid.Col, .bool b2.Grid.Hang, iV b2.Grid.Attr, iV b2.Top, iV b2.Code] 40 (0, 0))] :: [(g8040, .cells #[iV b4.Grid.Rows, iV b4.Grid.Cols, .slice A7050 b4.Grid.Cells.length c7051, iV b4.Grid.Row, iV b4.Grid.Col, .bool b4.Grid.Hang, iV b4.Grid.Attr, iV b4.Top, iV b4.Code] 40 (0, 0))] :: s7052 :: s37 :: Fs)) (List.Perm.refl _) (fun v13145 J13146 M13147 hq13148 hJ13149 => ?_)
       replace hle := hle.trans hJ13149
       replace ho38 := ho38.mono hJ13149
       replace ho7053 := ho7053.mono hJ13149
       replace hr24 := hr24.mono hJ13149
       replace hr28 := hr28.mono hJ13149
       obtain ⟨A13150, c13151, s13152, rfl, rfl, ho13153⟩ := hq13148
       refine at_xS (fun w hs => ⟨cellsV (k := 1) hs rfl _ 0 (Nat.le_of_ble_eq_true (by kernel_rfl)) rfl, hs.var (k := 1) rfl 1 rfl⟩) ?_
       refine at_xall (fuel := 2) [6, 7] (by kernel_rfl) (by simp) (List.forall_mem_cons.2 ⟨?_, (List.forall_mem_cons.2 ⟨?_, fun _ h => nomatch h⟩)⟩)
       ·
        refine at_xone (#[true, true, true, true, true, true, true, false, false]) (by kernel_rfl) rfl rfl ?_
        obtain ⟨b6, H18144, H⟩ := bind_some H
        refine eff_read rfl rfl (rv := .agg #[iV b6.Line, iV b6.Col]) (Ms' := (s13152 :: [(g20, .cells #[.slice A16 b1.2.1.Points.length c17, iV b1.2.1.Cursor, iV b1.2.1.Mark] 25 (0, 0))] :: [(g39, .cells #[iV b2.Grid.Rows, iV b2.Grid.Cols, .slice A35 b2.Grid.Cells.length c36, iV b2.Grid.Row, iV b2.Grid.Col, .bool b2.Grid.Hang, iV b2.Grid.Attr, iV b2.Top, iV b2.Code] 40 (0, 0))] :: [(g8040, .cells #[iV b4.Grid.Rows, iV b4.Grid.Cols, .slice A7050 b4.Grid.Cells.length c7051, iV b4.Grid.Row, iV b4.Grid.Col, .bool b4.Grid.Hang, iV b4.Grid.Attr, iV b4.Top, iV b4.Code] 40 (0, 0))] :: s7052 :: s37 :: Fs)) ok9 rfl rfl ?_ ?_
        ·
         refine Reads.lend (k := 0) rfl (fun J18145 hJ18146 hin18147 => ?_)
         have hm_ := impl_ViewSpot.calls (I0 := J18145) H18144 (ho13153.rd hJ18146 hin18147) (hr28.mono hJ18146)
         exact Reads.of_meets (Mr := ([(g20, .cells #[.slice A16 b1.2.1.Points.length c17, iV b1.2.1.Cursor, iV b1.2.1.Mark] 25 (0, 0))] :: [(g39, .cells #[iV b2.Grid.Rows, iV b2.Grid.Cols, .slice A35 b2.Grid.Cells.length c36, iV b2.Grid.Row, iV b2.Grid.Col, .bool b2.Grid.Hang, iV b2.Grid.Attr, iV b2.Top, iV b2.Code] 40 (0, 0))] :: [(g8040, .cells #[iV b4.Grid.Rows, iV b4.Grid.Cols, .slice A7050 b4.Grid.Cells.length c7051, iV b4.Grid.Row, iV b4.Grid.Col, .bool b4.Grid.Hang, iV b4.Grid.Attr, iV b4.Top, iV b4.Code] 40 (0, 0))] :: s7052 :: s37 :: Fs)) (show Meets Try.prog 9 ([.slice A13150 b5.length c13151, .agg #[.slice A16 b1.2.1.Points.length c17, iV b1.2.1.Cursor, iV b1.2.1.Mark], iV b1.2.1.Cursor, iV b1.2.2.2.2] : List Value).toArray J18145 [] _ from hm_) (List.Perm.refl _)
        refine at_xS (fun w hs => ⟨cellsV (k := 1) hs rfl _ 0 (Nat.le_of_ble_eq_true (by kernel_rfl)) rfl, hs.var (k := 1) rfl 1 rfl⟩) ?_
        refine at_x1 1 7 (#[true, true, true, true, true, true, true, true, false]) rfl (by kernel_rfl) (by kernel_rfl) rfl rfl ?_
        obtain ⟨i_, hi_, hz_, _, _⟩ := info31
        refine eff_alloc rfl rfl hi_ hz_ #[iV 0, iV 0] rfl (fun g19144 => ?_)
        refine at_xS (fun w hs => ⟨cellsV (k := 2) hs rfl _ 0 (Nat.le_of_ble_eq_true (by kernel_rfl)) rfl, hs.var (k := 2) rfl 1 rfl⟩) ?_
        refine at_x1 0 8 (#[true, true, true, true, true, true, true, true, true]) rfl (by kernel_rfl) (by kernel_rfl) rfl rfl ?_
        refine eff_store 0 rfl rfl rfl rfl rfl rfl (.inl (Nat.le_refl _)) rfl (Nat.le_of_ble_eq_true (by kernel_rfl)) rfl ?_
        refine at_sg ([(g19144, .cells #[iV b6.Line, iV b6.Col] 31 (0, 0))] :: s13152 :: [(g20, .cells #[.slice A16 b1.2.1.Points.length c17, iV b1.2.1.Cursor, iV b1.2.1.Mark] 25 (0, 0))] :: [(g39, .cells #[iV b2.Grid.Rows, iV b2.Grid.Cols, .slice A35 b2.Grid.Cells.length c36, iV b2.Grid.Row, iV b2.Grid.Col, .bool b2.Grid.Hang, iV b2.Grid.Attr, iV b2.Top, iV b2.Code] 40 (0, 0))] :: [(g8040, .cells #[iV b4.Grid.Rows, iV b4.Grid.Cols, .slice A7050 b4.Grid.Cells.length c7051, iV b4.Grid.Row, iV b4.Grid.Col, .bool b4.Grid.Hang, iV b4.Grid.Attr, iV b4.Top, iV b4.Code] 40 (0, 0))] :: s7052 :: s37 :: Fs) ?_
        refine at_xX (by kernel_rfl) ?_
        refine at_xend (by kernel_rfl) ?_
        refine at_thn (at_drop (k := 1) rfl rfl ?_)
        refine at_sg ([(g19144, .cells #[iV b6.Line, iV b6.Col] 31 (0, 0))] :: [(g20, .cells #[.slice A16 b1.2.1.Points.length c17, iV b1.2.1.Cursor, iV b1.2.1.Mark] 25 (0, 0))] :: [(g39, .cells #[iV b2.Grid.Rows, iV b2.Grid.Cols, .slice A35 b2.Grid.Cells.length c36, iV b2.Grid.Row, iV b2.Grid.Col, .bool b2.Grid.Hang, iV b2.Grid.Attr, iV b2.Top, iV b2.Code] 40 (0, 0))] :: [(g8040, .cells #[iV b4.Grid.Rows, iV b4.Grid.Cols, .slice A7050 b4.Grid.Cells.length c7051, iV b4.Grid.Row, iV b4.Grid.Col, .bool b4.Grid.Hang, iV b4.Grid.Attr, iV b4.Top, iV b4.Code] 40 (0, 0))] :: s7052 :: s37 :: Fs) ?_
        refine at_perm ((((((perm_at (k := 1) rfl).trans ((List.Perm.refl _).cons _)).cons _).cons _).cons _).cons _) ?_
        refine at_keep [3, 4, 6, 7, 8, 9, 10] (L2 := [(3, .slice A12 b1.1.length c13), (4, .pointer (some ⟨g20, 0, none⟩)), (6, iV b1.2.2.2.1), (7, iV b1.2.2.2.2), (8, .pointer (some ⟨g39, 0, none⟩)), (9, .pointer (some ⟨g8040, 0, none⟩)), (10, .pointer (some ⟨g19144, 0, none⟩))]) rfl ?_
        exact Jn11144 _ _ _ ⟨_, b6, g19144, rfl, rfl, H, hle, by omega, ho38, ho7053, hr24, hr28⟩
       ·
        refine at_xone (#[true, true, true, true, true, true, false, true, false]) (by kernel_rfl) rfl rfl ?_
        obtain ⟨i_, hi_, hz_, _, _⟩ := info31
        refine eff_alloc rfl rfl hi_ hz_ #[iV 0, iV 0] rfl (fun g19144 => ?_)
        refine at_xS (fun w hs => ⟨cellsV (k := 2) hs rfl _ 0 (Nat.le_of_ble_eq_true (by kernel_rfl)) rfl, hs.var (k := 2) rfl 1 rfl⟩) ?_
        refine at_x1 1 6 (#[true, true, true, true, true, true, true, true, false]) rfl (by kernel_rfl) (by kernel_rfl) rfl rfl ?_
        obtain ⟨b6, H18144, H⟩ := bind_some H
        refine eff_read rfl rfl (rv := .agg #[iV b6.Line, iV b6.Col]) (Ms' := (s13152 :: [(g19144, .cells #[iV 0, iV 0] 31 (0, 0))] :: [(g20, .cells #[.slice A16 b1.2.1.Points.length c17, iV b1.2.1.Cursor, iV b1.2.1.Mark] 25 (0, 0))] :: [(g39, .cells #[iV b2.Grid.Rows, iV b2.Grid.Cols, .slice A35 b2.Grid.Cells.length c36, iV b2.Grid.Row, iV b2.Grid.Col, .bool b2.Grid.Hang, iV b2.Grid.Attr, iV b2.Top, iV b2.Code] 40 (0, 0))] :: [(g8040, .cells #[iV b4.Grid.Rows, iV b4.Grid.Cols, .slice A7050 b4.Grid.Cells.length c7051, iV b4.Grid.Row, iV b4.Grid.Col, .bool b4.Grid.Hang, iV b4.Grid.Attr, iV b4.Top, iV b4.Code] 40 (0, 0))] :: s7052 :: s37 :: Fs)) ok9 rfl rfl ?_ ?_
        ·
         refine Reads.lend (k := 1) rfl (fun J18145 hJ18146 hin18147 => ?_)
         have hm_ := impl_ViewSpot.calls (I0 := J18145) H18144 (ho13153.rd hJ18146 hin18147) (hr28.mono hJ18146)
         exact Reads.of_meets (Mr := ([(g19144, .cells #[iV 0, iV 0] 31 (0, 0))] :: [(g20, .cells #[.slice A16 b1.2.1.Points.length c17, iV b1.2.1.Cursor, iV b1.2.1.Mark] 25 (0, 0))] :: [(g39, .cells #[iV b2.Grid.Rows, iV b2.Grid.Cols, .slice A35 b2.Grid.Cells.length c36, iV b2.Grid.Row, iV b2.Grid.Col, .bool b2.Grid.Hang, iV b2.Grid.Attr, iV b2.Top, iV b2.Code] 40 (0, 0))] :: [(g8040, .cells #[iV b4.Grid.Rows, iV b4.Grid.Cols, .slice A7050 b4.Grid.Cells.length c7051, iV b4.Grid.Row, iV b4.Grid.Col, .bool b4.Grid.Hang, iV b4.Grid.Attr, iV b4.Top, iV b4.Code] 40 (0, 0))] :: s7052 :: s37 :: Fs)) (show Meets Try.prog 9 ([.slice A13150 b5.length c13151, .agg #[.slice A16 b1.2.1.Points.length c17, iV b1.2.1.Cursor, iV b1.2.1.Mark], iV b1.2.1.Cursor, iV b1.2.2.2.2] : List Value).toArray J18145 [] _ from hm_) (List.Perm.refl _)
        refine at_xS (fun w hs => ⟨cellsV (k := 2) hs rfl _ 0 (Nat.le_of_ble_eq_true (by kernel_rfl)) rfl, hs.var (k := 2) rfl 1 rfl⟩) ?_
        refine at_x1 0 8 (#[true, true, true, true, true, true, true, true, true]) rfl (by kernel_rfl) (by kernel_rfl) rfl rfl ?_
        refine eff_store 1 rfl rfl rfl rfl rfl rfl (.inl (Nat.le_refl _)) rfl (Nat.le_of_ble_eq_true (by kernel_rfl)) rfl ?_
        refine at_sg (s13152 :: [(g19144, .cells #[iV b6.Line, iV b6.Col] 31 (0, 0))] :: [(g20, .cells #[.slice A16 b1.2.1.Points.length c17, iV b1.2.1.Cursor, iV b1.2.1.Mark] 25 (0, 0))] :: [(g39, .cells #[iV b2.Grid.Rows, iV b2.Grid.Cols, .slice A35 b2.Grid.Cells.length c36, iV b2.Grid.Row, iV b2.Grid.Col, .bool b2.Grid.Hang, iV b2.Grid.Attr, iV b2.Top, iV b2.Code] 40 (0, 0))] :: [(g8040, .cells #[iV b4.Grid.Rows, iV b4.Grid.Cols, .slice A7050 b4.Grid.Cells.length c7051, iV b4.Grid.Row, iV b4.Grid.Col, .bool b4.Grid.Hang, iV b4.Grid.Attr, iV b4.Top, iV b4.Code] 40 (0, 0))] :: s7052 :: s37 :: Fs) ?_
        refine at_xX (by kernel_rfl) ?_
        refine at_xend (by kernel_rfl) ?_
        refine at_thn (at_drop (k := 0) rfl rfl ?_)
        refine at_sg ([(g19144, .cells #[iV b6.Line, iV b6.Col] 31 (0, 0))] :: [(g20, .cells #[.slice A16 b1.2.1.Points.length c17, iV b1.2.1.Cursor, iV b1.2.1.Mark] 25 (0, 0))] :: [(g39, .cells #[iV b2.Grid.Rows, iV b2.Grid.Cols, .slice A35 b2.Grid.Cells.length c36, iV b2.Grid.Row, iV b2.Grid.Col, .bool b2.Grid.Hang, iV b2.Grid.Attr, iV b2.Top, iV b2.Code] 40 (0, 0))] :: [(g8040, .cells #[iV b4.Grid.Rows, iV b4.Grid.Cols, .slice A7050 b4.Grid.Cells.length c7051, iV b4.Grid.Row, iV b4.Grid.Col, .bool b4.Grid.Hang, iV b4.Grid.Attr, iV b4.Top, iV b4.Code] 40 (0, 0))] :: s7052 :: s37 :: Fs) ?_
        refine at_perm ((((((perm_at (k := 1) rfl).trans ((List.Perm.refl _).cons _)).cons _).cons _).cons _).cons _) ?_
        refine at_keep [3, 4, 6, 7, 8, 9, 10] (L2 := [(3, .slice A12 b1.1.length c13), (4, .pointer (some ⟨g20, 0, none⟩)), (6, iV b1.2.2.2.1), (7, iV b1.2.2.2.2), (8, .pointer (some ⟨g39, 0, none⟩)), (9, .pointer (some ⟨g8040, 0, none⟩)), (10, .pointer (some ⟨g19144, 0, none⟩))]) rfl ?_
        exact Jn11144 _ _ _ ⟨_, b6, g19144, rfl, rfl, H, hle, by omega, ho38, ho7053, hr24, hr28⟩
      ·
       refine at_xone (#[true, false, true, true, true, true, false, true, false]) (by kernel_rfl) rfl rfl ?_
       obtain ⟨i_, hi_, hz_, _, _⟩ := info31
       refine eff_alloc rfl rfl hi_ hz_ #[iV 0, iV 0] rfl (fun g19144 => ?_)
       refine at_xS (fun w hs => ⟨cellsV (k := 1) hs rfl _ 0 (Nat.le_of_ble_eq_true (by kernel_rfl)) rfl, hs.var (k := 1) rfl 1 rfl⟩) ?_
       refine at_x1 2 1 (#[true, true, true, true, true, true, false, true, false]) rfl (by kernel_rfl) (by kernel_rfl) rfl rfl ?_
       obtain ⟨b5, H13144, H⟩ := bind_some H
       have hm_ := laws_lwCopy.calls (I0 := I) H13144 hr24
       refine eff_call rfl rfl ok7 rfl rfl (show Meets Try.prog 7 ([.slice A12 b1.1.length c13] : List Value).toArray _ [] _ from hm_) (Mr := ([(g19144, .cells #[iV 0, iV 0] 31 (0, 0))] :: [(g20, .cells #[.slice A16 b1.2.1.Points.length c17, iV b1.2.1.Cursor, iV b1.2.1.Mark] 25 (0, 0))] :: [(g39, .cells #[iV b2.Grid.Rows, iV b2.Grid.Cols, .slice A35 b2.Grid.Cells.length c36, iV b2.Grid.Row, iV b2.Grid.Col, .bool b2.Grid.Hang, iV b2.Grid.Attr, iV b2.Top, iV b2.Code] 40 (0, 0))] :: [(g8040, .cells #[iV b4.Grid.Rows, iV b4.Grid.Cols, .slice A7050 b4.Grid.Cells.length c7051, iV b4.Grid.Row, iV b4.Grid.Col, .bool b4.Grid.Hang, iV b4.Grid.Attr, iV b4.Top, iV b4.Code] 40 (0, 0))] :: s7052 :: s37 :: Fs)) (List.Perm.refl _) (fun v13145 J13146 M13147 hq13148 hJ13149 => ?_)
       replace hle := hle.trans hJ13149
       replace ho38 := ho38.mono hJ13149
       replace ho7053 := ho7053.mono hJ13149
       replace hr24 := hr24.mono hJ13149
       replace hr28 := hr28.mono hJ13149
       obtain ⟨A13150, c13151, s13152, rfl, rfl, ho13153⟩ := hq13148
       refine at_xS (fun w hs => ⟨cellsV (k := 2) hs rfl _ 0 (Nat.le_of_ble_eq_true (by kernel_rfl)) rfl, hs.var (k := 2) rfl 1 rfl⟩) ?_
       refine at_x1 1 6 (#[true, true, true, true, true, true, true, true, false]) rfl (by kernel_rfl) (by kernel_rfl) rfl rfl ?_
       obtain ⟨b6, H18144, H⟩ := bind_some H
       refine eff_read rfl rfl (rv := .agg #[iV b6.Line, iV b6.Col]) (Ms' := (s13152 :: [(g19144, .cells #[iV 0, iV 0] 31 (0, 0))] :: [(g20, .cells #[.slice A16 b1.2.1.Points.length c17, iV b1.2.1.Cursor, iV b1.2.1.Mark] 25 (0, 0))] :: [(g39, .cells #[iV b2.Grid.Rows, iV b2.Grid.Cols, .slice A35 b2.Grid.Cells.length c36, iV b2.Grid.Row, iV b2.Grid.Col, .bool b2.Grid.Hang, iV b2.Grid.Attr, iV b2.Top, iV b2.Code] 40 (0, 0))] :: [(g8040, .cells #[iV b4.Grid.Rows, iV b4.Grid.Cols, .slice A7050 b4.Grid.Cells.length c7051, iV b4.Grid.Row, iV b4.Grid.Col, .bool b4.Grid.Hang, iV b4.Grid.Attr, iV b4.Top, iV b4.Code] 40 (0, 0))] :: s7052 :: s37 :: Fs)) ok9 rfl rfl ?_ ?_
       ·
        refine Reads.lend (k := 0) rfl (fun J18145 hJ18146 hin18147 => ?_)
        have hm_ := impl_ViewSpot.calls (I0 := J18145) H18144 (ho13153.rd hJ18146 hin18147) (hr28.mono hJ18146)
        exact Reads.of_meets (Mr := ([(g19144, .cells #[iV 0, iV 0] 31 (0, 0))] :: [(g20, .cells #[.slice A16 b1.2.1.Points.length c17, iV b1.2.1.Cursor, iV b1.2.1.Mark] 25 (0, 0))] :: [(g39, .cells #[iV b2.Grid.Rows, iV b2.Grid.Cols, .slice A35 b2.Grid.Cells.length c36, iV b2.Grid.Row, iV b2.Grid.Col, .bool b2.Grid.Hang, iV b2.Grid.Attr, iV b2.Top, iV b2.Code] 40 (0, 0))] :: [(g8040, .cells #[iV b4.Grid.Rows, iV b4.Grid.Cols, .slice A7050 b4.Grid.Cells.length c7051, iV b4.Grid.Row, iV b4.Grid.Col, .bool b4.Grid.Hang, iV b4.Grid.Attr, iV b4.Top, iV b4.Code] 40 (0, 0))] :: s7052 :: s37 :: Fs)) (show Meets Try.prog 9 ([.slice A13150 b5.length c13151, .agg #[.slice A16 b1.2.1.Points.length c17, iV b1.2.1.Cursor, iV b1.2.1.Mark], iV b1.2.1.Cursor, iV b1.2.2.2.2] : List Value).toArray J18145 [] _ from hm_) (List.Perm.refl _)
       refine at_xS (fun w hs => ⟨cellsV (k := 2) hs rfl _ 0 (Nat.le_of_ble_eq_true (by kernel_rfl)) rfl, hs.var (k := 2) rfl 1 rfl⟩) ?_
       refine at_x1 0 8 (#[true, true, true, true, true, true, true, true, true]) rfl (by kernel_rfl) (by kernel_rfl) rfl rfl ?_
       refine eff_store 1 rfl rfl rfl rfl rfl rfl (.inl (Nat.le_refl _)) rfl (Nat.le_of_ble_eq_true (by kernel_rfl)) rfl ?_
       refine at_sg (s13152 :: [(g19144, .cells #[iV b6.Line, iV b6.Col] 31 (0, 0))] :: [(g20, .cells #[.slice A16 b1.2.1.Points.length c17, iV b1.2.1.Cursor, iV b1.2.1.Mark] 25 (0, 0))] :: [(g39, .cells #[iV b2.Grid.Rows, iV b2.Grid.Cols, .slice A35 b2.Grid.Cells.length c36, iV b2.Grid.Row, iV b2.Grid.Col, .bool b2.Grid.Hang, iV b2.Grid.Attr, iV b2.Top, iV b2.Code] 40 (0, 0))] :: [(g8040, .cells #[iV b4.Grid.Rows, iV b4.Grid.Cols, .slice A7050 b4.Grid.Cells.length c7051, iV b4.Grid.Row, iV b4.Grid.Col, .bool b4.Grid.Hang, iV b4.Grid.Attr, iV b4.Top, iV b4.Code] 40 (0, 0))] :: s7052 :: s37 :: Fs) ?_
       refine at_xX (by kernel_rfl) ?_
       refine at_xend (by kernel_rfl) ?_
       refine at_thn (at_drop (k := 0) rfl rfl ?_)
       refine at_sg ([(g19144, .cells #[iV b6.Line, iV b6.Col] 31 (0, 0))] :: [(g20, .cells #[.slice A16 b1.2.1.Points.length c17, iV b1.2.1.Cursor, iV b1.2.1.Mark] 25 (0, 0))] :: [(g39, .cells #[iV b2.Grid.Rows, iV b2.Grid.Cols, .slice A35 b2.Grid.Cells.length c36, iV b2.Grid.Row, iV b2.Grid.Col, .bool b2.Grid.Hang, iV b2.Grid.Attr, iV b2.Top, iV b2.Code] 40 (0, 0))] :: [(g8040, .cells #[iV b4.Grid.Rows, iV b4.Grid.Cols, .slice A7050 b4.Grid.Cells.length c7051, iV b4.Grid.Row, iV b4.Grid.Col, .bool b4.Grid.Hang, iV b4.Grid.Attr, iV b4.Top, iV b4.Code] 40 (0, 0))] :: s7052 :: s37 :: Fs) ?_
       refine at_perm ((((((perm_at (k := 1) rfl).trans ((List.Perm.refl _).cons _)).cons _).cons _).cons _).cons _) ?_
       refine at_keep [3, 4, 6, 7, 8, 9, 10] (L2 := [(3, .slice A12 b1.1.length c13), (4, .pointer (some ⟨g20, 0, none⟩)), (6, iV b1.2.2.2.1), (7, iV b1.2.2.2.2), (8, .pointer (some ⟨g39, 0, none⟩)), (9, .pointer (some ⟨g8040, 0, none⟩)), (10, .pointer (some ⟨g19144, 0, none⟩))]) rfl ?_
       exact Jn11144 _ _ _ ⟨_, b6, g19144, rfl, rfl, H, hle, by omega, ho38, ho7053, hr24, hr28⟩
    ·
     rw [if_neg h11143] at H
     refine at_cond_t rfl (bne_iff_ne.2 h11143) ?_
     refine at_seq (at_reg0 [] [2] [(2, .bool true)] ?_)
     refine at_thn (at_ret (at_then_ret ?_))
     obtain rfl := Option.some.inj H
     refine at_drop (k := 0) rfl rfl ?_
     refine at_drop (k := 0) rfl rfl ?_
     refine at_drop (k := 0) rfl rfl ?_
     refine at_drop (k := 0) rfl rfl ?_
     refine at_drop (k := 0) rfl rfl ?_
     exact at_done0 [.bool true] (.inl rfl) [.tmp 2] fun w hs => ⟨_, _, [], rfl, ⟨rfl, rfl⟩, hle, hs⟩
   ·
    rw [if_neg h11142] at H
    refine at_cond_t rfl (bne_iff_ne.2 h11142) ?_
    refine at_seq (at_reg0 [] [2] [(2, .bool false)] ?_)
    refine at_thn (at_ret (at_then_ret ?_))
    obtain rfl := Option.some.inj H
    refine at_drop (k := 0) rfl rfl ?_
    refine at_drop (k := 0) rfl rfl ?_
    refine at_drop (k := 0) rfl rfl ?_
    refine at_drop (k := 0) rfl rfl ?_
    refine at_drop (k := 0) rfl rfl ?_
    exact at_done0 [.bool false] (.inl rfl) [.tmp 2] fun w hs => ⟨_, _, [], rfl, ⟨rfl, rfl⟩, hle, hs⟩
  ·
   intro Jn40
   refine at_x hmo (fun w => CellsAt w ⟨g20, 0, none⟩ [.slice A16 b1.2.1.Points.length c17, iV b1.2.1.Cursor, iV b1.2.1.Mark] 0) [8] ?_
   refine at_xseg [0, 2, 3, 4, 5] 4 (#[true, false, true, true, true, true, false, false, false]) rfl (by kernel_rfl) [(2, .agg #[.slice A16 b1.2.1.Points.length c17, iV b1.2.1.Cursor, iV b1.2.1.Mark])] [3, 4, 6, 7, 8, 28, 30, 31, 32, 33] (L2 := [(3, .slice A12 b1.1.length c13), (4, .pointer (some ⟨g20, 0, none⟩)), (6, iV b1.2.2.2.1), (7, iV b1.2.2.2.2), (8, .pointer (some ⟨g39, 0, none⟩)), (28, .slice A12 b1.1.length c13), (30, .agg #[.slice A16 b1.2.1.Points.length c17, iV b1.2.1.Cursor, iV b1.2.1.Mark]), (31, .bool b1.2.2.1), (32, iV b1.2.2.2.1), (33, iV b1.2.2.2.2)]) (obs := [fun w => CellsAt w ⟨g20, 0, none⟩ [.slice A16 b1.2.1.Points.length c17, iV b1.2.1.Cursor, iV b1.2.1.Mark] 0]) (by kernel_rfl) (by kernel_rfl) (by kernel_rfl) (.inr fun w hs => cellsV (k := 2) hs rfl _ 0 (Nat.le_of_ble_eq_true (by kernel_rfl)) rfl) (fun w hS => hS) (fun w hs => cellsV (k := 2) hs rfl _ 0 (Nat.le_of_ble_eq_true (by kernel_rfl)) rfl) ?_
   refine at_xall (fuel := 3) [1, 7] (by kernel_rfl) (by simp) (List.forall_mem_cons.2 ⟨?_, (List.forall_mem_cons.2 ⟨?_, fun _ h => nomatch h⟩)⟩)
   ·
    refine at_xone (#[true, true, true, true, true, true, false, false, false]) (by kernel_rfl) rfl rfl ?_
    obtain ⟨b3, H2040, H⟩ := bind_some H
    have hm_ := laws_lwCopy.calls (I0 := J31) H2040 hr24
    refine eff_call rfl rfl ok7 rfl rfl (show Meets Try.prog 7 ([.slice A12 b1.1.length c13] : List Value).toArray _ [] _ from hm_) (Mr := ([(g39, .cells #[iV b2.Grid.Rows, iV b2.Grid.Cols, .slice A35 b2.Grid.Cells.length c36, iV b2.Grid.Row, iV b2.Grid.Col, .bool b2.Grid.Hang, iV b2.Grid.Attr, iV b2.Top, iV b2.Code] 40 (0, 0))] :: s37 :: [(g20, .cells #[.slice A16 b1.2.1.Points.length c17, iV b1.2.1.Cursor, iV b1.2.1.Mark] 25 (0, 0))] :: Fs)) (List.Perm.refl _) (fun v2041 J2042 M2043 hq2044 hJ2045 => ?_)
    replace hle := hle.trans hJ2045
    replace ho38 := ho38.mono hJ2045
    replace hr24 := hr24.mono hJ2045
    replace hr28 := hr28.mono hJ2045
    obtain ⟨A2046, c2047, s2048, rfl, rfl, ho2049⟩ := hq2044
    refine at_xS (fun w hs => cellsV (k := 3) hs rfl _ 0 (Nat.le_of_ble_eq_true (by kernel_rfl)) rfl) ?_
    refine at_xall (fuel := 2) [6, 7] (by kernel_rfl) (by simp) (List.forall_mem_cons.2 ⟨?_, (List.forall_mem_cons.2 ⟨?_, fun _ h => nomatch h⟩)⟩)
    ·
     refine at_xone (#[true, true, true, true, true, true, true, false, false]) (by kernel_rfl) rfl rfl ?_
     refine at_freeze (k := 0) rfl rfl (fun J7040 hJ7041 hin7042 => ?_)
     replace hle := hle.trans hJ7041
     replace ho2049 := ho2049.mono hJ7041
     replace ho38 := ho38.mono hJ7041
     replace hr24 := hr24.mono hJ7041
     replace hr28 := hr28.mono hJ7041
     have hr7043 : Rd (Kd.int .i64) J7040 A2046 c2047 b3 := ho2049.rd (ImmLe.refl _) hin7042
     obtain ⟨b4, H7044, H⟩ := bind_some H
     have hm_ := impl_ViewOf.calls (I0 := J7040) H7044 hr7043 hr28
     refine eff_call rfl rfl ok13 rfl rfl (show Meets Try.prog 13 ([.slice A2046 b3.length c2047, .agg #[.slice A16 b1.2.1.Points.length c17, iV b1.2.1.Cursor, iV b1.2.1.Mark], .bool b1.2.2.1, iV b1.2.2.2.1, iV b1.2.2.2.2] : List Value).toArray _ [] _ from hm_) (Mr := ([(g39, .cells #[iV b2.Grid.Rows, iV b2.Grid.Cols, .slice A35 b2.Grid.Cells.length c36, iV b2.Grid.Row, iV b2.Grid.Col, .bool b2.Grid.Hang, iV b2.Grid.Attr, iV b2.Top, iV b2.Code] 40 (0, 0))] :: s37 :: [(g20, .cells #[.slice A16 b1.2.1.Points.length c17, iV b1.2.1.Cursor, iV b1.2.1.Mark] 25 (0, 0))] :: Fs)) (List.Perm.refl _) (fun v7045 J7046 M7047 hq7048 hJ7049 => ?_)
     replace hle := hle.trans hJ7049
     replace ho38 := ho38.mono hJ7049
     replace hr24 := hr24.mono hJ7049
     replace hr28 := hr28.mono hJ7049
     replace hr7043 := hr7043.mono hJ7049
     obtain ⟨A7050, c7051, s7052, rfl, rfl, ho7053⟩ := hq7048
     refine at_xS (fun w hs => cellsV (k := 3) hs rfl _ 0 (Nat.le_of_ble_eq_true (by kernel_rfl)) rfl) ?_
     refine at_x1 1 7 (#[true, true, true, true, true, true, true, true, false]) rfl (by kernel_rfl) (by kernel_rfl) rfl rfl ?_
     obtain ⟨i_, hi_, hz_, _, _⟩ := info40
     refine eff_alloc rfl rfl hi_ hz_ #[iV 0, iV 0, .slice none ([] : List T_impl_Cell).length 0, iV 0, iV 0, .bool false, iV 0, iV 0, iV 0] rfl (fun g8040 => ?_)
     refine at_xS (fun w hs => cellsV (k := 4) hs rfl _ 0 (Nat.le_of_ble_eq_true (by kernel_rfl)) rfl) ?_
     refine at_x1 0 8 (#[true, true, true, true, true, true, true, true, true]) rfl (by kernel_rfl) (by kernel_rfl) rfl rfl ?_
     refine eff_store 0 rfl rfl rfl rfl rfl rfl (.inl (Nat.le_refl _)) rfl (Nat.le_of_ble_eq_true (by kernel_rfl)) rfl ?_
     refine at_sg ([(g8040, .cells #[iV b4.Grid.Rows, iV b4.Grid.Cols, .slice A7050 b4.Grid.Cells.length c7051, iV b4.Grid.Row, iV b4.Grid.Col, .bool b4.Grid.Hang, iV b4.Grid.Attr, iV b4.Top, iV b4.Code] 40 (0, 0))] :: s7052 :: [(g39, .cells #[iV b2.Grid.Rows, iV b2.Grid.Cols, .slice A35 b2.Grid.Cells.length c36, iV b2.Grid.Row, iV b2.Grid.Col, .bool b2.Grid.Hang, iV b2.Grid.Attr, iV b2.Top, iV b2.Code] 40 (0, 0))] :: s37 :: [(g20, .cells #[.slice A16 b1.2.1.Points.length c17, iV b1.2.1.Cursor, iV b1.2.1.Mark] 25 (0, 0))] :: Fs) ?_
     refine at_xX (by kernel_rfl) ?_
     refine at_xend (by kernel_rfl) ?_
     refine at_thn (at_perm ((perm_at (k := 4) rfl).trans (((perm_at (k := 2) rfl).trans ((List.Perm.refl _).cons _)).cons _)) ?_)
     refine at_keep [3, 4, 6, 7, 8, 9] (L2 := [(3, .slice A12 b1.1.length c13), (4, .pointer (some ⟨g20, 0, none⟩)), (6, iV b1.2.2.2.1), (7, iV b1.2.2.2.2), (8, .pointer (some ⟨g39, 0, none⟩)), (9, .pointer (some ⟨g8040, 0, none⟩))]) rfl ?_
     exact Jn40 _ _ _ ⟨_, A7050, b4, c7051, g8040, s7052, rfl, rfl, H, hle, by omega, ho38, ho7053, hr24, hr28⟩
    ·
     refine at_xone (#[true, true, true, true, true, true, false, true, false]) (by kernel_rfl) rfl rfl ?_
     obtain ⟨i_, hi_, hz_, _, _⟩ := info40
     refine eff_alloc rfl rfl hi_ hz_ #[iV 0, iV 0, .slice none ([] : List T_impl_Cell).length 0, iV 0, iV 0, .bool false, iV 0, iV 0, iV 0] rfl (fun g8040 => ?_)
     refine at_xS (fun w hs => cellsV (k := 4) hs rfl _ 0 (Nat.le_of_ble_eq_true (by kernel_rfl)) rfl) ?_
     refine at_x1 1 6 (#[true, true, true, true, true, true, true, true, false]) rfl (by kernel_rfl) (by kernel_rfl) rfl rfl ?_
     refine at_freeze (k := 1) rfl rfl (fun J7040 hJ7041 hin7042 => ?_)
     replace hle := hle.trans hJ7041
     replace ho2049 := ho2049.mono hJ7041
     replace ho38 := ho38.mono hJ7041
     replace hr24 := hr24.mono hJ7041
     replace hr28 := hr28.mono hJ7041
     have hr7043 : Rd (Kd.int .i64) J7040 A2046 c2047 b3 := ho2049.rd (ImmLe.refl _) hin7042
     obtain ⟨b4, H7044, H⟩ := bind_some H
     have hm_ := impl_ViewOf.calls (I0 := J7040) H7044 hr7043 hr28
     refine eff_call rfl rfl ok13 rfl rfl (show Meets Try.prog 13 ([.slice A2046 b3.length c2047, .agg #[.slice A16 b1.2.1.Points.length c17, iV b1.2.1.Cursor, iV b1.2.1.Mark], .bool b1.2.2.1, iV b1.2.2.2.1, iV b1.2.2.2.2] : List Value).toArray _ [] _ from hm_) (Mr := ([(g8040, .cells #[iV 0, iV 0, .slice none ([] : List T_impl_Cell).length 0, iV 0, iV 0, .bool false, iV 0, iV 0, iV 0] 40 (0, 0))] :: [(g39, .cells #[iV b2.Grid.Rows, iV b2.Grid.Cols, .slice A35 b2.Grid.Cells.length c36, iV b2.Grid.Row, iV b2.Grid.Col, .bool b2.Grid.Hang, iV b2.Grid.Attr, iV b2.Top, iV b2.Code] 40 (0, 0))] :: s37 :: [(g20, .cells #[.slice A16 b1.2.1.Points.length c17, iV b1.2.1.Cursor, iV b1.2.1.Mark] 25 (0, 0))] :: Fs)) (List.Perm.refl _) (fun v7045 J7046 M7047 hq7048 hJ7049 => ?_)
     replace hle := hle.trans hJ7049
     replace ho38 := ho38.mono hJ7049
     replace hr24 := hr24.mono hJ7049
     replace hr28 := hr28.mono hJ7049
     replace hr7043 := hr7043.mono hJ7049
     obtain ⟨A7050, c7051, s7052, rfl, rfl, ho7053⟩ := hq7048
     refine at_xS (fun w hs => cellsV (k := 4) hs rfl _ 0 (Nat.le_of_ble_eq_true (by kernel_rfl)) rfl) ?_
     refine at_x1 0 8 (#[true, true, true, true, true, true, true, true, true]) rfl (by kernel_rfl) (by kernel_rfl) rfl rfl ?_
     refine eff_store 1 rfl rfl rfl rfl rfl rfl (.inl (Nat.le_refl _)) rfl (Nat.le_of_ble_eq_true (by kernel_rfl)) rfl ?_
     refine at_sg (s7052 :: [(g8040, .cells #[iV b4.Grid.Rows, iV b4.Grid.Cols, .slice A7050 b4.Grid.Cells.length c7051, iV b4.Grid.Row, iV b4.Grid.Col, .bool b4.Grid.Hang, iV b4.Grid.Attr, iV b4.Top, iV b4.Code] 40 (0, 0))] :: [(g39, .cells #[iV b2.Grid.Rows, iV b2.Grid.Cols, .slice A35 b2.Grid.Cells.length c36, iV b2.Grid.Row, iV b2.Grid.Col, .bool b2.Grid.Hang, iV b2.Grid.Attr, iV b2.Top, iV b2.Code] 40 (0, 0))] :: s37 :: [(g20, .cells #[.slice A16 b1.2.1.Points.length c17, iV b1.2.1.Cursor, iV b1.2.1.Mark] 25 (0, 0))] :: Fs) ?_
     refine at_xX (by kernel_rfl) ?_
     refine at_xend (by kernel_rfl) ?_
     refine at_thn (at_perm ((perm_at (k := 4) rfl).trans (((perm_at (k := 2) rfl).trans (((perm_at (k := 1) rfl).trans ((List.Perm.refl _).cons _)).cons _)).cons _)) ?_)
     refine at_keep [3, 4, 6, 7, 8, 9] (L2 := [(3, .slice A12 b1.1.length c13), (4, .pointer (some ⟨g20, 0, none⟩)), (6, iV b1.2.2.2.1), (7, iV b1.2.2.2.2), (8, .pointer (some ⟨g39, 0, none⟩)), (9, .pointer (some ⟨g8040, 0, none⟩))]) rfl ?_
     exact Jn40 _ _ _ ⟨_, A7050, b4, c7051, g8040, s7052, rfl, rfl, H, hle, by omega, ho38, ho7053, hr24, hr28⟩
   ·
    refine at_xone (#[true, false, true, true, true, true, false, true, false]) (by kernel_rfl) rfl rfl ?_
    obtain ⟨i_, hi_, hz_, _, _⟩ := info40
    refine eff_alloc rfl rfl hi_ hz_ #[iV 0, iV 0, .slice none ([] : List T_impl_Cell).length 0, iV 0, iV 0, .bool false, iV 0, iV 0, iV 0] rfl (fun g8040 => ?_)
    refine at_xS (fun w hs => cellsV (k := 3) hs rfl _ 0 (Nat.le_of_ble_eq_true (by kernel_rfl)) rfl) ?_
    refine at_x1 2 1 (#[true, true, true, true, true, true, false, true, false]) rfl (by kernel_rfl) (by kernel_rfl) rfl rfl ?_
    obtain ⟨b3, H2040, H⟩ := bind_some H
    have hm_ := laws_lwCopy.calls (I0 := J31) H2040 hr24
    refine eff_call rfl rfl ok7 rfl rfl (show Meets Try.prog 7 ([.slice A12 b1.1.length c13] : List Value).toArray _ [] _ from hm_) (Mr := ([(g8040, .cells #[iV 0, iV 0, .slice none ([] : List T_impl_Cell).length 0, iV 0, iV 0, .bool false, iV 0, iV 0, iV 0] 40 (0, 0))] :: [(g39, .cells #[iV b2.Grid.Rows, iV b2.Grid.Cols, .slice A35 b2.Grid.Cells.length c36, iV b2.Grid.Row, iV b2.Grid.Col, .bool b2.Grid.Hang, iV b2.Grid.Attr, iV b2.Top, iV b2.Code] 40 (0, 0))] :: s37 :: [(g20, .cells #[.slice A16 b1.2.1.Points.length c17, iV b1.2.1.Cursor, iV b1.2.1.Mark] 25 (0, 0))] :: Fs)) (List.Perm.refl _) (fun v2041 J2042 M2043 hq2044 hJ2045 => ?_)
    replace hle := hle.trans hJ2045
    replace ho38 := ho38.mono hJ2045
    replace hr24 := hr24.mono hJ2045
    replace hr28 := hr28.mono hJ2045
    obtain ⟨A2046, c2047, s2048, rfl, rfl, ho2049⟩ := hq2044
    refine at_xS (fun w hs => cellsV (k := 4) hs rfl _ 0 (Nat.le_of_ble_eq_true (by kernel_rfl)) rfl) ?_
    refine at_x1 1 6 (#[true, true, true, true, true, true, true, true, false]) rfl (by kernel_rfl) (by kernel_rfl) rfl rfl ?_
    refine at_freeze (k := 0) rfl rfl (fun J7040 hJ7041 hin7042 => ?_)
    replace hle := hle.trans hJ7041
    replace ho2049 := ho2049.mono hJ7041
    replace ho38 := ho38.mono hJ7041
    replace hr24 := hr24.mono hJ7041
    replace hr28 := hr28.mono hJ7041
    have hr7043 : Rd (Kd.int .i64) J7040 A2046 c2047 b3 := ho2049.rd (ImmLe.refl _) hin7042
    obtain ⟨b4, H7044, H⟩ := bind_some H
    have hm_ := impl_ViewOf.calls (I0 := J7040) H7044 hr7043 hr28
    refine eff_call rfl rfl ok13 rfl rfl (show Meets Try.prog 13 ([.slice A2046 b3.length c2047, .agg #[.slice A16 b1.2.1.Points.length c17, iV b1.2.1.Cursor, iV b1.2.1.Mark], .bool b1.2.2.1, iV b1.2.2.2.1, iV b1.2.2.2.2] : List Value).toArray _ [] _ from hm_) (Mr := ([(g8040, .cells #[iV 0, iV 0, .slice none ([] : List T_impl_Cell).length 0, iV 0, iV 0, .bool false, iV 0, iV 0, iV 0] 40 (0, 0))] :: [(g39, .cells #[iV b2.Grid.Rows, iV b2.Grid.Cols, .slice A35 b2.Grid.Cells.length c36, iV b2.Grid.Row, iV b2.Grid.Col, .bool b2.Grid.Hang, iV b2.Grid.Attr, iV b2.Top, iV b2.Code] 40 (0, 0))] :: s37 :: [(g20, .cells #[.slice A16 b1.2.1.Points.length c17, iV b1.2.1.Cursor, iV b1.2.1.Mark] 25 (0, 0))] :: Fs)) (List.Perm.refl _) (fun v7045 J7046 M7047 hq7048 hJ7049 => ?_)
    replace hle := hle.trans hJ7049
    replace ho38 := ho38.mono hJ7049
    replace hr24 := hr24.mono hJ7049
    replace hr28 := hr28.mono hJ7049
    replace hr7043 := hr7043.mono hJ7049
    obtain ⟨A7050, c7051, s7052, rfl, rfl, ho7053⟩ := hq7048
    refine at_xS (fun w hs => cellsV (k := 4) hs rfl _ 0 (Nat.le_of_ble_eq_true (by kernel_rfl)) rfl) ?_
    refine at_x1 0 8 (#[true, true, true, true, true, true, true, true, true]) rfl (by kernel_rfl) (by kernel_rfl) rfl rfl ?_
    refine eff_store 1 rfl rfl rfl rfl rfl rfl (.inl (Nat.le_refl _)) rfl (Nat.le_of_ble_eq_true (by kernel_rfl)) rfl ?_
    refine at_sg (s7052 :: [(g8040, .cells #[iV b4.Grid.Rows, iV b4.Grid.Cols, .slice A7050 b4.Grid.Cells.length c7051, iV b4.Grid.Row, iV b4.Grid.Col, .bool b4.Grid.Hang, iV b4.Grid.Attr, iV b4.Top, iV b4.Code] 40 (0, 0))] :: [(g39, .cells #[iV b2.Grid.Rows, iV b2.Grid.Cols, .slice A35 b2.Grid.Cells.length c36, iV b2.Grid.Row, iV b2.Grid.Col, .bool b2.Grid.Hang, iV b2.Grid.Attr, iV b2.Top, iV b2.Code] 40 (0, 0))] :: s37 :: [(g20, .cells #[.slice A16 b1.2.1.Points.length c17, iV b1.2.1.Cursor, iV b1.2.1.Mark] 25 (0, 0))] :: Fs) ?_
    refine at_xX (by kernel_rfl) ?_
    refine at_xend (by kernel_rfl) ?_
    refine at_thn (at_perm ((perm_at (k := 4) rfl).trans (((perm_at (k := 2) rfl).trans (((perm_at (k := 1) rfl).trans ((List.Perm.refl _).cons _)).cons _)).cons _)) ?_)
    refine at_keep [3, 4, 6, 7, 8, 9] (L2 := [(3, .slice A12 b1.1.length c13), (4, .pointer (some ⟨g20, 0, none⟩)), (6, iV b1.2.2.2.1), (7, iV b1.2.2.2.2), (8, .pointer (some ⟨g39, 0, none⟩)), (9, .pointer (some ⟨g8040, 0, none⟩))]) rfl ?_
    exact Jn40 _ _ _ ⟨_, A7050, b4, c7051, g8040, s7052, rfl, rfl, H, hle, by omega, ho38, ho7053, hr24, hr28⟩
end Go.Proofs.Ytnhnipdanpcbeaa
