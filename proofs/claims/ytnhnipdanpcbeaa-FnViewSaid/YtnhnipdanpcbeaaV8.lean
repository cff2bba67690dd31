import Derived.Test.YtnhnipdanpcbeaaV7
namespace Go.Proofs.Ytnhnipdanpcbeaa
open Go Eng
set_option linter.unusedVariables false
set_option linter.unusedSimpArgs false
/-! ### loop.example/g00146/spec.ViewOf: function 12 -/
mutual
def spec_ViewOf_j2 : Nat → Bool → (List Int) → T_impl_Buf → Bool → Int → Int → Option T_impl_View
  | 0, _, _, _, _, _, _ => none
  | k + 1, x156, p21, p25, p29, p30, p31 => if x156 = true then (some (⟨(⟨0, 0, ([] : List T_impl_Cell), 0, 0, false, 0⟩ : T_impl_Grid), 0, 1⟩ : T_impl_View)) else (spec_ViewOf_j0 k p21 p25 p29 p30 p31)
def spec_ViewOf_j0 : Nat → (List Int) → T_impl_Buf → Bool → Int → Int → Option T_impl_View
  | 0, _, _, _, _, _ => none
  | k + 1, p21, p25, p29, p30, p31 => (spec_l09Lay k p21 p25 p29 p31).bind fun b5 => (if 0 ≤ p25.Cursor then (if p25.Cursor < (b5.2.length : Int) then ((spec_GridNew p30 p31).bind fun b6 => ((spec_l01Max 0 (IntKind.i64.wrap ((IntKind.i64.wrap (((rdA z_impl_Spot b5.2 p25.Cursor).Line) - p30)) + 1))).bind fun b7 => (spec_ViewOf_j1 k b5 b6 b7 p25 p30 p31))) else none) else none)
def spec_ViewOf_j1 : Nat → (T_spec_l09Pen × (List T_impl_Spot)) → T_impl_Grid → Int → T_impl_Buf → Int → Int → Option T_impl_View
  | 0, _, _, _, _, _, _ => none
  | k + 1, b5, b6, b7, p25, p30, p31 => spec_ViewOf_l0 k 0 b6.Cells b5 b6 b7 p25 p30 p31
def spec_ViewOf_l0 : Nat → Int → (List T_impl_Cell) → (T_spec_l09Pen × (List T_impl_Spot)) → T_impl_Grid → Int → T_impl_Buf → Int → Int → Option T_impl_View
  | 0, _, _, _, _, _, _, _, _ => none
  | k + 1, x14390, x14391, b5, b6, b7, p25, p30, p31 => if x14390 < p30 then (if (IntKind.i64.wrap (b7 + x14390)) < (b5.1.rows.length : Int) then (spec_ViewOf_l1 k 0 x14391 b5 b6 b7 p25 p30 p31 x14390) else (some (⟨(⟨b6.Rows, b6.Cols, x14391, IntKind.i64.wrap (((rdA z_impl_Spot b5.2 p25.Cursor).Line) - b7), (rdA z_impl_Spot b5.2 p25.Cursor).Col, b6.Hang, b6.Attr⟩ : T_impl_Grid), b7, 0⟩ : T_impl_View))) else (some (⟨(⟨b6.Rows, b6.Cols, x14391, IntKind.i64.wrap (((rdA z_impl_Spot b5.2 p25.Cursor).Line) - b7), (rdA z_impl_Spot b5.2 p25.Cursor).Col, b6.Hang, b6.Attr⟩ : T_impl_Grid), b7, 0⟩ : T_impl_View))
def spec_ViewOf_l1 : Nat → Int → (List T_impl_Cell) → (T_spec_l09Pen × (List T_impl_Spot)) → T_impl_Grid → Int → T_impl_Buf → Int → Int → Int → Option T_impl_View
  | 0, _, _, _, _, _, _, _, _, _ => none
  | k + 1, x14401, x14402, b5, b6, b7, p25, p30, p31, x14390 => if x14401 < p31 then (if 0 ≤ (IntKind.i64.wrap (b7 + x14390)) then (if 0 ≤ x14401 then (if x14401 < ((rdA [] b5.1.rows (IntKind.i64.wrap (b7 + x14390))).length : Int) then (if 0 ≤ (IntKind.i64.wrap ((IntKind.i64.wrap (x14390 * p31)) + x14401)) then (if (IntKind.i64.wrap ((IntKind.i64.wrap (x14390 * p31)) + x14401)) < (x14402.length : Int) then (spec_ViewOf_l1 k (IntKind.i64.wrap (x14401 + 1)) (x14402.set (IntKind.i64.wrap ((IntKind.i64.wrap (x14390 * p31)) + x14401)).toNat (rdA z_impl_Cell (rdA [] b5.1.rows (IntKind.i64.wrap (b7 + x14390))) x14401)) b5 b6 b7 p25 p30 p31 x14390) else none) else none) else none) else none) else none) else (spec_ViewOf_l0 k (IntKind.i64.wrap (x14390 + 1)) x14402 b5 b6 b7 p25 p30 p31)
end
def spec_ViewOf (k : Nat) (p21 : List Int) (p25 : T_impl_Buf) (p29 : Bool) (p30 : Int) (p31 : Int) : Option T_impl_View := if (p21.length : Int) > 400 then (some (⟨(⟨0, 0, ([] : List T_impl_Cell), 0, 0, false, 0⟩ : T_impl_Grid), 0, 2⟩ : T_impl_View)) else ((spec_PointsRight k p21).bind fun b2 => (if b2 = true then ((spec_BufRight k p25).bind fun b3 => (if b3 = true then ((spec_l08Size p30 p31).bind fun b4 => (spec_ViewOf_j2 k (!b4) p21 p25 p29 p30 p31)) else (spec_ViewOf_j2 k true p21 p25 p29 p30 p31))) else (spec_ViewOf_j2 k true p21 p25 p29 p30 p31)))
set_option maxHeartbeats 4000000 in
set_option maxRecDepth 100000 in
theorem spec_ViewOf.calls {k : Nat} {p21 : List Int} {p25 : T_impl_Buf} {p29 : Bool} {p30 : Int} {p31 : Int} {r : T_impl_View} {I0 : Imm} {A22 : Option Addr} {c23 : Nat} {A26 : Option Addr} {c27 : Nat} (H : spec_ViewOf k p21 p25 p29 p30 p31 = some r) (hr24 : Rd (Kd.int .i64) I0 A22 c23 p21) (hr28 : Rd (Kd.int .i64) I0 A26 c27 p25.Points) :
    Meets Try.prog 12 ([.slice A22 p21.length c23, .agg #[.slice A26 p25.Points.length c27, .int .i64 p25.Cursor, .int .i64 p25.Mark], .bool p29, .int .i64 p30, .int .i64 p31] : List Value).toArray I0 [] (fun v J M => ∃ (A_1 : Option Addr) (c_2 : Nat) (s_3 : Seg), v = .agg #[.int .i64 r.Grid.Rows, .int .i64 r.Grid.Cols, .slice A_1 r.Grid.Cells.length c_2, .int .i64 r.Grid.Row, .int .i64 r.Grid.Col, .bool r.Grid.Hang, .int .i64 r.Grid.Attr, .int .i64 r.Top, .int .i64 r.Code] ∧ M = [s_3] ∧ Own k_impl_Cell 71 J A_1 c_2 r.Grid.Cells s_3) := by
 have hle := ImmLe.refl I0
 unfold spec_ViewOf at H
 refine fn_intro (fn := Try.f12) 115 Try.func12 rfl rfl rfl (fun E Fs => ?_)
 refine at_seq (at_ops [0, 1] rfl ?_)
 refine at_eff rfl rfl ?_
 refine eff_box rfl rfl rfl #[.slice A26 p25.Points.length c27, iV p25.Cursor, iV p25.Mark] rfl (fun g32 => ?_)
 refine at_eff rfl rfl ?_
 obtain ⟨i_, hi_, hz_, _, _⟩ := info40
 refine eff_alloc rfl rfl hi_ hz_ #[iV 0, iV 0, .slice none ([] : List T_impl_Cell).length 0, iV 0, iV 0, .bool false, iV 0, iV 0, iV 0] rfl (fun g33 => ?_)
 refine at_end (at_thn (at_seq (at_seq (at_reg0 [] [0, 2, 3, 4, 6, 10, 19] [(0, .slice A22 p21.length c23), (2, .bool p29), (3, iV p30), (4, iV p31), (6, .pointer (some ⟨g32, 0, none⟩)), (10, .pointer (some ⟨g33, 0, none⟩)), (19, .bool (decide ((p21.length : Int) > 400)))] ?_))))
 refine at_thn ?_
 by_cases h34 : (p21.length : Int) > 400
 ·
  rw [if_pos h34] at H
  refine at_cond_t rfl (decide_eq_true h34) ?_
  refine at_seq (at_ops [0, 1] rfl ?_)
  refine at_seg0 [0] [1] [] [10, 20] [(10, .pointer (some ⟨g33, 0, none⟩)), (20, .agg #[iV 0, iV 0, .slice none ([] : List T_impl_Cell).length 0, iV 0, iV 0, .bool false, iV 0, iV 0, iV 2])] ?_
  refine at_eff rfl rfl ?_
  refine eff_store 0 rfl rfl rfl rfl rfl rfl (.inl (Nat.le_refl _)) rfl (Nat.le_of_ble_eq_true (by kernel_rfl)) rfl ?_
  refine at_sg ([(g33, .cells #[iV 0, iV 0, .slice none ([] : List T_impl_Cell).length 0, iV 0, iV 0, .bool false, iV 0, iV 0, iV 2] 40 (0, 0))] :: [(g32, .cells #[.slice A26 p25.Points.length c27, iV p25.Cursor, iV p25.Mark] 25 (0, 0))] :: Fs) ?_
  refine at_end (at_thn (at_ret (at_then_ret (at_nilseg ?_))))
  have ho35 := Own.nil k_impl_Cell 71 I0
  obtain rfl := Option.some.inj H
  refine at_drop (k := 2) rfl rfl ?_
  refine at_done (vs := [.agg #[iV 0, iV 0, .slice none ([] : List T_impl_Cell).length 0, iV 0, iV 0, .bool false, iV 0, iV 0, iV 2]]) (obs := [fun w => CellsAt w ⟨g33, 0, none⟩ [iV 0, iV 0, .slice none ([] : List T_impl_Cell).length 0, iV 0, iV 0, .bool false, iV 0, iV 0, iV 2] 0]) (.inl rfl) [.cell 10 40] [(10, .agg #[iV 0, iV 0, .slice none ([] : List T_impl_Cell).length 0, iV 0, iV 0, .bool false, iV 0, iV 0, iV 2])] rfl (by kernel_rfl) (fun w hs => cellsV (k := 1) hs rfl _ 0 (Nat.le_of_ble_eq_true (by kernel_rfl)) rfl) (fun w hs => ⟨_, _, [[]], rfl, ⟨none, 0, [], rfl, rfl, ho35⟩, hle, (hs.tail (perm_at (k := 1) rfl))⟩)
 ·
  rw [if_neg h34] at H
  refine at_cond_f rfl (decide_eq_false h34) ?_
  refine at_skip (at_thn (at_join (fun L I Ms => ∃ (k261 : Nat), L = [(0, .slice A22 p21.length c23), (2, .bool p29), (3, iV p30), (4, iV p31), (6, .pointer (some ⟨g32, 0, none⟩)), (10, .pointer (some ⟨g33, 0, none⟩))] ∧ Ms = ([(g32, .cells #[.slice A26 p25.Points.length c27, iV p25.Cursor, iV p25.Mark] 25 (0, 0))] :: [(g33, .cells #[iV 0, iV 0, .slice none ([] : List T_impl_Cell).length 0, iV 0, iV 0, .bool false, iV 0, iV 0, iV 0] 40 (0, 0))] :: Fs) ∧ spec_ViewOf_j0 k261 p21 p25 p29 p30 p31 = some r ∧ ImmLe I0 I ∧ k261 ≤ k ∧ Rd (Kd.int .i64) I A22 c23 p21 ∧ Rd (Kd.int .i64) I A26 c27 p25.Points) ?_ ?_))
  ·
   clear H hle hr24 hr28
   intro L I Ms h_; obtain ⟨k261, hL_, hM_, H, hle, hk262, hr24, hr28⟩ := h_; rw [hL_, hM_]; clear hL_ hM_ L Ms
   rcases k261 with _ | k261
   · exact (no_none H).elim
   rw [spec_ViewOf_j0] at H
   refine at_seq (at_ops [0, 1, 2, 3, 4, 5, 6, 7, 8, 9] rfl ?_)
   refine at_seg1 [0, 1, 2, 3] [4, 5, 6, 7, 8, 9] [(1, .agg #[.slice A26 p25.Points.length c27, iV p25.Cursor, iV p25.Mark])] [3, 4, 6, 10, 37, 38, 39, 40] [(3, iV p30), (4, iV p31), (6, .pointer (some ⟨g32, 0, none⟩)), (10, .pointer (some ⟨g33, 0, none⟩)), (37, .slice A22 p21.length c23), (38, .agg #[.slice A26 p25.Points.length c27, iV p25.Cursor, iV p25.Mark]), (39, .bool p29), (40, iV p31)] [fun w => CellsAt w ⟨g32, 0, none⟩ [.slice A26 p25.Points.length c27, iV p25.Cursor, iV p25.Mark] 0] (fun w hs => cellsV (k := 0) hs rfl _ 0 (Nat.le_of_ble_eq_true (by kernel_rfl)) rfl) ?_
   refine at_eff rfl rfl ?_
   obtain ⟨b5, H263, H⟩ := bind_some H
   have hm_ := spec_l09Lay.calls (I0 := I) H263 hr24 hr28
   refine eff_call rfl rfl ok27 rfl rfl (show Meets Try.prog 27 ([.slice A22 p21.length c23, .agg #[.slice A26 p25.Points.length c27, iV p25.Cursor, iV p25.Mark], .bool p29, iV p31] : List Value).toArray _ [] _ from hm_) (Mr := ([(g32, .cells #[.slice A26 p25.Points.length c27, iV p25.Cursor, iV p25.Mark] 25 (0, 0))] :: [(g33, .cells #[iV 0, iV 0, .slice none ([] : List T_impl_Cell).length 0, iV 0, iV 0, .bool false, iV 0, iV 0, iV 0] 40 (0, 0))] :: Fs)) (List.Perm.refl _) (fun v264 J265 M266 hq267 hJ268 => ?_)
   replace hle := hle.trans hJ268
   replace hr24 := hr24.mono hJ268
   replace hr28 := hr28.mono hJ268
   obtain ⟨g269, A271, c272, s270, A274, c275, s276, rfl, rfl, ho273, ho277⟩ := hq267
   refine at_seg0 [5, 6, 7, 8, 9] [] [] [3, 4, 6, 10, 11, 12] [(3, iV p30), (4, iV p31), (6, .pointer (some ⟨g32, 0, none⟩)), (10, .pointer (some ⟨g33, 0, none⟩)), (11, .pointer (some ⟨g269, 0, none⟩)), (12, .slice A274 b5.2.length c275)] ?_
   refine at_end (at_thn (at_seq (at_ops [0, 1, 2, 3, 4, 5, 6] rfl ?_)))
   obtain ⟨h278, H⟩ := ite_some H
   obtain ⟨h279, H⟩ := ite_some H
   obtain ⟨cs281, hz282, hc280⟩ := ho277.elem z_impl_Spot p25.Cursor h278 h279
   obtain rfl := hz282
   refine at_seg1 [0, 1, 2, 3, 4] [5, 6] [(2, iV p25.Cursor), (4, .agg #[iV ((rdA z_impl_Spot b5.2 p25.Cursor).Line), iV ((rdA z_impl_Spot b5.2 p25.Cursor).Col)])] [3, 4, 10, 11, 48] [(3, iV p30), (4, iV p31), (10, .pointer (some ⟨g33, 0, none⟩)), (11, .pointer (some ⟨g269, 0, none⟩)), (48, .agg #[iV ((rdA z_impl_Spot b5.2 p25.Cursor).Line), iV ((rdA z_impl_Spot b5.2 p25.Cursor).Col)])] [fun w => w.cell? ⟨g32, 1, none⟩ = some (iV p25.Cursor), fun _ => A274.isSome = true ∧ 0 ≤ p25.Cursor ∧ p25.Cursor < ((b5.2.length : Nat) : Int), fun w => CellsAt w ((A274.getD ad0).add (p25.Cursor.toNat * 2)) [iV ((rdA z_impl_Spot b5.2 p25.Cursor).Line), iV ((rdA z_impl_Spot b5.2 p25.Cursor).Col)] 0] (fun w hs => ⟨hs.var (k := 3) rfl 1 rfl, ⟨ho277.ne p25.Cursor h278 h279, h278, h279⟩, ⟨hc280 0 _ rfl hs (k := 2) rfl, hc280 1 _ rfl hs (k := 2) rfl, trivial⟩⟩) ?_
   refine at_eff rfl rfl ?_
   obtain ⟨i_, hi_, hz_, _, _⟩ := info31
   refine eff_alloc rfl rfl hi_ hz_ #[iV 0, iV 0] rfl (fun g283 => ?_)
   refine at_eff rfl rfl ?_
   refine eff_store 0 rfl rfl rfl rfl rfl rfl (.inl (Nat.le_refl _)) rfl (Nat.le_of_ble_eq_true (by kernel_rfl)) rfl ?_
   refine at_sg ([(g283, .cells #[iV ((rdA z_impl_Spot b5.2 p25.Cursor).Line), iV ((rdA z_impl_Spot b5.2 p25.Cursor).Col)] 31 (0, 0))] :: [(g269, .cells #[iV b5.1.cols, .slice A271 b5.1.rows.length c272, iV b5.1.col] 69 (0, 0))] :: s270 :: s276 :: [(g32, .cells #[.slice A26 p25.Points.length c27, iV p25.Cursor, iV p25.Mark] 25 (0, 0))] :: [(g33, .cells #[iV 0, iV 0, .slice none ([] : List T_impl_Cell).length 0, iV 0, iV 0, .bool false, iV 0, iV 0, iV 0] 40 (0, 0))] :: Fs) ?_
   refine at_end (at_thn (at_join (fun L I Ms => ∃ (k14384 : Nat), ∃ (A3290 : Option Addr) (b6 : T_impl_Grid) (b7 : Int) (c3291 : Nat) (g11284 : Nat) (s3292 : Seg), L = [(3, iV p30), (4, iV p31), (10, .pointer (some ⟨g33, 0, none⟩)), (11, .pointer (some ⟨g269, 0, none⟩)), (13, .pointer (some ⟨g283, 0, none⟩)), (14, .pointer (some ⟨g11284, 0, none⟩))] ∧ Ms = ([(g11284, .cells #[iV b6.Rows, iV b6.Cols, .slice A3290 b6.Cells.length c3291, iV b6.Row, iV b6.Col, .bool b6.Hang, iV b6.Attr, iV b7, iV 0] 40 (0, 0))] :: [(g269, .cells #[iV b5.1.cols, .slice A271 b5.1.rows.length c272, iV b5.1.col] 69 (0, 0))] :: [(g283, .cells #[iV ((rdA z_impl_Spot b5.2 p25.Cursor).Line), iV ((rdA z_impl_Spot b5.2 p25.Cursor).Col)] 31 (0, 0))] :: [(g33, .cells #[iV 0, iV 0, .slice none ([] : List T_impl_Cell).length 0, iV 0, iV 0, .bool false, iV 0, iV 0, iV 0] 40 (0, 0))] :: s3292 :: s270 :: Fs) ∧ spec_ViewOf_j1 k14384 b5 b6 b7 p25 p30 p31 = some r ∧ ImmLe I0 I ∧ k14384 ≤ k261 ∧ DOwn (DK.sl k_impl_Cell 71) 36 I A271 c272 b5.1.rows s270 ∧ DOwn d_impl_Cell 71 I A3290 c3291 b6.Cells s3292) ?_ ?_))
   ·
    clear H hle ho273 hr28
    intro L I Ms h_; obtain ⟨k14384, A3290, b6, b7, c3291, g11284, s3292, hL_, hM_, H, hle, hk14385, ho273, ho3293⟩ := h_; rw [hL_, hM_]; clear hL_ hM_ L Ms
    rcases k14384 with _ | k14384
    · exact (no_none H).elim
    rw [spec_ViewOf_j1] at H
    refine at_seq (at_ops [0, 1, 2, 3, 4, 5, 6, 7] rfl ?_)
    refine at_seg1 [0, 1, 2, 3, 4, 5, 6] [7] [(1, iV ((rdA z_impl_Spot b5.2 p25.Cursor).Line)), (3, iV b7)] [3, 4, 10, 11, 13, 14, 63, 65] [(3, iV p30), (4, iV p31), (10, .pointer (some ⟨g33, 0, none⟩)), (11, .pointer (some ⟨g269, 0, none⟩)), (13, .pointer (some ⟨g283, 0, none⟩)), (14, .pointer (some ⟨g11284, 0, none⟩)), (63, iV (IntKind.i64.wrap (((rdA z_impl_Spot b5.2 p25.Cursor).Line) - b7))), (65, .pointer (some ⟨g11284, 3, none⟩))] [fun w => w.cell? ⟨g283, 0, none⟩ = some (iV ((rdA z_impl_Spot b5.2 p25.Cursor).Line)), fun w => w.cell? ⟨g11284, 7, none⟩ = some (iV b7)] (fun w hs => ⟨hs.var (k := 2) rfl 0 rfl, hs.var (k := 0) rfl 7 rfl⟩) ?_
    refine at_eff rfl rfl ?_
    refine eff_store 0 rfl rfl rfl rfl rfl rfl (.inl (Nat.le_refl _)) rfl (Nat.le_of_ble_eq_true (by kernel_rfl)) rfl ?_
    refine at_sg ([(g11284, .cells #[iV b6.Rows, iV b6.Cols, .slice A3290 b6.Cells.length c3291, iV (IntKind.i64.wrap (((rdA z_impl_Spot b5.2 p25.Cursor).Line) - b7)), iV b6.Col, .bool b6.Hang, iV b6.Attr, iV b7, iV 0] 40 (0, 0))] :: [(g269, .cells #[iV b5.1.cols, .slice A271 b5.1.rows.length c272, iV b5.1.col] 69 (0, 0))] :: [(g283, .cells #[iV ((rdA z_impl_Spot b5.2 p25.Cursor).Line), iV ((rdA z_impl_Spot b5.2 p25.Cursor).Col)] 31 (0, 0))] :: [(g33, .cells #[iV 0, iV 0, .slice none ([] : List T_impl_Cell).length 0, iV 0, iV 0, .bool false, iV 0, iV 0, iV 0] 40 (0, 0))] :: s3292 :: s270 :: Fs) ?_
    refine at_end (at_thn (at_seq (at_ops [0, 1, 2, 3, 4] rfl ?_)))
    refine at_seg1 [0, 1, 2, 3] [4] [(1, iV ((rdA z_impl_Spot b5.2 p25.Cursor).Col))] [3, 4, 10, 11, 14, 67, 69] [(3, iV p30), (4, iV p31), (10, .pointer (some ⟨g33, 0, none⟩)), (11, .pointer (some ⟨g269, 0, none⟩)), (14, .pointer (some ⟨g11284, 0, none⟩)), (67, iV ((rdA z_impl_Spot b5.2 p25.Cursor).Col)), (69, .pointer (some ⟨g11284, 4, none⟩))] [fun w => w.cell? ⟨g283, 1, none⟩ = some (iV ((rdA z_impl_Spot b5.2 p25.Cursor).Col))] (fun w hs => hs.var (k := 2) rfl 1 rfl) ?_
    refine at_eff rfl rfl ?_
    refine eff_store 0 rfl rfl rfl rfl rfl rfl (.inl (Nat.le_refl _)) rfl (Nat.le_of_ble_eq_true (by kernel_rfl)) rfl ?_
    refine at_sg ([(g11284, .cells #[iV b6.Rows, iV b6.Cols, .slice A3290 b6.Cells.length c3291, iV (IntKind.i64.wrap (((rdA z_impl_Spot b5.2 p25.Cursor).Line) - b7)), iV ((rdA z_impl_Spot b5.2 p25.Cursor).Col), .bool b6.Hang, iV b6.Attr, iV b7, iV 0] 40 (0, 0))] :: [(g269, .cells #[iV b5.1.cols, .slice A271 b5.1.rows.length c272, iV b5.1.col] 69 (0, 0))] :: [(g283, .cells #[iV ((rdA z_impl_Spot b5.2 p25.Cursor).Line), iV ((rdA z_impl_Spot b5.2 p25.Cursor).Col)] 31 (0, 0))] :: [(g33, .cells #[iV 0, iV 0, .slice none ([] : List T_impl_Cell).length 0, iV 0, iV 0, .bool false, iV 0, iV 0, iV 0] 40 (0, 0))] :: s3292 :: s270 :: Fs) ?_
    refine at_end (at_thn (at_seq (at_seq (at_reg0 [] [3, 4, 10, 11, 14, 15] [(3, iV p30), (4, iV p31), (10, .pointer (some ⟨g33, 0, none⟩)), (11, .pointer (some ⟨g269, 0, none⟩)), (14, .pointer (some ⟨g11284, 0, none⟩)), (15, iV 0)] ?_))))
    refine at_thn (at_block (at_drop (k := 2) rfl rfl ?_))
    refine at_sg ([(g11284, .cells #[iV b6.Rows, iV b6.Cols, .slice A3290 b6.Cells.length c3291, iV (IntKind.i64.wrap (((rdA z_impl_Spot b5.2 p25.Cursor).Line) - b7)), iV ((rdA z_impl_Spot b5.2 p25.Cursor).Col), .bool b6.Hang, iV b6.Attr, iV b7, iV 0] 40 (0, 0))] :: [(g269, .cells #[iV b5.1.cols, .slice A271 b5.1.rows.length c272, iV b5.1.col] 69 (0, 0))] :: [(g33, .cells #[iV 0, iV 0, .slice none ([] : List T_impl_Cell).length 0, iV 0, iV 0, .bool false, iV 0, iV 0, iV 0] 40 (0, 0))] :: s3292 :: s270 :: Fs) ?_
    refine at_undeep (D := d_impl_Cell) 3 ho3293 rfl (fun J14386 s14387 hJ14388 ho14389 => ?_)
    replace hle := hle.trans hJ14388
    replace ho273 := ho273.mono hJ14388
    replace ho3293 := ho3293.mono hJ14388
    have ho14389 : Own k_impl_Cell 71 J14386 A3290 c3291 b6.Cells s14387 := ho14389
    refine at_keep [3, 4, 10, 11, 14, 15] (L2 := [(3, iV p30), (4, iV p31), (10, .pointer (some ⟨g33, 0, none⟩)), (11, .pointer (some ⟨g269, 0, none⟩)), (14, .pointer (some ⟨g11284, 0, none⟩)), (15, iV 0)]) rfl ?_
    refine at_loop (fun k14396 L I Ms => ∃ (x14390 : Int) (x14391 : List T_impl_Cell) (A14392 : Option Addr) (c14393 : Nat) (s14394 : Seg), L = [(3, iV p30), (4, iV p31), (10, .pointer (some ⟨g33, 0, none⟩)), (11, .pointer (some ⟨g269, 0, none⟩)), (14, .pointer (some ⟨g11284, 0, none⟩)), (15, iV x14390)] ∧ Ms = ([(g11284, .cells #[iV b6.Rows, iV b6.Cols, .slice A14392 x14391.length c14393, iV (IntKind.i64.wrap (((rdA z_impl_Spot b5.2 p25.Cursor).Line) - b7)), iV ((rdA z_impl_Spot b5.2 p25.Cursor).Col), .bool b6.Hang, iV b6.Attr, iV b7, iV 0] 40 (0, 0))] :: [(g269, .cells #[iV b5.1.cols, .slice A271 b5.1.rows.length c272, iV b5.1.col] 69 (0, 0))] :: [(g33, .cells #[iV 0, iV 0, .slice none ([] : List T_impl_Cell).length 0, iV 0, iV 0, .bool false, iV 0, iV 0, iV 0] 40 (0, 0))] :: s14394 :: s270 :: Fs) ∧ spec_ViewOf_l0 k14396 x14390 x14391 b5 b6 b7 p25 p30 p31 = some r ∧ ImmLe I0 I ∧ k14396 ≤ k14384 ∧ Own k_impl_Cell 71 I A14392 c14393 x14391 s14394 ∧ DOwn (DK.sl k_impl_Cell 71) 36 I A271 c272 b5.1.rows s270) ?_ ?_ k14384 ⟨0, b6.Cells, A3290, c3291, s14387, rfl, rfl, H, hle, Nat.le_refl _, ho14389, ho273⟩
    · rintro L I Ms ⟨_, _, _, _, _, rfl, rfl, H, _⟩; exact no_none H
    ·
     clear H hle ho14389 ho273
     intro k14396 ih14397 L I Ms h_; obtain ⟨x14390, x14391, A14392, c14393, s14394, hL_, hM_, H, hle, hk14398, ho14395, ho273⟩ := h_; rw [hL_, hM_]; clear hL_ hM_ L Ms
     rw [spec_ViewOf_l0] at H
     refine at_seq (at_seq ?_)
     by_cases h14399 : x14390 < p30
     ·
      rw [if_pos h14399] at H
      refine at_regd hmo [(3, .bool true), (5, iV b7), (11, .slice A271 b5.1.rows.length c272)] [3, 4, 10, 11, 14, 15, 84] (by kernel_rfl) (L2 := [(3, iV p30), (4, iV p31), (10, .pointer (some ⟨g33, 0, none⟩)), (11, .pointer (some ⟨g269, 0, none⟩)), (14, .pointer (some ⟨g11284, 0, none⟩)), (15, iV x14390), (84, .bool (decide ((IntKind.i64.wrap (b7 + x14390)) < (b5.1.rows.length : Int))))]) (obs := [fun _ => (.bool (decide (x14390 < p30)) : Value) = .bool true, fun w => w.cell? ⟨g11284, 7, none⟩ = some (iV b7), fun w => w.cell? ⟨g269, 1, none⟩ = some (.slice A271 b5.1.rows.length c272)]) (by kernel_rfl) ?_ ?_
      · intro w hs; exact ⟨cT (h14399), hs.var (k := 0) rfl 7 rfl, hs.var (k := 1) rfl 1 rfl⟩
      refine at_thn ?_
      by_cases h14400 : (IntKind.i64.wrap (b7 + x14390)) < (b5.1.rows.length : Int)
      ·
       rw [if_pos h14400] at H
       refine at_cond_t rfl (decide_eq_true h14400) ?_
       refine at_skip (at_thn (at_seq (at_block (at_seq (at_reg0 [] [3, 4, 10, 11, 14, 15, 16] [(3, iV p30), (4, iV p31), (10, .pointer (some ⟨g33, 0, none⟩)), (11, .pointer (some ⟨g269, 0, none⟩)), (14, .pointer (some ⟨g11284, 0, none⟩)), (15, iV x14390), (16, iV 0)] ?_)))))
       refine at_thn (at_block (at_keep [3, 4, 10, 11, 14, 15, 16] (L2 := [(3, iV p30), (4, iV p31), (10, .pointer (some ⟨g33, 0, none⟩)), (11, .pointer (some ⟨g269, 0, none⟩)), (14, .pointer (some ⟨g11284, 0, none⟩)), (15, iV x14390), (16, iV 0)]) rfl ?_))
       refine at_loop (fun k14407 L I Ms => ∃ (x14401 : Int) (x14402 : List T_impl_Cell) (A14403 : Option Addr) (c14404 : Nat) (s14405 : Seg), L = [(3, iV p30), (4, iV p31), (10, .pointer (some ⟨g33, 0, none⟩)), (11, .pointer (some ⟨g269, 0, none⟩)), (14, .pointer (some ⟨g11284, 0, none⟩)), (15, iV x14390), (16, iV x14401)] ∧ Ms = ([(g11284, .cells #[iV b6.Rows, iV b6.Cols, .slice A14403 x14402.length c14404, iV (IntKind.i64.wrap (((rdA z_impl_Spot b5.2 p25.Cursor).Line) - b7)), iV ((rdA z_impl_Spot b5.2 p25.Cursor).Col), .bool b6.Hang, iV b6.Attr, iV b7, iV 0] 40 (0, 0))] :: [(g269, .cells #[iV b5.1.cols, .slice A271 b5.1.rows.length c272, iV b5.1.col] 69 (0, 0))] :: [(g33, .cells #[iV 0, iV 0, .slice none ([] : List T_impl_Cell).length 0, iV 0, iV 0, .bool false, iV 0, iV 0, iV 0] 40 (0, 0))] :: s14405 :: s270 :: Fs) ∧ spec_ViewOf_l1 k14407 x14401 x14402 b5 b6 b7 p25 p30 p31 x14390 = some r ∧ ImmLe I0 I ∧ k14407 ≤ k14396 ∧ Own k_impl_Cell 71 I A14403 c14404 x14402 s14405 ∧ DOwn (DK.sl k_impl_Cell 71) 36 I A271 c272 b5.1.rows s270) ?_ ?_ k14396 ⟨0, x14391, A14392, c14393, s14394, rfl, rfl, H, hle, Nat.le_refl _, ho14395, ho273⟩
       · rintro L I Ms ⟨_, _, _, _, _, rfl, rfl, H, _⟩; exact no_none H
       ·
        clear H hle ho14395 ho273
        intro k14407 ih14408 L I Ms h_; obtain ⟨x14401, x14402, A14403, c14404, s14405, hL_, hM_, H, hle, hk14409, ho14406, ho273⟩ := h_; rw [hL_, hM_]; clear hL_ hM_ L Ms
        rw [spec_ViewOf_l1] at H
        refine at_seq (at_seq (at_reg0 [] [3, 4, 10, 11, 14, 15, 16, 89] [(3, iV p30), (4, iV p31), (10, .pointer (some ⟨g33, 0, none⟩)), (11, .pointer (some ⟨g269, 0, none⟩)), (14, .pointer (some ⟨g11284, 0, none⟩)), (15, iV x14390), (16, iV x14401), (89, .bool (decide (x14401 < p31)))] ?_))
        refine at_thn ?_
        by_cases h14410 : x14401 < p31
        ·
         rw [if_pos h14410] at H
         refine at_cond_t rfl (decide_eq_true h14410) ?_
         refine at_skip (at_thn (at_seq (at_block ?_)))
         obtain ⟨h14411, H⟩ := ite_some H
         obtain ⟨h14417, H⟩ := ite_some H
         obtain ⟨h14418, H⟩ := ite_some H
         obtain ⟨h14425, H⟩ := ite_some H
         obtain ⟨h14426, H⟩ := ite_some H
         obtain ⟨A14412, c14413, hd14414⟩ := ho273.at [] (IntKind.i64.wrap (b7 + x14390)) h14411 h14400
         have hc14415 := hd14414.cells
         have hi14416 : OwnIn k_impl_Cell 71 I A14412 c14413 (rdA [] b5.1.rows (IntKind.i64.wrap (b7 + x14390))) s270 := hd14414.inn
         obtain ⟨cs14423, hz14424, hc14419⟩ := hi14416.elem z_impl_Cell x14401 h14417 h14418
         obtain ⟨A14420, c14421, rfl, hr14422⟩ := hz14424
         refine at_x hmo (fun w => w.cell? ⟨g11284, 2, none⟩ = some (.slice A14403 x14402.length c14404) ∧ w.cell? ⟨g269, 1, none⟩ = some (.slice A271 b5.1.rows.length c272) ∧ w.cell? ⟨g11284, 7, none⟩ = some (iV b7) ∧ w.cell? ((A271.getD ad0).add ((IntKind.i64.wrap (b7 + x14390)).toNat * 1)) = some (.slice A14412 (rdA [] b5.1.rows (IntKind.i64.wrap (b7 + x14390))).length c14413) ∧ CellsAt w ((A14412.getD ad0).add (x14401.toNat * 2)) [.slice A14420 ((rdA z_impl_Cell (rdA [] b5.1.rows (IntKind.i64.wrap (b7 + x14390))) x14401).Points).length c14421, iV ((rdA z_impl_Cell (rdA [] b5.1.rows (IntKind.i64.wrap (b7 + x14390))) x14401).Attr)] 0) [22] ?_
         refine at_xseg [0, 1, 2, 3, 4, 5, 6, 7, 8, 9, 10, 11, 12, 13, 14, 15, 16, 17, 18, 19, 20, 21] 1 (#[true, true, true, true, true, true, true, true, true, true, true, true, true, true, true, true, true, true, true, true, true, true, false]) rfl (by kernel_rfl) [(2, .slice A14403 x14402.length c14404), (11, .slice A271 b5.1.rows.length c272), (13, iV b7), (17, .slice A14412 (rdA [] b5.1.rows (IntKind.i64.wrap (b7 + x14390))).length c14413), (20, .agg #[.slice A14420 ((rdA z_impl_Cell (rdA [] b5.1.rows (IntKind.i64.wrap (b7 + x14390))) x14401).Points).length c14421, iV ((rdA z_impl_Cell (rdA [] b5.1.rows (IntKind.i64.wrap (b7 + x14390))) x14401).Attr)])] [3, 4, 10, 11, 14, 15, 16, 112, 113] (L2 := [(3, iV p30), (4, iV p31), (10, .pointer (some ⟨g33, 0, none⟩)), (11, .pointer (some ⟨g269, 0, none⟩)), (14, .pointer (some ⟨g11284, 0, none⟩)), (15, iV x14390), (16, iV x14401), (112, .agg #[.slice A14420 ((rdA z_impl_Cell (rdA [] b5.1.rows (IntKind.i64.wrap (b7 + x14390))) x14401).Points).length c14421, iV ((rdA z_impl_Cell (rdA [] b5.1.rows (IntKind.i64.wrap (b7 + x14390))) x14401).Attr)]), (113, .pointer (some ((A14403.getD ad0).add ((IntKind.i64.wrap ((IntKind.i64.wrap (x14390 * p31)) + x14401)).toNat * 2))))]) (obs := [fun w => w.cell? ⟨g11284, 2, none⟩ = some (.slice A14403 x14402.length c14404), fun w => w.cell? ⟨g269, 1, none⟩ = some (.slice A271 b5.1.rows.length c272), fun w => w.cell? ⟨g11284, 7, none⟩ = some (iV b7), fun _ => A271.isSome = true ∧ 0 ≤ (IntKind.i64.wrap (b7 + x14390)) ∧ (IntKind.i64.wrap (b7 + x14390)) < ((b5.1.rows.length : Nat) : Int), fun w => w.cell? ((A271.getD ad0).add ((IntKind.i64.wrap (b7 + x14390)).toNat * 1)) = some (.slice A14412 (rdA [] b5.1.rows (IntKind.i64.wrap (b7 + x14390))).length c14413), fun _ => A14412.isSome = true ∧ 0 ≤ x14401 ∧ x14401 < (((rdA [] b5.1.rows (IntKind.i64.wrap (b7 + x14390))).length : Nat) : Int), fun w => CellsAt w ((A14412.getD ad0).add (x14401.toNat * 2)) [.slice A14420 ((rdA z_impl_Cell (rdA [] b5.1.rows (IntKind.i64.wrap (b7 + x14390))) x14401).Points).length c14421, iV ((rdA z_impl_Cell (rdA [] b5.1.rows (IntKind.i64.wrap (b7 + x14390))) x14401).Attr)] 0, fun _ => A14403.isSome = true ∧ 0 ≤ (IntKind.i64.wrap ((IntKind.i64.wrap (x14390 * p31)) + x14401)) ∧ (IntKind.i64.wrap ((IntKind.i64.wrap (x14390 * p31)) + x14401)) < ((x14402.length : Nat) : Int)]) (by kernel_rfl) (by kernel_rfl) (by kernel_rfl) (.inr fun w hs => ⟨hs.var (k := 0) rfl 2 rfl, hs.var (k := 1) rfl 1 rfl, hs.var (k := 0) rfl 7 rfl, cell0 (hc14415 0 _ rfl hs (k := 4) rfl), ⟨hc14419 0 _ rfl hs (k := 4) rfl, hc14419 1 _ rfl hs (k := 4) rfl, trivial⟩⟩) (fun w hS => ⟨hS.1, hS.2.1, hS.2.2.1, ⟨ho273.ne (IntKind.i64.wrap (b7 + x14390)) h14411 h14400, h14411, h14400⟩, hS.2.2.2.1, ⟨hi14416.ne x14401 h14417 h14418, h14417, h14418⟩, hS.2.2.2.2, ⟨ho14406.ne (IntKind.i64.wrap ((IntKind.i64.wrap (x14390 * p31)) + x14401)) h14425 h14426, h14425, h14426⟩⟩) (fun w hs => ⟨hs.var (k := 0) rfl 2 rfl, hs.var (k := 1) rfl 1 rfl, hs.var (k := 0) rfl 7 rfl, ⟨ho273.ne (IntKind.i64.wrap (b7 + x14390)) h14411 h14400, h14411, h14400⟩, cell0 (hc14415 0 _ rfl hs (k := 4) rfl), ⟨hi14416.ne x14401 h14417 h14418, h14417, h14418⟩, ⟨hc14419 0 _ rfl hs (k := 4) rfl, hc14419 1 _ rfl hs (k := 4) rfl, trivial⟩, ⟨ho14406.ne (IntKind.i64.wrap ((IntKind.i64.wrap (x14390 * p31)) + x14401)) h14425 h14426, h14425, h14426⟩⟩) ?_
         refine at_x1 0 22 (#[true, true, true, true, true, true, true, true, true, true, true, true, true, true, true, true, true, true, true, true, true, true, true]) rfl (by kernel_rfl) (by kernel_rfl) rfl rfl ?_
         refine eff_storeOwn (K := k_impl_Cell) (u := (rdA z_impl_Cell (rdA [] b5.1.rows (IntKind.i64.wrap (b7 + x14390))) x14401)) 3 0 z_impl_Cell (IntKind.i64.wrap ((IntKind.i64.wrap (x14390 * p31)) + x14401)) rfl rfl rfl rfl ho14406 rfl h14425 h14426 (add0 _).symm rfl (Nat.le_of_ble_eq_true (by kernel_rfl)) rfl (by rintro cs_ ⟨A37413, c37414, rfl, hr37415⟩; exact ⟨A14420, c14421, rfl, hr14422⟩) (fun s37411 ho37412 => ?_)
         refine at_eqM (M1 := ([(g11284, .cells #[iV b6.Rows, iV b6.Cols, .slice A14403 x14402.length c14404, iV (IntKind.i64.wrap (((rdA z_impl_Spot b5.2 p25.Cursor).Line) - b7)), iV ((rdA z_impl_Spot b5.2 p25.Cursor).Col), .bool b6.Hang, iV b6.Attr, iV b7, iV 0] 40 (0, 0))] :: [(g269, .cells #[iV b5.1.cols, .slice A271 b5.1.rows.length c272, iV b5.1.col] 69 (0, 0))] :: [(g33, .cells #[iV 0, iV 0, .slice none ([] : List T_impl_Cell).length 0, iV 0, iV 0, .bool false, iV 0, iV 0, iV 0] 40 (0, 0))] :: s37411 :: s270 :: Fs)) (M2 := ([(g11284, .cells #[iV b6.Rows, iV b6.Cols, .slice A14403 (x14402.set (IntKind.i64.wrap ((IntKind.i64.wrap (x14390 * p31)) + x14401)).toNat (rdA z_impl_Cell (rdA [] b5.1.rows (IntKind.i64.wrap (b7 + x14390))) x14401)).length c14404, iV (IntKind.i64.wrap (((rdA z_impl_Spot b5.2 p25.Cursor).Line) - b7)), iV ((rdA z_impl_Spot b5.2 p25.Cursor).Col), .bool b6.Hang, iV b6.Attr, iV b7, iV 0] 40 (0, 0))] :: [(g269, .cells #[iV b5.1.cols, .slice A271 b5.1.rows.length c272, iV b5.1.col] 69 (0, 0))] :: [(g33, .cells #[iV 0, iV 0, .slice none ([] : List T_impl_Cell).length 0, iV 0, iV 0, .bool false, iV 0, iV 0, iV 0] 40 (0, 0))] :: s37411 :: s270 :: Fs)) rfl (by simp only [List.length_set]) ?_
         refine at_xX (by kernel_rfl) ?_
         refine at_xend (by kernel_rfl) ?_
         refine at_in_norm (at_thn (at_reg0 [] [3, 4, 10, 11, 14, 15, 16] [(3, iV p30), (4, iV p31), (10, .pointer (some ⟨g33, 0, none⟩)), (11, .pointer (some ⟨g269, 0, none⟩)), (14, .pointer (some ⟨g11284, 0, none⟩)), (15, iV x14390), (16, iV (IntKind.i64.wrap (x14401 + 1)))] ?_))
         refine at_thn (at_keep [3, 4, 10, 11, 14, 15, 16] (L2 := [(3, iV p30), (4, iV p31), (10, .pointer (some ⟨g33, 0, none⟩)), (11, .pointer (some ⟨g269, 0, none⟩)), (14, .pointer (some ⟨g11284, 0, none⟩)), (15, iV x14390), (16, iV (IntKind.i64.wrap (x14401 + 1)))]) rfl ?_)
         exact ih14408 _ (by omega) _ _ _ ⟨IntKind.i64.wrap (x14401 + 1), x14402.set (IntKind.i64.wrap ((IntKind.i64.wrap (x14390 * p31)) + x14401)).toNat (rdA z_impl_Cell (rdA [] b5.1.rows (IntKind.i64.wrap (b7 + x14390))) x14401), A14403, c14404, s37411, rfl, rfl, H, hle, by omega, ho37412, ho273⟩
        ·
         rw [if_neg h14410] at H
         refine at_cond_f rfl (decide_eq_false h14410) ?_
         refine at_exit (at_then_exit (at_then_exit (at_in_hit (at_in_norm (at_thn (at_reg0 [] [3, 4, 10, 11, 14, 15] [(3, iV p30), (4, iV p31), (10, .pointer (some ⟨g33, 0, none⟩)), (11, .pointer (some ⟨g269, 0, none⟩)), (14, .pointer (some ⟨g11284, 0, none⟩)), (15, iV (IntKind.i64.wrap (x14390 + 1)))] ?_))))))
         refine at_thn (at_keep [3, 4, 10, 11, 14, 15] (L2 := [(3, iV p30), (4, iV p31), (10, .pointer (some ⟨g33, 0, none⟩)), (11, .pointer (some ⟨g269, 0, none⟩)), (14, .pointer (some ⟨g11284, 0, none⟩)), (15, iV (IntKind.i64.wrap (x14390 + 1)))]) rfl ?_)
         exact ih14397 _ (by omega) _ _ _ ⟨IntKind.i64.wrap (x14390 + 1), x14402, A14403, c14404, s14405, rfl, rfl, H, hle, by omega, ho14406, ho273⟩
      ·
       rw [if_neg h14400] at H
       refine at_cond_f rfl (decide_eq_false h14400) ?_
       refine at_exit (at_then_exit (at_then_exit (at_in_hit (at_thn (at_seq (at_ops [0, 1] rfl ?_))))))
       refine at_seg1 [0] [1] [(0, .agg #[iV b6.Rows, iV b6.Cols, .slice A14392 x14391.length c14393, iV (IntKind.i64.wrap (((rdA z_impl_Spot b5.2 p25.Cursor).Line) - b7)), iV ((rdA z_impl_Spot b5.2 p25.Cursor).Col), .bool b6.Hang, iV b6.Attr, iV b7, iV 0])] [10, 114] [(10, .pointer (some ⟨g33, 0, none⟩)), (114, .agg #[iV b6.Rows, iV b6.Cols, .slice A14392 x14391.length c14393, iV (IntKind.i64.wrap (((rdA z_impl_Spot b5.2 p25.Cursor).Line) - b7)), iV ((rdA z_impl_Spot b5.2 p25.Cursor).Col), .bool b6.Hang, iV b6.Attr, iV b7, iV 0])] [fun w => CellsAt w ⟨g11284, 0, none⟩ [iV b6.Rows, iV b6.Cols, .slice A14392 x14391.length c14393, iV (IntKind.i64.wrap (((rdA z_impl_Spot b5.2 p25.Cursor).Line) - b7)), iV ((rdA z_impl_Spot b5.2 p25.Cursor).Col), .bool b6.Hang, iV b6.Attr, iV b7, iV 0] 0] (fun w hs => cellsV (k := 0) hs rfl _ 0 (Nat.le_of_ble_eq_true (by kernel_rfl)) rfl) ?_
       refine at_eff rfl rfl ?_
       refine eff_store 2 rfl rfl rfl rfl rfl rfl (.inl (Nat.le_refl _)) rfl (Nat.le_of_ble_eq_true (by kernel_rfl)) rfl ?_
       refine at_sg ([(g11284, .cells #[iV b6.Rows, iV b6.Cols, .slice A14392 x14391.length c14393, iV (IntKind.i64.wrap (((rdA z_impl_Spot b5.2 p25.Cursor).Line) - b7)), iV ((rdA z_impl_Spot b5.2 p25.Cursor).Col), .bool b6.Hang, iV b6.Attr, iV b7, iV 0] 40 (0, 0))] :: [(g269, .cells #[iV b5.1.cols, .slice A271 b5.1.rows.length c272, iV b5.1.col] 69 (0, 0))] :: [(g33, .cells #[iV b6.Rows, iV b6.Cols, .slice A14392 x14391.length c14393, iV (IntKind.i64.wrap (((rdA z_impl_Spot b5.2 p25.Cursor).Line) - b7)), iV ((rdA z_impl_Spot b5.2 p25.Cursor).Col), .bool b6.Hang, iV b6.Attr, iV b7, iV 0] 40 (0, 0))] :: s14394 :: s270 :: Fs) ?_
       refine at_end (at_thn (at_ret ?_))
       obtain rfl := Option.some.inj H
       refine at_drop (k := 0) rfl rfl ?_
       refine at_drop (k := 0) rfl rfl ?_
       refine at_drop (k := 2) rfl rfl ?_
       refine at_perm ((perm_at (k := 1) rfl).trans ((List.Perm.refl _).cons _)) ?_
       refine at_done (vs := [.agg #[iV b6.Rows, iV b6.Cols, .slice A14392 x14391.length c14393, iV (IntKind.i64.wrap (((rdA z_impl_Spot b5.2 p25.Cursor).Line) - b7)), iV ((rdA z_impl_Spot b5.2 p25.Cursor).Col), .bool b6.Hang, iV b6.Attr, iV b7, iV 0]]) (obs := [fun w => CellsAt w ⟨g33, 0, none⟩ [iV b6.Rows, iV b6.Cols, .slice A14392 x14391.length c14393, iV (IntKind.i64.wrap (((rdA z_impl_Spot b5.2 p25.Cursor).Line) - b7)), iV ((rdA z_impl_Spot b5.2 p25.Cursor).Col), .bool b6.Hang, iV b6.Attr, iV b7, iV 0] 0]) (.inl rfl) [.cell 10 40] [(10, .agg #[iV b6.Rows, iV b6.Cols, .slice A14392 x14391.length c14393, iV (IntKind.i64.wrap (((rdA z_impl_Spot b5.2 p25.Cursor).Line) - b7)), iV ((rdA z_impl_Spot b5.2 p25.Cursor).Col), .bool b6.Hang, iV b6.Attr, iV b7, iV 0])] rfl (by kernel_rfl) (fun w hs => cellsV (k := 1) hs rfl _ 0 (Nat.le_of_ble_eq_true (by kernel_rfl)) rfl) (fun w hs => ⟨_, _, [s14394], rfl, ⟨A14392, c14393, s14394, rfl, rfl, ho14395⟩, hle, (hs.tail (perm_at (k := 1) rfl))⟩)
     ·
      rw [if_neg h14399] at H
      refine at_regd hmo [(3, .bool false)] [3, 4, 10, 11, 14, 15, 84] (by kernel_rfl) (L2 := [(3, iV p30), (4, iV p31), (10, .pointer (some ⟨g33, 0, none⟩)), (11, .pointer (some ⟨g269, 0, none⟩)), (14, .pointer (some ⟨g11284, 0, none⟩)), (15, iV x14390), (84, .bool false)]) (obs := [fun _ => (.bool (decide (x14390 < p30)) : Value) = .bool false]) (by kernel_rfl) ?_ ?_
      · intro w hs; exact cF (h14399)
      refine at_thn (at_cond_f rfl (rfl) ?_)
      refine at_exit (at_then_exit (at_then_exit (at_in_hit (at_thn (at_seq (at_ops [0, 1] rfl ?_))))))
      refine at_seg1 [0] [1] [(0, .agg #[iV b6.Rows, iV b6.Cols, .slice A14392 x14391.length c14393, iV (IntKind.i64.wrap (((rdA z_impl_Spot b5.2 p25.Cursor).Line) - b7)), iV ((rdA z_impl_Spot b5.2 p25.Cursor).Col), .bool b6.Hang, iV b6.Attr, iV b7, iV 0])] [10, 114] [(10, .pointer (some ⟨g33, 0, none⟩)), (114, .agg #[iV b6.Rows, iV b6.Cols, .slice A14392 x14391.length c14393, iV (IntKind.i64.wrap (((rdA z_impl_Spot b5.2 p25.Cursor).Line) - b7)), iV ((rdA z_impl_Spot b5.2 p25.Cursor).Col), .bool b6.Hang, iV b6.Attr, iV b7, iV 0])] [fun w => CellsAt w ⟨g11284, 0, none⟩ [iV b6.Rows, iV b6.Cols, .slice A14392 x14391.length c14393, iV (IntKind.i64.wrap (((rdA z_impl_Spot b5.2 p25.Cursor).Line) - b7)), iV ((rdA z_impl_Spot b5.2 p25.Cursor).Col), .bool b6.Hang, iV b6.Attr, iV b7, iV 0] 0] (fun w hs => cellsV (k := 0) hs rfl _ 0 (Nat.le_of_ble_eq_true (by kernel_rfl)) rfl) ?_
      refine at_eff rfl rfl ?_
      refine eff_store 2 rfl rfl rfl rfl rfl rfl (.inl (Nat.le_refl _)) rfl (Nat.le_of_ble_eq_true (by kernel_rfl)) rfl ?_
      refine at_sg ([(g11284, .cells #[iV b6.Rows, iV b6.Cols, .slice A14392 x14391.length c14393, iV (IntKind.i64.wrap (((rdA z_impl_Spot b5.2 p25.Cursor).Line) - b7)), iV ((rdA z_impl_Spot b5.2 p25.Cursor).Col), .bool b6.Hang, iV b6.Attr, iV b7, iV 0] 40 (0, 0))] :: [(g269, .cells #[iV b5.1.cols, .slice A271 b5.1.rows.length c272, iV b5.1.col] 69 (0, 0))] :: [(g33, .cells #[iV b6.Rows, iV b6.Cols, .slice A14392 x14391.length c14393, iV (IntKind.i64.wrap (((rdA z_impl_Spot b5.2 p25.Cursor).Line) - b7)), iV ((rdA z_impl_Spot b5.2 p25.Cursor).Col), .bool b6.Hang, iV b6.Attr, iV b7, iV 0] 40 (0, 0))] :: s14394 :: s270 :: Fs) ?_
      refine at_end (at_thn (at_ret ?_))
      obtain rfl := Option.some.inj H
      refine at_drop (k := 0) rfl rfl ?_
      refine at_drop (k := 0) rfl rfl ?_
      refine at_drop (k := 2) rfl rfl ?_
      refine at_perm ((perm_at (k := 1) rfl).trans ((List.Perm.refl _).cons _)) ?_
      refine at_done (vs := [.agg #[iV b6.Rows, iV b6.Cols, .slice A14392 x14391.length c14393, iV (IntKind.i64.wrap (((rdA z_impl_Spot b5.2 p25.Cursor).Line) - b7)), iV ((rdA z_impl_Spot b5.2 p25.Cursor).Col), .bool b6.Hang, iV b6.Attr, iV b7, iV 0]]) (obs := [fun w => CellsAt w ⟨g33, 0, none⟩ [iV b6.Rows, iV b6.Cols, .slice A14392 x14391.length c14393, iV (IntKind.i64.wrap (((rdA z_impl_Spot b5.2 p25.Cursor).Line) - b7)), iV ((rdA z_impl_Spot b5.2 p25.Cursor).Col), .bool b6.Hang, iV b6.Attr, iV b7, iV 0] 0]) (.inl rfl) [.cell 10 40] [(10, .agg #[iV b6.Rows, iV b6.Cols, .slice A14392 x14391.length c14393, iV (IntKind.i64.wrap (((rdA z_impl_Spot b5.2 p25.Cursor).Line) - b7)), iV ((rdA z_impl_Spot b5.2 p25.Cursor).Col), .bool b6.Hang, iV b6.Attr, iV b7, iV 0])] rfl (by kernel_rfl) (fun w hs => cellsV (k := 1) hs rfl _ 0 (Nat.le_of_ble_eq_true (by kernel_rfl)) rfl) (fun w hs => ⟨_, _, [s14394], rfl, ⟨A14392, c14393, s14394, rfl, rfl, ho14395⟩, hle, (hs.tail (perm_at (k := 1) rfl))⟩)
   ·
    intro Jn284
    refine at_x hmo (fun w => w.cell? ⟨g283, 0, none⟩ = some (iV ((rdA z_impl_Spot b5.2 p25.Cursor).Line))) [11] ?_
    refine at_xseg [0, 1, 3, 4, 5, 6, 7] 5 (#[true, true, false, true, true, true, true, true, false, false, false, false]) rfl (by kernel_rfl) [(4, iV ((rdA z_impl_Spot b5.2 p25.Cursor).Line))] [3, 4, 10, 11, 13, 49, 50, 56] (L2 := [(3, iV p30), (4, iV p31), (10, .pointer (some ⟨g33, 0, none⟩)), (11, .pointer (some ⟨g269, 0, none⟩)), (13, .pointer (some ⟨g283, 0, none⟩)), (49, iV p30), (50, iV p31), (56, iV (IntKind.i64.wrap ((IntKind.i64.wrap (((rdA z_impl_Spot b5.2 p25.Cursor).Line) - p30)) + 1)))]) (obs := [fun w => w.cell? ⟨g283, 0, none⟩ = some (iV ((rdA z_impl_Spot b5.2 p25.Cursor).Line))]) (by kernel_rfl) (by kernel_rfl) (by kernel_rfl) (.inr fun w hs => hs.var (k := 0) rfl 0 rfl) (fun w hS => hS) (fun w hs => hs.var (k := 0) rfl 0 rfl) ?_
    refine at_xall (fuel := 4) [2, 10] (by kernel_rfl) (by simp) (List.forall_mem_cons.2 ⟨?_, (List.forall_mem_cons.2 ⟨?_, fun _ h => nomatch h⟩)⟩)
    ·
     refine at_xone (#[true, true, true, true, true, true, true, true, false, false, false, false]) (by kernel_rfl) rfl rfl ?_
     obtain ⟨b6, H3284, H⟩ := bind_some H
     have hm_ := spec_GridNew.calls (I0 := J265) H3284
     refine eff_call rfl rfl ok31 rfl rfl (show Meets Try.prog 31 ([iV p30, iV p31] : List Value).toArray _ [] _ from hm_) (Mr := ([(g283, .cells #[iV ((rdA z_impl_Spot b5.2 p25.Cursor).Line), iV ((rdA z_impl_Spot b5.2 p25.Cursor).Col)] 31 (0, 0))] :: [(g269, .cells #[iV b5.1.cols, .slice A271 b5.1.rows.length c272, iV b5.1.col] 69 (0, 0))] :: s270 :: s276 :: [(g32, .cells #[.slice A26 p25.Points.length c27, iV p25.Cursor, iV p25.Mark] 25 (0, 0))] :: [(g33, .cells #[iV 0, iV 0, .slice none ([] : List T_impl_Cell).length 0, iV 0, iV 0, .bool false, iV 0, iV 0, iV 0] 40 (0, 0))] :: Fs)) (List.Perm.refl _) (fun v3285 J3286 M3287 hq3288 hJ3289 => ?_)
     replace hle := hle.trans hJ3289
     replace ho273 := ho273.mono hJ3289
     replace hr28 := hr28.mono hJ3289
     obtain ⟨A3290, c3291, s3292, rfl, rfl, ho3293⟩ := hq3288
     refine at_xS (fun w hs => hs.var (k := 1) rfl 0 rfl) ?_
     refine at_xall (fuel := 3) [8, 10] (by kernel_rfl) (by simp) (List.forall_mem_cons.2 ⟨?_, (List.forall_mem_cons.2 ⟨?_, fun _ h => nomatch h⟩)⟩)
     ·
      refine at_xone (#[true, true, true, true, true, true, true, true, true, false, false, false]) (by kernel_rfl) rfl rfl ?_
      obtain ⟨b7, H9284, H⟩ := bind_some H
      have hm_ := spec_l01Max.calls (I0 := J3286) H9284
      refine eff_call rfl rfl ok32 rfl rfl (show Meets Try.prog 32 ([iV 0, iV (IntKind.i64.wrap ((IntKind.i64.wrap (((rdA z_impl_Spot b5.2 p25.Cursor).Line) - p30)) + 1))] : List Value).toArray _ [] _ from hm_) (Mr := (s3292 :: [(g283, .cells #[iV ((rdA z_impl_Spot b5.2 p25.Cursor).Line), iV ((rdA z_impl_Spot b5.2 p25.Cursor).Col)] 31 (0, 0))] :: [(g269, .cells #[iV b5.1.cols, .slice A271 b5.1.rows.length c272, iV b5.1.col] 69 (0, 0))] :: s270 :: s276 :: [(g32, .cells #[.slice A26 p25.Points.length c27, iV p25.Cursor, iV p25.Mark] 25 (0, 0))] :: [(g33, .cells #[iV 0, iV 0, .slice none ([] : List T_impl_Cell).length 0, iV 0, iV 0, .bool false, iV 0, iV 0, iV 0] 40 (0, 0))] :: Fs)) (List.Perm.refl _) (fun v9285 J9286 M9287 hq9288 hJ9289 => ?_)
      replace hle := hle.trans hJ9289
      replace ho273 := ho273.mono hJ9289
      replace ho3293 := ho3293.mono hJ9289
      replace hr28 := hr28.mono hJ9289
      obtain ⟨rfl, rfl⟩ := hq9288
      refine at_xS (fun w hs => hs.var (k := 1) rfl 0 rfl) ?_
      refine at_xseg [9] 2 (#[true, true, true, true, true, true, true, true, true, true, false, false]) rfl (by kernel_rfl) [] [3, 4, 10, 11, 13, 58] (L2 := [(3, iV p30), (4, iV p31), (10, .pointer (some ⟨g33, 0, none⟩)), (11, .pointer (some ⟨g269, 0, none⟩)), (13, .pointer (some ⟨g283, 0, none⟩)), (58, .agg #[iV b6.Rows, iV b6.Cols, .slice A3290 b6.Cells.length c3291, iV b6.Row, iV b6.Col, .bool b6.Hang, iV b6.Attr, iV b7, iV 0])]) (obs := []) (by kernel_rfl) (by kernel_rfl) (by kernel_rfl) (.inr fun w hs => hs.var (k := 1) rfl 0 rfl) (fun w hS => trivial) (fun w hs => trivial) ?_
      refine at_x1 1 10 (#[true, true, true, true, true, true, true, true, true, true, true, false]) rfl (by kernel_rfl) (by kernel_rfl) rfl rfl ?_
      obtain ⟨i_, hi_, hz_, _, _⟩ := info40
      refine eff_alloc rfl rfl hi_ hz_ #[iV 0, iV 0, .slice none ([] : List T_impl_Cell).length 0, iV 0, iV 0, .bool false, iV 0, iV 0, iV 0] rfl (fun g11284 => ?_)
      refine at_xS (fun w hs => hs.var (k := 2) rfl 0 rfl) ?_
      refine at_x1 0 11 (#[true, true, true, true, true, true, true, true, true, true, true, true]) rfl (by kernel_rfl) (by kernel_rfl) rfl rfl ?_
      refine eff_store 0 rfl rfl rfl rfl rfl rfl (.inl (Nat.le_refl _)) rfl (Nat.le_of_ble_eq_true (by kernel_rfl)) rfl ?_
      refine at_sg ([(g11284, .cells #[iV b6.Rows, iV b6.Cols, .slice A3290 b6.Cells.length c3291, iV b6.Row, iV b6.Col, .bool b6.Hang, iV b6.Attr, iV b7, iV 0] 40 (0, 0))] :: s3292 :: [(g283, .cells #[iV ((rdA z_impl_Spot b5.2 p25.Cursor).Line), iV ((rdA z_impl_Spot b5.2 p25.Cursor).Col)] 31 (0, 0))] :: [(g269, .cells #[iV b5.1.cols, .slice A271 b5.1.rows.length c272, iV b5.1.col] 69 (0, 0))] :: s270 :: s276 :: [(g32, .cells #[.slice A26 p25.Points.length c27, iV p25.Cursor, iV p25.Mark] 25 (0, 0))] :: [(g33, .cells #[iV 0, iV 0, .slice none ([] : List T_impl_Cell).length 0, iV 0, iV 0, .bool false, iV 0, iV 0, iV 0] 40 (0, 0))] :: Fs) ?_
      refine at_xX (by kernel_rfl) ?_
      refine at_xend (by kernel_rfl) ?_
      refine at_thn (at_drop (k := 5) rfl rfl ?_)
      refine at_drop (k := 5) rfl rfl ?_
      refine at_sg ([(g11284, .cells #[iV b6.Rows, iV b6.Cols, .slice A3290 b6.Cells.length c3291, iV b6.Row, iV b6.Col, .bool b6.Hang, iV b6.Attr, iV b7, iV 0] 40 (0, 0))] :: s3292 :: [(g283, .cells #[iV ((rdA z_impl_Spot b5.2 p25.Cursor).Line), iV ((rdA z_impl_Spot b5.2 p25.Cursor).Col)] 31 (0, 0))] :: [(g269, .cells #[iV b5.1.cols, .slice A271 b5.1.rows.length c272, iV b5.1.col] 69 (0, 0))] :: s270 :: [(g33, .cells #[iV 0, iV 0, .slice none ([] : List T_impl_Cell).length 0, iV 0, iV 0, .bool false, iV 0, iV 0, iV 0] 40 (0, 0))] :: Fs) ?_
      refine at_perm (((perm_at (k := 2) rfl).trans (((perm_at (k := 1) rfl).trans (((perm_at (k := 2) rfl).trans ((List.Perm.refl _).cons _)).cons _)).cons _)).cons _) ?_
      refine at_keep [3, 4, 10, 11, 13, 14] (L2 := [(3, iV p30), (4, iV p31), (10, .pointer (some ⟨g33, 0, none⟩)), (11, .pointer (some ⟨g269, 0, none⟩)), (13, .pointer (some ⟨g283, 0, none⟩)), (14, .pointer (some ⟨g11284, 0, none⟩))]) rfl ?_
      exact Jn284 _ _ _ ⟨_, A3290, b6, b7, c3291, g11284, s3292, rfl, rfl, H, hle, by omega, ho273, ho3293⟩
     ·
      refine at_xone (#[true, true, true, true, true, true, true, true, false, false, true, false]) (by kernel_rfl) rfl rfl ?_
      obtain ⟨i_, hi_, hz_, _, _⟩ := info40
      refine eff_alloc rfl rfl hi_ hz_ #[iV 0, iV 0, .slice none ([] : List T_impl_Cell).length 0, iV 0, iV 0, .bool false, iV 0, iV 0, iV 0] rfl (fun g11284 => ?_)
      refine at_xS (fun w hs => hs.var (k := 2) rfl 0 rfl) ?_
      refine at_x1 2 8 (#[true, true, true, true, true, true, true, true, true, false, true, false]) rfl (by kernel_rfl) (by kernel_rfl) rfl rfl ?_
      obtain ⟨b7, H9284, H⟩ := bind_some H
      have hm_ := spec_l01Max.calls (I0 := J3286) H9284
      refine eff_call rfl rfl ok32 rfl rfl (show Meets Try.prog 32 ([iV 0, iV (IntKind.i64.wrap ((IntKind.i64.wrap (((rdA z_impl_Spot b5.2 p25.Cursor).Line) - p30)) + 1))] : List Value).toArray _ [] _ from hm_) (Mr := ([(g11284, .cells #[iV 0, iV 0, .slice none ([] : List T_impl_Cell).length 0, iV 0, iV 0, .bool false, iV 0, iV 0, iV 0] 40 (0, 0))] :: s3292 :: [(g283, .cells #[iV ((rdA z_impl_Spot b5.2 p25.Cursor).Line), iV ((rdA z_impl_Spot b5.2 p25.Cursor).Col)] 31 (0, 0))] :: [(g269, .cells #[iV b5.1.cols, .slice A271 b5.1.rows.length c272, iV b5.1.col] 69 (0, 0))] :: s270 :: s276 :: [(g32, .cells #[.slice A26 p25.Points.length c27, iV p25.Cursor, iV p25.Mark] 25 (0, 0))] :: [(g33, .cells #[iV 0, iV 0, .slice none ([] : List T_impl_Cell).length 0, iV 0, iV 0, .bool false, iV 0, iV 0, iV 0] 40 (0, 0))] :: Fs)) (List.Perm.refl _) (fun v9285 J9286 M9287 hq9288 hJ9289 => ?_)
      replace hle := hle.trans hJ9289
      replace ho273 := ho273.mono hJ9289
      replace ho3293 := ho3293.mono hJ9289
      replace hr28 := hr28.mono hJ9289
      obtain ⟨rfl, rfl⟩ := hq9288
      refine at_xS (fun w hs => hs.var (k := 2) rfl 0 rfl) ?_
      refine at_xseg [9] 1 (#[true, true, true, true, true, true, true, true, true, true, true, false]) rfl (by kernel_rfl) [] [3, 4, 10, 11, 13, 14, 58] (L2 := [(3, iV p30), (4, iV p31), (10, .pointer (some ⟨g33, 0, none⟩)), (11, .pointer (some ⟨g269, 0, none⟩)), (13, .pointer (some ⟨g283, 0, none⟩)), (14, .pointer (some ⟨g11284, 0, none⟩)), (58, .agg #[iV b6.Rows, iV b6.Cols, .slice A3290 b6.Cells.length c3291, iV b6.Row, iV b6.Col, .bool b6.Hang, iV b6.Attr, iV b7, iV 0])]) (obs := []) (by kernel_rfl) (by kernel_rfl) (by kernel_rfl) (.inr fun w hs => hs.var (k := 2) rfl 0 rfl) (fun w hS => trivial) (fun w hs => trivial) ?_
      refine at_x1 0 11 (#[true, true, true, true, true, true, true, true, true, true, true, true]) rfl (by kernel_rfl) (by kernel_rfl) rfl rfl ?_
      refine eff_store 0 rfl rfl rfl rfl rfl rfl (.inl (Nat.le_refl _)) rfl (Nat.le_of_ble_eq_true (by kernel_rfl)) rfl ?_
      refine at_sg ([(g11284, .cells #[iV b6.Rows, iV b6.Cols, .slice A3290 b6.Cells.length c3291, iV b6.Row, iV b6.Col, .bool b6.Hang, iV b6.Attr, iV b7, iV 0] 40 (0, 0))] :: s3292 :: [(g283, .cells #[iV ((rdA z_impl_Spot b5.2 p25.Cursor).Line), iV ((rdA z_impl_Spot b5.2 p25.Cursor).Col)] 31 (0, 0))] :: [(g269, .cells #[iV b5.1.cols, .slice A271 b5.1.rows.length c272, iV b5.1.col] 69 (0, 0))] :: s270 :: s276 :: [(g32, .cells #[.slice A26 p25.Points.length c27, iV p25.Cursor, iV p25.Mark] 25 (0, 0))] :: [(g33, .cells #[iV 0, iV 0, .slice none ([] : List T_impl_Cell).length 0, iV 0, iV 0, .bool false, iV 0, iV 0, iV 0] 40 (0, 0))] :: Fs) ?_
      refine at_xX (by kernel_rfl) ?_
      refine at_xend (by kernel_rfl) ?_
      refine at_thn (at_drop (k := 5) rfl rfl ?_)
      refine at_drop (k := 5) rfl rfl ?_
      refine at_sg ([(g11284, .cells #[iV b6.Rows, iV b6.Cols, .slice A3290 b6.Cells.length c3291, iV b6.Row, iV b6.Col, .bool b6.Hang, iV b6.Attr, iV b7, iV 0] 40 (0, 0))] :: s3292 :: [(g283, .cells #[iV ((rdA z_impl_Spot b5.2 p25.Cursor).Line), iV ((rdA z_impl_Spot b5.2 p25.Cursor).Col)] 31 (0, 0))] :: [(g269, .cells #[iV b5.1.cols, .slice A271 b5.1.rows.length c272, iV b5.1.col] 69 (0, 0))] :: s270 :: [(g33, .cells #[iV 0, iV 0, .slice none ([] : List T_impl_Cell).length 0, iV 0, iV 0, .bool false, iV 0, iV 0, iV 0] 40 (0, 0))] :: Fs) ?_
      refine at_perm (((perm_at (k := 2) rfl).trans (((perm_at (k := 1) rfl).trans (((perm_at (k := 2) rfl).trans ((List.Perm.refl _).cons _)).cons _)).cons _)).cons _) ?_
      refine at_keep [3, 4, 10, 11, 13, 14] (L2 := [(3, iV p30), (4, iV p31), (10, .pointer (some ⟨g33, 0, none⟩)), (11, .pointer (some ⟨g269, 0, none⟩)), (13, .pointer (some ⟨g283, 0, none⟩)), (14, .pointer (some ⟨g11284, 0, none⟩))]) rfl ?_
      exact Jn284 _ _ _ ⟨_, A3290, b6, b7, c3291, g11284, s3292, rfl, rfl, H, hle, by omega, ho273, ho3293⟩
    ·
     refine at_xone (#[true, true, false, true, true, true, true, true, false, false, true, false]) (by kernel_rfl) rfl rfl ?_
     obtain ⟨i_, hi_, hz_, _, _⟩ := info40
     refine eff_alloc rfl rfl hi_ hz_ #[iV 0, iV 0, .slice none ([] : List T_impl_Cell).length 0, iV 0, iV 0, .bool false, iV 0, iV 0, iV 0] rfl (fun g11284 => ?_)
     refine at_xS (fun w hs => hs.var (k := 1) rfl 0 rfl) ?_
     refine at_x1 3 2 (#[true, true, true, true, true, true, true, true, false, false, true, false]) rfl (by kernel_rfl) (by kernel_rfl) rfl rfl ?_
     obtain ⟨b6, H3284, H⟩ := bind_some H
     have hm_ := spec_GridNew.calls (I0 := J265) H3284
     refine eff_call rfl rfl ok31 rfl rfl (show Meets Try.prog 31 ([iV p30, iV p31] : List Value).toArray _ [] _ from hm_) (Mr := ([(g11284, .cells #[iV 0, iV 0, .slice none ([] : List T_impl_Cell).length 0, iV 0, iV 0, .bool false, iV 0, iV 0, iV 0] 40 (0, 0))] :: [(g283, .cells #[iV ((rdA z_impl_Spot b5.2 p25.Cursor).Line), iV ((rdA z_impl_Spot b5.2 p25.Cursor).Col)] 31 (0, 0))] :: [(g269, .cells #[iV b5.1.cols, .slice A271 b5.1.rows.length c272, iV b5.1.col] 69 (0, 0))] :: s270 :: s276 :: [(g32, .cells #[.slice A26 p25.Points.length c27, iV p25.Cursor, iV p25.Mark] 25 (0, 0))] :: [(g33, .cells #[iV 0, iV 0, .slice none ([] : List T_impl_Cell).length 0, iV 0, iV 0, .bool false, iV 0, iV 0, iV 0] 40 (0, 0))] :: Fs)) (List.Perm.refl _) (fun v3285 J3286 M3287 hq3288 hJ3289 => ?_)
     replace hle := hle.trans hJ3289
     replace ho273 := ho273.mono hJ3289
     replace hr28 := hr28.mono hJ3289
     obtain ⟨A3290, c3291, s3292, rfl, rfl, ho3293⟩ := hq3288
     refine at_xS (fun w hs => hs.var (k := 2) rfl 0 rfl) ?_
     refine at_x1 2 8 (#[true, true, true, true, true, true, true, true, true, false, true, false]) rfl (by kernel_rfl) (by kernel_rfl) rfl rfl ?_
     obtain ⟨b7, H9284, H⟩ := bind_some H
     have hm_ := spec_l01Max.calls (I0 := J3286) H9284
     refine eff_call rfl rfl ok32 rfl rfl (show Meets Try.prog 32 ([iV 0, iV (IntKind.i64.wrap ((IntKind.i64.wrap (((rdA z_impl_Spot b5.2 p25.Cursor).Line) - p30)) + 1))] : List Value).toArray _ [] _ from hm_) (Mr := (s3292 :: [(g11284, .cells #[iV 0, iV 0, .slice none ([] : List T_impl_Cell).length 0, iV 0, iV 0, .bool false, iV 0, iV 0, iV 0] 40 (0, 0))] :: [(g283, .cells #[iV ((rdA z_impl_Spot b5.2 p25.Cursor).Line), iV ((rdA z_impl_Spot b5.2 p25.Cursor).Col)] 31 (0, 0))] :: [(g269, .cells #[iV b5.1.cols, .slice A271 b5.1.rows.length c272, iV b5.1.col] 69 (0, 0))] :: s270 :: s276 :: [(g32, .cells #[.slice A26 p25.Points.length c27, iV p25.Cursor, iV p25.Mark] 25 (0, 0))] :: [(g33, .cells #[iV 0, iV 0, .slice none ([] : List T_impl_Cell).length 0, iV 0, iV 0, .bool false, iV 0, iV 0, iV 0] 40 (0, 0))] :: Fs)) (List.Perm.refl _) (fun v9285 J9286 M9287 hq9288 hJ9289 => ?_)
     replace hle := hle.trans hJ9289
     replace ho273 := ho273.mono hJ9289
     replace ho3293 := ho3293.mono hJ9289
     replace hr28 := hr28.mono hJ9289
     obtain ⟨rfl, rfl⟩ := hq9288
     refine at_xS (fun w hs => hs.var (k := 2) rfl 0 rfl) ?_
     refine at_xseg [9] 1 (#[true, true, true, true, true, true, true, true, true, true, true, false]) rfl (by kernel_rfl) [] [3, 4, 10, 11, 13, 14, 58] (L2 := [(3, iV p30), (4, iV p31), (10, .pointer (some ⟨g33, 0, none⟩)), (11, .pointer (some ⟨g269, 0, none⟩)), (13, .pointer (some ⟨g283, 0, none⟩)), (14, .pointer (some ⟨g11284, 0, none⟩)), (58, .agg #[iV b6.Rows, iV b6.Cols, .slice A3290 b6.Cells.length c3291, iV b6.Row, iV b6.Col, .bool b6.Hang, iV b6.Attr, iV b7, iV 0])]) (obs := []) (by kernel_rfl) (by kernel_rfl) (by kernel_rfl) (.inr fun w hs => hs.var (k := 2) rfl 0 rfl) (fun w hS => trivial) (fun w hs => trivial) ?_
     refine at_x1 0 11 (#[true, true, true, true, true, true, true, true, true, true, true, true]) rfl (by kernel_rfl) (by kernel_rfl) rfl rfl ?_
     refine eff_store 1 rfl rfl rfl rfl rfl rfl (.inl (Nat.le_refl _)) rfl (Nat.le_of_ble_eq_true (by kernel_rfl)) rfl ?_
     refine at_sg (s3292 :: [(g11284, .cells #[iV b6.Rows, iV b6.Cols, .slice A3290 b6.Cells.length c3291, iV b6.Row, iV b6.Col, .bool b6.Hang, iV b6.Attr, iV b7, iV 0] 40 (0, 0))] :: [(g283, .cells #[iV ((rdA z_impl_Spot b5.2 p25.Cursor).Line), iV ((rdA z_impl_Spot b5.2 p25.Cursor).Col)] 31 (0, 0))] :: [(g269, .cells #[iV b5.1.cols, .slice A271 b5.1.rows.length c272, iV b5.1.col] 69 (0, 0))] :: s270 :: s276 :: [(g32, .cells #[.slice A26 p25.Points.length c27, iV p25.Cursor, iV p25.Mark] 25 (0, 0))] :: [(g33, .cells #[iV 0, iV 0, .slice none ([] : List T_impl_Cell).length 0, iV 0, iV 0, .bool false, iV 0, iV 0, iV 0] 40 (0, 0))] :: Fs) ?_
     refine at_xX (by kernel_rfl) ?_
     refine at_xend (by kernel_rfl) ?_
     refine at_thn (at_drop (k := 5) rfl rfl ?_)
     refine at_drop (k := 5) rfl rfl ?_
     refine at_sg (s3292 :: [(g11284, .cells #[iV b6.Rows, iV b6.Cols, .slice A3290 b6.Cells.length c3291, iV b6.Row, iV b6.Col, .bool b6.Hang, iV b6.Attr, iV b7, iV 0] 40 (0, 0))] :: [(g283, .cells #[iV ((rdA z_impl_Spot b5.2 p25.Cursor).Line), iV ((rdA z_impl_Spot b5.2 p25.Cursor).Col)] 31 (0, 0))] :: [(g269, .cells #[iV b5.1.cols, .slice A271 b5.1.rows.length c272, iV b5.1.col] 69 (0, 0))] :: s270 :: [(g33, .cells #[iV 0, iV 0, .slice none ([] : List T_impl_Cell).length 0, iV 0, iV 0, .bool false, iV 0, iV 0, iV 0] 40 (0, 0))] :: Fs) ?_
     refine at_perm ((perm_at (k := 1) rfl).trans (((perm_at (k := 2) rfl).trans (((perm_at (k := 1) rfl).trans (((perm_at (k := 2) rfl).trans ((List.Perm.refl _).cons _)).cons _)).cons _)).cons _)) ?_
     refine at_keep [3, 4, 10, 11, 13, 14] (L2 := [(3, iV p30), (4, iV p31), (10, .pointer (some ⟨g33, 0, none⟩)), (11, .pointer (some ⟨g269, 0, none⟩)), (13, .pointer (some ⟨g283, 0, none⟩)), (14, .pointer (some ⟨g11284, 0, none⟩))]) rfl ?_
     exact Jn284 _ _ _ ⟨_, A3290, b6, b7, c3291, g11284, s3292, rfl, rfl, H, hle, by omega, ho273, ho3293⟩
  ·
   intro Jn36
   refine at_join (fun L I Ms => ∃ (k157 : Nat), ∃ (x156 : Bool), L = [(0, .slice A22 p21.length c23), (2, .bool p29), (3, iV p30), (4, iV p31), (6, .pointer (some ⟨g32, 0, none⟩)), (10, .pointer (some ⟨g33, 0, none⟩)), (34, .bool x156)] ∧ Ms = ([(g32, .cells #[.slice A26 p25.Points.length c27, iV p25.Cursor, iV p25.Mark] 25 (0, 0))] :: [(g33, .cells #[iV 0, iV 0, .slice none ([] : List T_impl_Cell).length 0, iV 0, iV 0, .bool false, iV 0, iV 0, iV 0] 40 (0, 0))] :: Fs) ∧ spec_ViewOf_j2 k157 x156 p21 p25 p29 p30 p31 = some r ∧ ImmLe I0 I ∧ k157 ≤ k ∧ Rd (Kd.int .i64) I A22 c23 p21 ∧ Rd (Kd.int .i64) I A26 c27 p25.Points) ?_ ?_
   ·
    clear H hle hr24 hr28
    intro L I Ms h_; obtain ⟨k157, x156, hL_, hM_, H, hle, hk158, hr24, hr28⟩ := h_; rw [hL_, hM_]; clear hL_ hM_ L Ms
    rcases k157 with _ | k157
    · exact (no_none H).elim
    rw [spec_ViewOf_j2] at H
    by_cases h159 : x156 = true
    ·
     rw [if_pos h159] at H
     refine at_cond_t rfl (h159) ?_
     refine at_seq (at_ops [0, 1] rfl ?_)
     refine at_seg0 [0] [1] [] [10, 35] [(10, .pointer (some ⟨g33, 0, none⟩)), (35, .agg #[iV 0, iV 0, .slice none ([] : List T_impl_Cell).length 0, iV 0, iV 0, .bool false, iV 0, iV 0, iV 1])] ?_
     refine at_eff rfl rfl ?_
     refine eff_store 1 rfl rfl rfl rfl rfl rfl (.inl (Nat.le_refl _)) rfl (Nat.le_of_ble_eq_true (by kernel_rfl)) rfl ?_
     refine at_sg ([(g32, .cells #[.slice A26 p25.Points.length c27, iV p25.Cursor, iV p25.Mark] 25 (0, 0))] :: [(g33, .cells #[iV 0, iV 0, .slice none ([] : List T_impl_Cell).length 0, iV 0, iV 0, .bool false, iV 0, iV 0, iV 1] 40 (0, 0))] :: Fs) ?_
     refine at_end (at_thn (at_ret (at_then_ret (at_nilseg ?_))))
     have ho160 := Own.nil k_impl_Cell 71 I
     obtain rfl := Option.some.inj H
     refine at_drop (k := 1) rfl rfl ?_
     refine at_done (vs := [.agg #[iV 0, iV 0, .slice none ([] : List T_impl_Cell).length 0, iV 0, iV 0, .bool false, iV 0, iV 0, iV 1]]) (obs := [fun w => CellsAt w ⟨g33, 0, none⟩ [iV 0, iV 0, .slice none ([] : List T_impl_Cell).length 0, iV 0, iV 0, .bool false, iV 0, iV 0, iV 1] 0]) (.inl rfl) [.cell 10 40] [(10, .agg #[iV 0, iV 0, .slice none ([] : List T_impl_Cell).length 0, iV 0, iV 0, .bool false, iV 0, iV 0, iV 1])] rfl (by kernel_rfl) (fun w hs => cellsV (k := 1) hs rfl _ 0 (Nat.le_of_ble_eq_true (by kernel_rfl)) rfl) (fun w hs => ⟨_, _, [[]], rfl, ⟨none, 0, [], rfl, rfl, ho160⟩, hle, (hs.tail (perm_at (k := 1) rfl))⟩)
    ·
     rw [if_neg h159] at H
     refine at_cond_f rfl (ff_of h159) ?_
     refine at_skip (at_thn (at_keep [0, 2, 3, 4, 6, 10] (L2 := [(0, .slice A22 p21.length c23), (2, .bool p29), (3, iV p30), (4, iV p31), (6, .pointer (some ⟨g32, 0, none⟩)), (10, .pointer (some ⟨g33, 0, none⟩))]) rfl ?_))
     exact Jn36 _ _ _ ⟨_, rfl, rfl, H, hle, by omega, hr24, hr28⟩
   ·
    intro Jn36
    refine at_ops [0, 1, 2, 3, 4, 5, 6, 7, 8, 9, 10, 11, 12, 13] rfl ?_
    refine at_seg0 [0] [1, 2, 3, 4, 5, 6, 7, 8, 9, 10, 11, 12, 13] [] [0, 2, 3, 4, 6, 10, 21] [(0, .slice A22 p21.length c23), (2, .bool p29), (3, iV p30), (4, iV p31), (6, .pointer (some ⟨g32, 0, none⟩)), (10, .pointer (some ⟨g33, 0, none⟩)), (21, .slice A22 p21.length c23)] ?_
    refine at_eff rfl rfl ?_
    obtain ⟨b2, H36, H⟩ := bind_some H
    have hm_ := spec_PointsRight.calls (I0 := I0) H36 hr24
    refine eff_call rfl rfl ok24 rfl rfl (show Meets Try.prog 24 ([.slice A22 p21.length c23] : List Value).toArray _ [] _ from hm_) (Mr := ([(g33, .cells #[iV 0, iV 0, .slice none ([] : List T_impl_Cell).length 0, iV 0, iV 0, .bool false, iV 0, iV 0, iV 0] 40 (0, 0))] :: [(g32, .cells #[.slice A26 p25.Points.length c27, iV p25.Cursor, iV p25.Mark] 25 (0, 0))] :: Fs)) (List.Perm.refl _) (fun v37 J38 M39 hq40 hJ41 => ?_)
    replace hle := hle.trans hJ41
    replace hr24 := hr24.mono hJ41
    replace hr28 := hr28.mono hJ41
    obtain ⟨rfl, rfl⟩ := hq40
    by_cases h42 : b2 = true
    ·
     rw [if_pos h42] at H
     refine at_seg1 [2, 3, 4] [5, 6, 7, 8, 9, 10, 11, 12, 13] [(3, .bool false), (4, .agg #[.slice A26 p25.Points.length c27, iV p25.Cursor, iV p25.Mark])] [0, 2, 3, 4, 6, 10, 24, 25] [(0, .slice A22 p21.length c23), (2, .bool p29), (3, iV p30), (4, iV p31), (6, .pointer (some ⟨g32, 0, none⟩)), (10, .pointer (some ⟨g33, 0, none⟩)), (24, .bool false), (25, .agg #[.slice A26 p25.Points.length c27, iV p25.Cursor, iV p25.Mark])] [fun _ => (.bool (!b2) : Value) = .bool false, fun w => CellsAt w ⟨g32, 0, none⟩ [.slice A26 p25.Points.length c27, iV p25.Cursor, iV p25.Mark] 0] (fun w hs => ⟨congrArg Value.bool (not_ff (h42)), cellsV (k := 1) hs rfl _ 0 (Nat.le_of_ble_eq_true (by kernel_rfl)) rfl⟩) ?_
     refine at_eff rfl rfl ?_
     obtain ⟨b3, H43, H⟩ := bind_some H
     have hm_ := spec_BufRight.calls (I0 := J38) H43 hr28
     refine eff_call rfl rfl ok25 rfl rfl (show Meets Try.prog 25 ([.agg #[.slice A26 p25.Points.length c27, iV p25.Cursor, iV p25.Mark]] : List Value).toArray _ [] _ from hm_) (Mr := ([(g33, .cells #[iV 0, iV 0, .slice none ([] : List T_impl_Cell).length 0, iV 0, iV 0, .bool false, iV 0, iV 0, iV 0] 40 (0, 0))] :: [(g32, .cells #[.slice A26 p25.Points.length c27, iV p25.Cursor, iV p25.Mark] 25 (0, 0))] :: Fs)) (List.Perm.refl _) (fun v44 J45 M46 hq47 hJ48 => ?_)
     replace hle := hle.trans hJ48
     replace hr24 := hr24.mono hJ48
     replace hr28 := hr28.mono hJ48
     obtain ⟨rfl, rfl⟩ := hq47
     by_cases h49 : b3 = true
     ·
      rw [if_pos h49] at H
      refine at_seg1 [6, 7, 8, 9, 10] [11, 12, 13] [(8, .bool false)] [0, 2, 3, 4, 6, 10, 29, 30, 31] [(0, .slice A22 p21.length c23), (2, .bool p29), (3, iV p30), (4, iV p31), (6, .pointer (some ⟨g32, 0, none⟩)), (10, .pointer (some ⟨g33, 0, none⟩)), (29, .bool false), (30, iV p30), (31, iV p31)] [fun _ => (.bool (!b3) : Value) = .bool false] (fun w hs => congrArg Value.bool (not_ff (h49))) ?_
      refine at_eff rfl rfl ?_
      obtain ⟨b4, H50, H⟩ := bind_some H
      have hm_ := spec_l08Size.calls (I0 := J45) H50
      refine eff_call rfl rfl ok26 rfl rfl (show Meets Try.prog 26 ([iV p30, iV p31] : List Value).toArray _ [] _ from hm_) (Mr := ([(g33, .cells #[iV 0, iV 0, .slice none ([] : List T_impl_Cell).length 0, iV 0, iV 0, .bool false, iV 0, iV 0, iV 0] 40 (0, 0))] :: [(g32, .cells #[.slice A26 p25.Points.length c27, iV p25.Cursor, iV p25.Mark] 25 (0, 0))] :: Fs)) (List.Perm.refl _) (fun v51 J52 M53 hq54 hJ55 => ?_)
      replace hle := hle.trans hJ55
      replace hr24 := hr24.mono hJ55
      replace hr28 := hr28.mono hJ55
      obtain ⟨rfl, rfl⟩ := hq54
      refine at_seg0 [12, 13] [] [] [0, 2, 3, 4, 6, 10, 34] [(0, .slice A22 p21.length c23), (2, .bool p29), (3, iV p30), (4, iV p31), (6, .pointer (some ⟨g32, 0, none⟩)), (10, .pointer (some ⟨g33, 0, none⟩)), (34, .bool (!b4))] ?_
      refine at_end (at_thn (at_perm ((perm_at (k := 1) rfl).trans ((List.Perm.refl _).cons _)) ?_))
      refine at_keep [0, 2, 3, 4, 6, 10, 34] (L2 := [(0, .slice A22 p21.length c23), (2, .bool p29), (3, iV p30), (4, iV p31), (6, .pointer (some ⟨g32, 0, none⟩)), (10, .pointer (some ⟨g33, 0, none⟩)), (34, .bool (!b4))]) rfl ?_
      exact Jn36 _ _ _ ⟨_, (!b4), rfl, rfl, H, hle, by omega, hr24, hr28⟩
     ·
      rw [if_neg h49] at H
      refine at_seg1 [6, 7, 8, 9, 10] [11, 12, 13] [(8, .bool true)] [0, 2, 3, 4, 6, 10, 29, 30, 31] [(0, .slice A22 p21.length c23), (2, .bool p29), (3, iV p30), (4, iV p31), (6, .pointer (some ⟨g32, 0, none⟩)), (10, .pointer (some ⟨g33, 0, none⟩)), (29, .bool true), (30, undef), (31, undef)] [fun _ => (.bool (!b3) : Value) = .bool true] (fun w hs => congrArg Value.bool (not_tt (ff_of h49))) ?_
      refine at_seg0 [11, 12, 13] [] [] [0, 2, 3, 4, 6, 10, 34] [(0, .slice A22 p21.length c23), (2, .bool p29), (3, iV p30), (4, iV p31), (6, .pointer (some ⟨g32, 0, none⟩)), (10, .pointer (some ⟨g33, 0, none⟩)), (34, .bool true)] ?_
      refine at_end (at_thn (at_perm ((perm_at (k := 1) rfl).trans ((List.Perm.refl _).cons _)) ?_))
      refine at_keep [0, 2, 3, 4, 6, 10, 34] (L2 := [(0, .slice A22 p21.length c23), (2, .bool p29), (3, iV p30), (4, iV p31), (6, .pointer (some ⟨g32, 0, none⟩)), (10, .pointer (some ⟨g33, 0, none⟩)), (34, .bool true)]) rfl ?_
      exact Jn36 _ _ _ ⟨_, true, rfl, rfl, H, hle, by omega, hr24, hr28⟩
    ·
     rw [if_neg h42] at H
     refine at_seg1 [2, 3, 4] [5, 6, 7, 8, 9, 10, 11, 12, 13] [(3, .bool true)] [0, 2, 3, 4, 6, 10, 24, 25] [(0, .slice A22 p21.length c23), (2, .bool p29), (3, iV p30), (4, iV p31), (6, .pointer (some ⟨g32, 0, none⟩)), (10, .pointer (some ⟨g33, 0, none⟩)), (24, .bool true), (25, undef)] [fun _ => (.bool (!b2) : Value) = .bool true] (fun w hs => congrArg Value.bool (not_tt (ff_of h42))) ?_
     refine at_seg0 [5, 6, 7, 8, 9, 10] [11, 12, 13] [] [0, 2, 3, 4, 6, 10, 29, 30, 31] [(0, .slice A22 p21.length c23), (2, .bool p29), (3, iV p30), (4, iV p31), (6, .pointer (some ⟨g32, 0, none⟩)), (10, .pointer (some ⟨g33, 0, none⟩)), (29, .bool true), (30, undef), (31, undef)] ?_
     refine at_seg0 [11, 12, 13] [] [] [0, 2, 3, 4, 6, 10, 34] [(0, .slice A22 p21.length c23), (2, .bool p29), (3, iV p30), (4, iV p31), (6, .pointer (some ⟨g32, 0, none⟩)), (10, .pointer (some ⟨g33, 0, none⟩)), (34, .bool true)] ?_
     refine at_end (at_thn (at_perm ((perm_at (k := 1) rfl).trans ((List.Perm.refl _).cons _)) ?_))
     refine at_keep [0, 2, 3, 4, 6, 10, 34] (L2 := [(0, .slice A22 p21.length c23), (2, .bool p29), (3, iV p30), (4, iV p31), (6, .pointer (some ⟨g32, 0, none⟩)), (10, .pointer (some ⟨g33, 0, none⟩)), (34, .bool true)]) rfl ?_
     exact Jn36 _ _ _ ⟨_, true, rfl, rfl, H, hle, by omega, hr24, hr28⟩
end Go.Proofs.Ytnhnipdanpcbeaa
