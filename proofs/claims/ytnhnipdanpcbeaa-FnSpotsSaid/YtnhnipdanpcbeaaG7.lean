import Derived.Test.YtnhnipdanpcbeaaG6
namespace Go.Proofs.Ytnhnipdanpcbeaa
open Go Eng
set_option linter.unusedVariables false
set_option linter.unusedSimpArgs false
/-! ### (*loop.example/g00146/impl.layout).spot: function 23 -/
def impl_layout_spot (p89 : T_impl_layout) : Option T_impl_Spot := if p89.col = p89.cols then (some (⟨IntKind.i64.wrap (p89.row + 1), 0⟩ : T_impl_Spot)) else (some (⟨p89.row, p89.col⟩ : T_impl_Spot))
set_option maxHeartbeats 4000000 in
set_option maxRecDepth 100000 in
theorem impl_layout_spot.calls {p89 : T_impl_layout} {r : T_impl_Spot} {I0 : Imm} {g88 : Nat} {A90 : Option Addr} {c91 : Nat} {s92 : Seg} {A94 : Option Addr} {c95 : Nat} {s96 : Seg} (H : impl_layout_spot p89 = some r) (ho93 : DOwn d_impl_seen 74 I0 A90 c91 p89.cells s92) (ho97 : Own k_impl_Spot 31 I0 A94 c95 p89.spots s96) :
    Meets Try.prog 23 ([.pointer (some ⟨g88, 0, none⟩)] : List Value).toArray I0 [[(g88, .cells #[.int .i64 p89.cols, .int .i64 p89.row, .int .i64 p89.col, .slice A90 p89.cells.length c91, .bool p89.inRow, .slice A94 p89.spots.length c95] 63 (0, 0))], s92, s96] (fun v J M => v = .agg #[.int .i64 r.Line, .int .i64 r.Col] ∧ M = [[(g88, .cells #[.int .i64 p89.cols, .int .i64 p89.row, .int .i64 p89.col, .slice A90 p89.cells.length c91, .bool p89.inRow, .slice A94 p89.spots.length c95] 63 (0, 0))], s92, s96]) := by
  have hle := ImmLe.refl I0
  unfold impl_layout_spot at H
  refine fn_intro (fn := Try.f23) 27 Try.func23 rfl rfl rfl (fun E Fs => ?_)
  refine at_seq ?_
  refine at_ops [0] rfl ?_
  refine at_eff rfl rfl ?_
  obtain ⟨i_, hi_, hz_, _, _⟩ := info31
  refine eff_alloc rfl rfl hi_ hz_ #[.int .i64 0, .int .i64 0] rfl (fun g98 => ?_)
  refine at_end ?_
  refine at_thn ?_
  refine at_seq ?_
  refine at_seq ?_
  refine at_regd hmo [(3, .int .i64 p89.col), (7, .int .i64 p89.cols)] [0, 2, 11] (by kernel_rfl) (L2 := [(0, .pointer (some ⟨g88, 0, none⟩)), (2, .pointer (some ⟨g98, 0, none⟩)), (11, .bool (p89.col == p89.cols))]) (obs := [fun w => w.cell? ⟨g88, 2, none⟩ = some (.int .i64 p89.col), fun w => w.cell? ⟨g88, 0, none⟩ = some (.int .i64 p89.cols)]) (by kernel_rfl) ?_ ?_
  · intro w hs; exact ⟨hs.var (k := 1) rfl 2 rfl, hs.var (k := 1) rfl 0 rfl⟩
  refine at_thn ?_
  by_cases h99 : p89.col = p89.cols
  · rw [if_pos h99] at H
    refine at_cond_t rfl (beq_iff_eq.2 h99) ?_
    refine at_seq ?_
    refine at_ops [0, 1, 2, 3, 4, 5, 6] rfl ?_
    refine at_seg [0, 1, 2, 3, 4, 5] [6] rfl [(3, .int .i64 p89.row)] [2, 17] (L2 := [(2, .pointer (some ⟨g98, 0, none⟩)), (17, .agg #[.int .i64 (IntKind.i64.wrap (p89.row + 1)), .int .i64 0])]) (obs := [fun w => w.cell? ⟨g88, 1, none⟩ = some (.int .i64 p89.row)]) (by kernel_rfl) ?_ ?_
    · intro w hs; exact hs.var (k := 1) rfl 1 rfl
    refine at_eff rfl rfl ?_
    refine eff_store 0 rfl rfl rfl rfl rfl rfl (.inl (Nat.le_refl _)) rfl (Nat.le_of_ble_eq_true (by kernel_rfl)) rfl ?_
    refine at_eqM (M1 := ([(g98, .cells #[.int .i64 (IntKind.i64.wrap (p89.row + 1)), .int .i64 0] 31 (0, 0))] :: [(g88, .cells #[.int .i64 p89.cols, .int .i64 p89.row, .int .i64 p89.col, .slice A90 p89.cells.length c91, .bool p89.inRow, .slice A94 p89.spots.length c95] 63 (0, 0))] :: s92 :: s96 :: Fs)) (M2 := ([(g98, .cells #[.int .i64 (IntKind.i64.wrap (p89.row + 1)), .int .i64 0] 31 (0, 0))] :: [(g88, .cells #[.int .i64 p89.cols, .int .i64 p89.row, .int .i64 p89.col, .slice A90 p89.cells.length c91, .bool p89.inRow, .slice A94 p89.spots.length c95] 63 (0, 0))] :: s92 :: s96 :: Fs)) rfl rfl ?_
    refine at_end ?_
    refine at_thn ?_
    refine at_ret ?_
    refine at_then_ret ?_
    obtain rfl := Option.some.inj H
    refine at_perm ((perm_at (k := 1) rfl).trans (((perm_at (k := 1) rfl).trans (((perm_at (k := 1) rfl).trans ((List.Perm.refl _).cons _)).cons _)).cons _)) ?_
    refine at_done (vs := [.agg #[.int .i64 (IntKind.i64.wrap (p89.row + 1)), .int .i64 0]]) (obs := [fun w => CellsAt w ⟨g98, 0, none⟩ [.int .i64 (IntKind.i64.wrap (p89.row + 1)), .int .i64 0] 0]) (.inl rfl) [.cell 2 31] [(2, .agg #[.int .i64 (IntKind.i64.wrap (p89.row + 1)), .int .i64 0])] rfl (by kernel_rfl) (fun w hs => cellsV (k := 3) hs rfl _ 0 (Nat.le_of_ble_eq_true (by kernel_rfl)) rfl) (fun w hs => ⟨_, _, [[(g88, .cells #[.int .i64 p89.cols, .int .i64 p89.row, .int .i64 p89.col, .slice A90 p89.cells.length c91, .bool p89.inRow, .slice A94 p89.spots.length c95] 63 (0, 0))], s92, s96], rfl, ⟨rfl, rfl⟩, hle, (hs.tail (perm_at (k := 3) rfl))⟩)
  · rw [if_neg h99] at H
    refine at_cond_f rfl (beq_eq_false_iff_ne.2 h99) ?_
    refine at_skip ?_
    refine at_thn ?_
    refine at_seq ?_
    refine at_x hmo (fun w => w.cell? ⟨g88, 1, none⟩ = some (.int .i64 p89.row) ∧ w.cell? ⟨g88, 2, none⟩ = some (.int .i64 p89.col)) [9] ?_
    refine at_xseg [0, 1, 2, 3, 4, 5, 6, 7, 8] 1 (#[true, true, true, true, true, true, true, true, true, false]) rfl (by kernel_rfl) [(3, .int .i64 p89.row), (7, .int .i64 p89.col)] [2, 26] (L2 := [(2, .pointer (some ⟨g98, 0, none⟩)), (26, .agg #[.int .i64 p89.row, .int .i64 p89.col])]) (obs := [fun w => w.cell? ⟨g88, 1, none⟩ = some (.int .i64 p89.row), fun w => w.cell? ⟨g88, 2, none⟩ = some (.int .i64 p89.col)]) (by kernel_rfl) (by kernel_rfl) (by kernel_rfl) (.inr fun w hs => ⟨hs.var (k := 1) rfl 1 rfl, hs.var (k := 1) rfl 2 rfl⟩) (fun w hS => ⟨hS.1, hS.2⟩) (fun w hs => ⟨hs.var (k := 1) rfl 1 rfl, hs.var (k := 1) rfl 2 rfl⟩) ?_
    refine at_x1 0 9 (#[true, true, true, true, true, true, true, true, true, true]) rfl (by kernel_rfl) (by kernel_rfl) rfl rfl ?_
    refine eff_store 0 rfl rfl rfl rfl rfl rfl (.inl (Nat.le_refl _)) rfl (Nat.le_of_ble_eq_true (by kernel_rfl)) rfl ?_
    refine at_eqM (M1 := ([(g98, .cells #[.int .i64 p89.row, .int .i64 p89.col] 31 (0, 0))] :: [(g88, .cells #[.int .i64 p89.cols, .int .i64 p89.row, .int .i64 p89.col, .slice A90 p89.cells.length c91, .bool p89.inRow, .slice A94 p89.spots.length c95] 63 (0, 0))] :: s92 :: s96 :: Fs)) (M2 := ([(g98, .cells #[.int .i64 p89.row, .int .i64 p89.col] 31 (0, 0))] :: [(g88, .cells #[.int .i64 p89.cols, .int .i64 p89.row, .int .i64 p89.col, .slice A90 p89.cells.length c91, .bool p89.inRow, .slice A94 p89.spots.length c95] 63 (0, 0))] :: s92 :: s96 :: Fs)) rfl rfl ?_
    refine at_xX (by kernel_rfl) ?_
    refine at_xend (by kernel_rfl) ?_
    refine at_thn ?_
    refine at_ret ?_
    obtain rfl := Option.some.inj H
    refine at_perm ((perm_at (k := 1) rfl).trans (((perm_at (k := 1) rfl).trans (((perm_at (k := 1) rfl).trans ((List.Perm.refl _).cons _)).cons _)).cons _)) ?_
    refine at_done (vs := [.agg #[.int .i64 p89.row, .int .i64 p89.col]]) (obs := [fun w => CellsAt w ⟨g98, 0, none⟩ [.int .i64 p89.row, .int .i64 p89.col] 0]) (.inl rfl) [.cell 2 31] [(2, .agg #[.int .i64 p89.row, .int .i64 p89.col])] rfl (by kernel_rfl) (fun w hs => cellsV (k := 3) hs rfl _ 0 (Nat.le_of_ble_eq_true (by kernel_rfl)) rfl) (fun w hs => ⟨_, _, [[(g88, .cells #[.int .i64 p89.cols, .int .i64 p89.row, .int .i64 p89.col, .slice A90 p89.cells.length c91, .bool p89.inRow, .slice A94 p89.spots.length c95] 63 (0, 0))], s92, s96], rfl, ⟨rfl, rfl⟩, hle, (hs.tail (perm_at (k := 3) rfl))⟩)

/-! ### loop.example/g00146/impl.lay: function 22 -/
mutual
def impl_lay_l1 : Nat → Int → Int → Int → Int → (List T_impl_seen) → Bool → (List T_impl_Spot) → (List Int) → T_impl_Buf → Bool → Option T_impl_layout
  | 0, _, _, _, _, _, _, _, _, _, _ => none
  | k + 1, x403, x404, x405, x406, x407, x412, x413, p51, p55, p59 => if x403 < (p51.length : Int) then (if 0 ≤ x403 then ((impl_layout_point k (⟨x404, x405, x406, x407, x412, x413⟩ : T_impl_layout) (rdA 0 p51 x403) 0).bind fun b11 => (impl_lay_l1 k (IntKind.i64.wrap (x403 + 1)) b11.cols b11.row b11.col b11.cells b11.inRow b11.spots p51 p55 p59)) else none) else (impl_lay_j0 k x404 x405 x406 x407 x412 x413 p55 p59)
def impl_lay_j0 : Nat → Int → Int → Int → (List T_impl_seen) → Bool → (List T_impl_Spot) → T_impl_Buf → Bool → Option T_impl_layout
  | 0, _, _, _, _, _, _, _, _ => none
  | k + 1, x166, x167, x168, x169, x174, x175, p55, p59 => (impl_Buf_region p55).bind fun b4 => (impl_lay_l0 k 0 x166 x167 x168 x169 x174 x175 b4 p55 p59)
def impl_lay_l0 : Nat → Int → Int → Int → Int → (List T_impl_seen) → Bool → (List T_impl_Spot) → (Int × Int) → T_impl_Buf → Bool → Option T_impl_layout
  | 0, _, _, _, _, _, _, _, _, _, _ => none
  | k + 1, x318, x319, x320, x321, x322, x327, x328, b4, p55, p59 => if x318 < (p55.Points.length : Int) then (if 0 ≤ x318 then ((impl_layout_spot (⟨x319, x320, x321, x322, x327, x328⟩ : T_impl_layout)).bind fun b6 => (if x328.length + ([b6] : List T_impl_Spot).length ≤ 8796093022208 then (if p59 = true then ((impl_within x318 b4.1 (IntKind.i64.wrap (b4.2 - 1))).bind fun b7 => (if b7 = true then ((impl_layout_point k (⟨x319, x320, x321, x322, x327, (x328 ++ ([b6] : List T_impl_Spot))⟩ : T_impl_layout) (rdA 0 p55.Points x318) 1).bind fun b8 => (impl_lay_l0 k (IntKind.i64.wrap (x318 + 1)) b8.cols b8.row b8.col b8.cells b8.inRow b8.spots b4 p55 p59)) else ((impl_layout_point k (⟨x319, x320, x321, x322, x327, (x328 ++ ([b6] : List T_impl_Spot))⟩ : T_impl_layout) (rdA 0 p55.Points x318) 0).bind fun b9 => (impl_lay_l0 k (IntKind.i64.wrap (x318 + 1)) b9.cols b9.row b9.col b9.cells b9.inRow b9.spots b4 p55 p59)))) else ((impl_layout_point k (⟨x319, x320, x321, x322, x327, (x328 ++ ([b6] : List T_impl_Spot))⟩ : T_impl_layout) (rdA 0 p55.Points x318) 0).bind fun b10 => (impl_lay_l0 k (IntKind.i64.wrap (x318 + 1)) b10.cols b10.row b10.col b10.cells b10.inRow b10.spots b4 p55 p59))) else none)) else none) else (impl_lay_j1 k x319 x320 x321 x322 x327 x328)
def impl_lay_j1 : Nat → Int → Int → Int → (List T_impl_seen) → Bool → (List T_impl_Spot) → Option T_impl_layout
  | 0, _, _, _, _, _, _ => none
  | k + 1, x289, x290, x291, x292, x297, x298 => (impl_layout_spot (⟨x289, x290, x291, x292, x297, x298⟩ : T_impl_layout)).bind fun b5 => (if x298.length + ([b5] : List T_impl_Spot).length ≤ 8796093022208 then (some (⟨x289, x290, x291, x292, x297, (x298 ++ ([b5] : List T_impl_Spot))⟩ : T_impl_layout)) else none)
end
def impl_lay (k : Nat) (p51 : List Int) (p55 : T_impl_Buf) (p59 : Bool) (p60 : Int) : Option T_impl_layout := impl_lay_l1 k 0 p60 0 0 ([] : List T_impl_seen) false ([] : List T_impl_Spot) p51 p55 p59
set_option maxHeartbeats 4000000 in
set_option maxRecDepth 100000 in
theorem impl_lay.calls {k : Nat} {p51 : List Int} {p55 : T_impl_Buf} {p59 : Bool} {p60 : Int} {r : T_impl_layout} {I0 : Imm} {A52 : Option Addr} {c53 : Nat} {A56 : Option Addr} {c57 : Nat} (H : impl_lay k p51 p55 p59 p60 = some r) (hr54 : Rd (Kd.int .i64) I0 A52 c53 p51) (hr58 : Rd (Kd.int .i64) I0 A56 c57 p55.Points) :
    Meets Try.prog 22 ([.slice A52 p51.length c53, .agg #[.slice A56 p55.Points.length c57, .int .i64 p55.Cursor, .int .i64 p55.Mark], .bool p59, .int .i64 p60] : List Value).toArray I0 [] (fun v J M => ∃ (g_1 : Nat) (A_2 : Option Addr) (c_3 : Nat) (s_4 : Seg) (A_5 : Option Addr) (c_6 : Nat) (s_7 : Seg), v = .pointer (some ⟨g_1, 0, none⟩) ∧ M = [[(g_1, .cells #[.int .i64 r.cols, .int .i64 r.row, .int .i64 r.col, .slice A_2 r.cells.length c_3, .bool r.inRow, .slice A_5 r.spots.length c_6] 63 (0, 0))], s_4, s_7] ∧ DOwn d_impl_seen 74 J A_2 c_3 r.cells s_4 ∧ Own k_impl_Spot 31 J A_5 c_6 r.spots s_7) := by
  have hle := ImmLe.refl I0
  unfold impl_lay at H
  refine fn_intro (fn := Try.f22) 78 Try.func22 rfl rfl rfl (fun E Fs => ?_)
  refine at_seq ?_
  refine at_ops [0, 1] rfl ?_
  refine at_eff rfl rfl ?_
  refine eff_box rfl rfl rfl #[.slice A56 p55.Points.length c57, .int .i64 p55.Cursor, .int .i64 p55.Mark] rfl (fun g61 => ?_)
  refine at_seg [1] [] rfl [] [0, 2, 3, 5] (L2 := [(0, .slice A52 p51.length c53), (2, .bool p59), (3, .int .i64 p60), (5, .pointer (some ⟨g61, 0, none⟩))]) (obs := []) (by kernel_rfl) ?_ ?_
  · intro w hs; exact trivial
  refine at_end ?_
  refine at_thn ?_
  refine at_seq ?_
  refine at_ops [0, 1, 2, 3] rfl ?_
  refine at_seg [0, 1] [2, 3] rfl [] [0, 2, 5, 18] (L2 := [(0, .slice A52 p51.length c53), (2, .bool p59), (5, .pointer (some ⟨g61, 0, none⟩)), (18, .agg #[.int .i64 p60, .int .i64 0, .int .i64 0, .slice none ([] : List T_impl_seen).length 0, .bool false, .slice none ([] : List T_impl_Spot).length 0])]) (obs := []) (by kernel_rfl) ?_ ?_
  · intro w hs; exact trivial
  refine at_eff rfl rfl ?_
  refine eff_box rfl rfl rfl #[.int .i64 p60, .int .i64 0, .int .i64 0, .slice none ([] : List T_impl_seen).length 0, .bool false, .slice none ([] : List T_impl_Spot).length 0] rfl (fun g62 => ?_)
  refine at_seg [3] [] rfl [] [0, 2, 5, 9] (L2 := [(0, .slice A52 p51.length c53), (2, .bool p59), (5, .pointer (some ⟨g61, 0, none⟩)), (9, .pointer (some ⟨g62, 0, none⟩))]) (obs := []) (by kernel_rfl) ?_ ?_
  · intro w hs; exact trivial
  refine at_end ?_
  refine at_thn ?_
  refine at_join (fun L I Ms => ∃ (k180 : Nat), ∃ (x166 : Int) (x167 : Int) (x168 : Int) (x169 : List T_impl_seen) (A170 : Option Addr) (c171 : Nat) (s172 : Seg) (x174 : Bool) (x175 : List T_impl_Spot) (A176 : Option Addr) (c177 : Nat) (s178 : Seg), L = [(2, .bool p59), (5, .pointer (some ⟨g61, 0, none⟩)), (9, .pointer (some ⟨g62, 0, none⟩))] ∧ Ms = ([(g61, .cells #[.slice A56 p55.Points.length c57, .int .i64 p55.Cursor, .int .i64 p55.Mark] 25 (0, 0))] :: [(g62, .cells #[.int .i64 x166, .int .i64 x167, .int .i64 x168, .slice A170 x169.length c171, .bool x174, .slice A176 x175.length c177] 63 (0, 0))] :: s172 :: s178 :: Fs) ∧ impl_lay_j0 k180 x166 x167 x168 x169 x174 x175 p55 p59 = some r ∧ ImmLe I0 I ∧ k180 ≤ k ∧ DOwn d_impl_seen 74 I A170 c171 x169 s172 ∧ Own k_impl_Spot 31 I A176 c177 x175 s178 ∧ Rd (Kd.int .i64) I A56 c57 p55.Points) ?_ ?_
  · clear H hle hr54 hr58
    intro L I Ms h_; obtain ⟨k180, x166, x167, x168, x169, A170, c171, s172, x174, x175, A176, c177, s178, hL_, hM_, H, hle, hk181, ho173, ho179, hr58⟩ := h_; rw [hL_, hM_]; clear hL_ hM_ L Ms
    rcases k180 with _ | k180
    · exact (no_none H).elim
    rw [impl_lay_j0] at H
    refine at_seq ?_
    refine at_ops [0, 1, 2, 3, 4, 5] rfl ?_
    refine at_eff rfl rfl ?_
    obtain ⟨b4, H182, H⟩ := bind_some H
    refine eff_call rfl rfl ok48 rfl rfl (show Meets Try.prog 48 ([.pointer (some ⟨g61, 0, none⟩)] : List Value).toArray _ [[(g61, .cells #[.slice A56 p55.Points.length c57, .int .i64 p55.Cursor, .int .i64 p55.Mark] 25 (0, 0))]] _ from impl_Buf_region.calls H182 hr58) (Mr := ([(g62, .cells #[.int .i64 x166, .int .i64 x167, .int .i64 x168, .slice A170 x169.length c171, .bool x174, .slice A176 x175.length c177] 63 (0, 0))] :: s172 :: s178 :: Fs)) (List.Perm.refl _) (fun v183 J184 M185 hq186 hJ187 => ?_)
    replace hle := hle.trans hJ187
    replace ho173 := ho173.mono hJ187
    replace ho179 := ho179.mono hJ187
    replace hr58 := hr58.mono hJ187
    obtain ⟨rfl, rfl⟩ := hq186
    refine at_seg [1, 2, 3, 4, 5] [] rfl [] [2, 5, 9, 12, 13] (L2 := [(2, .bool p59), (5, .pointer (some ⟨g61, 0, none⟩)), (9, .pointer (some ⟨g62, 0, none⟩)), (12, .int .i64 b4.1), (13, .int .i64 b4.2)]) (obs := []) (by kernel_rfl) ?_ ?_
    · intro w hs; exact trivial
    refine at_end ?_
    refine at_thn ?_
    refine at_join (fun L I Ms => ∃ (k303 : Nat), ∃ (x289 : Int) (x290 : Int) (x291 : Int) (x292 : List T_impl_seen) (A293 : Option Addr) (c294 : Nat) (s295 : Seg) (x297 : Bool) (x298 : List T_impl_Spot) (A299 : Option Addr) (c300 : Nat) (s301 : Seg), L = [(9, .pointer (some ⟨g62, 0, none⟩))] ∧ Ms = ([(g62, .cells #[.int .i64 x289, .int .i64 x290, .int .i64 x291, .slice A293 x292.length c294, .bool x297, .slice A299 x298.length c300] 63 (0, 0))] :: s295 :: s301 :: Fs) ∧ impl_lay_j1 k303 x289 x290 x291 x292 x297 x298 = some r ∧ ImmLe I0 I ∧ k303 ≤ k180 ∧ DOwn d_impl_seen 74 I A293 c294 x292 s295 ∧ Own k_impl_Spot 31 I A299 c300 x298 s301) ?_ ?_
    · clear H hle ho173 ho179 hr58
      intro L I Ms h_; obtain ⟨k303, x289, x290, x291, x292, A293, c294, s295, x297, x298, A299, c300, s301, hL_, hM_, H, hle, hk304, ho296, ho302⟩ := h_; rw [hL_, hM_]; clear hL_ hM_ L Ms
      rcases k303 with _ | k303
      · exact (no_none H).elim
      rw [impl_lay_j1] at H
      refine at_seq ?_
      refine at_x hmo (fun w => w.cell? ⟨g62, 5, none⟩ = some (.slice A299 x298.length c300)) [8, 11] ?_
      refine at_xseg [0, 1, 2, 3, 4, 5] 6 (#[true, true, true, true, true, true, false, false, false, false, false, false]) rfl (by kernel_rfl) [(4, .slice A299 x298.length c300)] [9, 66, 70, 71] (L2 := [(9, .pointer (some ⟨g62, 0, none⟩)), (66, .pointer (some ⟨g62, 0, none⟩)), (70, .slice A299 x298.length c300), (71, .pointer (some ⟨g62, 0, none⟩))]) (obs := [fun w => w.cell? ⟨g62, 5, none⟩ = some (.slice A299 x298.length c300)]) (by kernel_rfl) (by kernel_rfl) (by kernel_rfl) (.inr fun w hs => hs.var (k := 0) rfl 5 rfl) (fun w hS => hS) (fun w hs => hs.var (k := 0) rfl 5 rfl) ?_
      refine at_x1 5 6 (#[true, true, true, true, true, true, true, false, false, false, false, false]) rfl (by kernel_rfl) (by kernel_rfl) rfl rfl ?_
      obtain ⟨b5, H305, H⟩ := bind_some H
      refine eff_call rfl rfl ok23 rfl rfl (show Meets Try.prog 23 ([.pointer (some ⟨g62, 0, none⟩)] : List Value).toArray _ [[(g62, .cells #[.int .i64 x289, .int .i64 x290, .int .i64 x291, .slice A293 x292.length c294, .bool x297, .slice A299 x298.length c300] 63 (0, 0))], s295, s301] _ from impl_layout_spot.calls H305 ho296 ho302) (Mr := (Fs)) (List.Perm.refl _) (fun v306 J307 M308 hq309 hJ310 => ?_)
      replace hle := hle.trans hJ310
      replace ho296 := ho296.mono hJ310
      replace ho302 := ho302.mono hJ310
      obtain ⟨rfl, rfl⟩ := hq309
      refine at_xS (fun w hs => hs.var (k := 0) rfl 5 rfl) ?_
      refine at_x1 4 7 (#[true, true, true, true, true, true, true, true, false, false, false, false]) rfl (by kernel_rfl) (by kernel_rfl) rfl rfl ?_
      refine eff_buildSlice (e := 31) (cells := #[.int .i64 b5.Line, .int .i64 b5.Col]) ([b5] : List T_impl_Spot).length rfl rfl rfl (by kernel_rfl) (fun g311 => ?_)
      have ho312 := own_lit (K := k_impl_Spot) (e := 31) (I := J307) (xs := ([b5] : List T_impl_Spot)) (css := [[.int .i64 b5.Line, .int .i64 b5.Col]]) (cells := #[.int .i64 b5.Line, .int .i64 b5.Col]) (b := g311) ⟨rfl, trivial⟩ rfl
      refine at_xS (fun w hs => hs.var (k := 1) rfl 5 rfl) ?_
      refine at_x1 3 8 (#[true, true, true, true, true, true, true, true, true, false, false, false]) rfl (by kernel_rfl) (by kernel_rfl) rfl rfl ?_
      obtain ⟨h313, H⟩ := ite_some H
      obtain ⟨i_, hi_, hz_, hs_, hb_⟩ := info31
      refine eff_append (K := k_impl_Spot) (xs := x298) (ys := ([b5] : List T_impl_Spot)) 3 rfl rfl rfl rfl rfl und57 und57 hi_ hz_ hs_ rfl rfl rfl ho302 rfl (fun w hs => ho312.rowAt (k := 0) hs rfl) (by rw [hb_]; omega) (by omega) (fun A314 c315 s316 ho317 => ?_)
      refine at_xX (by kernel_rfl) ?_
      refine at_xseg [9, 10] 1 (#[true, true, true, true, true, true, true, true, true, true, true, false]) rfl (by kernel_rfl) [] [9, 74, 76] (L2 := [(9, .pointer (some ⟨g62, 0, none⟩)), (74, .slice A314 (x298 ++ ([b5] : List T_impl_Spot)).length c315), (76, .pointer (some ⟨g62, 5, none⟩))]) (obs := []) (by kernel_rfl) (by kernel_rfl) (by kernel_rfl) (.inl (by kernel_rfl)) (fun w hS => trivial) (fun w hs => trivial) ?_
      refine at_x1 0 11 (#[true, true, true, true, true, true, true, true, true, true, true, true]) rfl (by kernel_rfl) (by kernel_rfl) rfl rfl ?_
      refine eff_store 1 rfl rfl rfl rfl rfl rfl (.inl (Nat.le_refl _)) rfl (Nat.le_of_ble_eq_true (by kernel_rfl)) rfl ?_
      refine at_eqM (M1 := ([(g311, .cells #[.int .i64 b5.Line, .int .i64 b5.Col] 31 (0, 0))] :: [(g62, .cells #[.int .i64 x289, .int .i64 x290, .int .i64 x291, .slice A293 x292.length c294, .bool x297, .slice A314 (x298 ++ ([b5] : List T_impl_Spot)).length c315] 63 (0, 0))] :: s295 :: s316 :: Fs)) (M2 := ([(g311, .cells #[.int .i64 b5.Line, .int .i64 b5.Col] 31 (0, 0))] :: [(g62, .cells #[.int .i64 x289, .int .i64 x290, .int .i64 x291, .slice A293 x292.length c294, .bool x297, .slice A314 (x298 ++ ([b5] : List T_impl_Spot)).length c315] 63 (0, 0))] :: s295 :: s316 :: Fs)) rfl rfl ?_
      refine at_xX (by kernel_rfl) ?_
      refine at_xend (by kernel_rfl) ?_
      refine at_thn ?_
      refine at_seq ?_
      refine at_reg [] [8] (L2 := [(8, .pointer (some ⟨g62, 0, none⟩))]) (obs := []) (by kernel_rfl) ?_ ?_
      · intro w hs; exact trivial
      refine at_thn ?_
      refine at_ret ?_
      obtain rfl := Option.some.inj H
      refine at_drop (k := 0) rfl rfl ?_
      refine at_eqM (M1 := ([(g62, .cells #[.int .i64 x289, .int .i64 x290, .int .i64 x291, .slice A293 x292.length c294, .bool x297, .slice A314 (x298 ++ ([b5] : List T_impl_Spot)).length c315] 63 (0, 0))] :: s295 :: s316 :: Fs)) (M2 := ([(g62, .cells #[.int .i64 x289, .int .i64 x290, .int .i64 x291, .slice A293 x292.length c294, .bool x297, .slice A314 (x298 ++ ([b5] : List T_impl_Spot)).length c315] 63 (0, 0))] :: s295 :: s316 :: Fs)) rfl rfl ?_
      refine at_done (vs := [.pointer (some ⟨g62, 0, none⟩)]) (obs := []) (.inl rfl) [.tmp 8] [] rfl (by kernel_rfl) (fun w hs => trivial) (fun w hs => ⟨_, _, [[(g62, .cells #[.int .i64 x289, .int .i64 x290, .int .i64 x291, .slice A293 x292.length c294, .bool x297, .slice A314 (x298 ++ ([b5] : List T_impl_Spot)).length c315] 63 (0, 0))], s295, s316], rfl, ⟨g62, A293, c294, s295, A314, c315, s316, rfl, rfl, ho296, ho317⟩, hle, hs⟩)
    · intro Jn188
      refine at_seq ?_
      refine at_reg [(1, .slice A56 p55.Points.length c57)] [2, 9, 12, 13, 35, 36, 37] (L2 := [(2, .bool p59), (9, .pointer (some ⟨g62, 0, none⟩)), (12, .int .i64 b4.1), (13, .int .i64 b4.2), (35, .slice A56 p55.Points.length c57), (36, .int .i64 (p55.Points.length : Int)), (37, .int .i64 0)]) (obs := [fun w => w.cell? ⟨g61, 0, none⟩ = some (.slice A56 p55.Points.length c57)]) (by kernel_rfl) ?_ ?_
      · intro w hs; exact hs.var (k := 0) rfl 0 rfl
      refine at_thn ?_
      refine at_block ?_
      refine at_drop (k := 0) rfl rfl ?_
      refine at_eqM (M1 := ([(g62, .cells #[.int .i64 x166, .int .i64 x167, .int .i64 x168, .slice A170 x169.length c171, .bool x174, .slice A176 x175.length c177] 63 (0, 0))] :: s172 :: s178 :: Fs)) (M2 := ([(g62, .cells #[.int .i64 x166, .int .i64 x167, .int .i64 x168, .slice A170 x169.length c171, .bool x174, .slice A176 x175.length c177] 63 (0, 0))] :: s172 :: s178 :: Fs)) rfl rfl ?_
      refine at_keep [2, 9, 12, 13, 35, 36, 37] (L2 := [(2, .bool p59), (9, .pointer (some ⟨g62, 0, none⟩)), (12, .int .i64 b4.1), (13, .int .i64 b4.2), (35, .slice A56 p55.Points.length c57), (36, .int .i64 (p55.Points.length : Int)), (37, .int .i64 0)]) rfl ?_
      refine at_loop (fun k333 L I Ms => ∃ (x318 : Int) (x319 : Int) (x320 : Int) (x321 : Int) (x322 : List T_impl_seen) (A323 : Option Addr) (c324 : Nat) (s325 : Seg) (x327 : Bool) (x328 : List T_impl_Spot) (A329 : Option Addr) (c330 : Nat) (s331 : Seg), L = [(2, .bool p59), (9, .pointer (some ⟨g62, 0, none⟩)), (12, .int .i64 b4.1), (13, .int .i64 b4.2), (35, .slice A56 p55.Points.length c57), (36, .int .i64 (p55.Points.length : Int)), (37, .int .i64 x318)] ∧ Ms = ([(g62, .cells #[.int .i64 x319, .int .i64 x320, .int .i64 x321, .slice A323 x322.length c324, .bool x327, .slice A329 x328.length c330] 63 (0, 0))] :: s325 :: s331 :: Fs) ∧ impl_lay_l0 k333 x318 x319 x320 x321 x322 x327 x328 b4 p55 p59 = some r ∧ ImmLe I0 I ∧ k333 ≤ k180 ∧ DOwn d_impl_seen 74 I A323 c324 x322 s325 ∧ Own k_impl_Spot 31 I A329 c330 x328 s331 ∧ Rd (Kd.int .i64) I A56 c57 p55.Points) ?_ ?_ k180 ⟨0, x166, x167, x168, x169, A170, c171, s172, x174, x175, A176, c177, s178, rfl, rfl, H, hle, Nat.le_refl _, ho173, ho179, hr58⟩
      · rintro L I Ms ⟨_, _, _, _, _, _, _, _, _, _, _, _, _, rfl, rfl, H, _⟩; exact no_none H
      · clear H hle ho173 ho179 hr58
        intro k333 ih334 L I Ms h_; obtain ⟨x318, x319, x320, x321, x322, A323, c324, s325, x327, x328, A329, c330, s331, hL_, hM_, H, hle, hk335, ho326, ho332, hr58⟩ := h_; rw [hL_, hM_]; clear hL_ hM_ L Ms
        rw [impl_lay_l0] at H
        refine at_seq ?_
        refine at_reg [] [2, 9, 12, 13, 35, 36, 37, 38] (L2 := [(2, .bool p59), (9, .pointer (some ⟨g62, 0, none⟩)), (12, .int .i64 b4.1), (13, .int .i64 b4.2), (35, .slice A56 p55.Points.length c57), (36, .int .i64 (p55.Points.length : Int)), (37, .int .i64 x318), (38, .bool (decide (x318 < (p55.Points.length : Int))))]) (obs := []) (by kernel_rfl) ?_ ?_
        · intro w hs; exact trivial
        refine at_thn ?_
        refine at_seq ?_
        by_cases h336 : x318 < (p55.Points.length : Int)
        · rw [if_pos h336] at H
          refine at_cond_t rfl (decide_eq_true h336) ?_
          refine at_skip ?_
          refine at_thn ?_
          refine at_seq ?_
          refine at_block ?_
          refine at_seq ?_
          obtain ⟨h337, H⟩ := ite_some H
          refine at_reg [(2, .int .i64 (rdA 0 p55.Points x318))] [2, 9, 12, 13, 14, 15, 35, 36, 37] (L2 := [(2, .bool p59), (9, .pointer (some ⟨g62, 0, none⟩)), (12, .int .i64 b4.1), (13, .int .i64 b4.2), (14, .int .i64 x318), (15, .int .i64 (rdA 0 p55.Points x318)), (35, .slice A56 p55.Points.length c57), (36, .int .i64 (p55.Points.length : Int)), (37, .int .i64 x318)]) (obs := [fun _ => A56.isSome = true ∧ 0 ≤ x318 ∧ x318 < ((p55.Points.length : Nat) : Int), fun w => w.cell? ((A56.getD ad0).add (x318.toNat * 1)) = some (.int .i64 (rdA 0 p55.Points x318))]) (by kernel_rfl) ?_ ?_
          · intro w hs; exact ⟨⟨hr58.ne x318 h337 h336, h337, h336⟩, hr58.one 0 x318 h337 h336 hs⟩
          refine at_thn ?_
          refine at_seq ?_
          refine at_x hmo (fun w => w.cell? ⟨g62, 5, none⟩ = some (.slice A329 x328.length c330)) [8, 11] ?_
          refine at_xseg [0, 1, 2, 3, 4, 5] 6 (#[true, true, true, true, true, true, false, false, false, false, false, false]) rfl (by kernel_rfl) [(4, .slice A329 x328.length c330)] [2, 9, 12, 13, 14, 15, 35, 36, 37, 42, 46, 47] (L2 := [(2, .bool p59), (9, .pointer (some ⟨g62, 0, none⟩)), (12, .int .i64 b4.1), (13, .int .i64 b4.2), (14, .int .i64 x318), (15, .int .i64 (rdA 0 p55.Points x318)), (35, .slice A56 p55.Points.length c57), (36, .int .i64 (p55.Points.length : Int)), (37, .int .i64 x318), (42, .pointer (some ⟨g62, 0, none⟩)), (46, .slice A329 x328.length c330), (47, .pointer (some ⟨g62, 0, none⟩))]) (obs := [fun w => w.cell? ⟨g62, 5, none⟩ = some (.slice A329 x328.length c330)]) (by kernel_rfl) (by kernel_rfl) (by kernel_rfl) (.inr fun w hs => hs.var (k := 0) rfl 5 rfl) (fun w hS => hS) (fun w hs => hs.var (k := 0) rfl 5 rfl) ?_
          refine at_x1 5 6 (#[true, true, true, true, true, true, true, false, false, false, false, false]) rfl (by kernel_rfl) (by kernel_rfl) rfl rfl ?_
          obtain ⟨b6, H338, H⟩ := bind_some H
          refine eff_call rfl rfl ok23 rfl rfl (show Meets Try.prog 23 ([.pointer (some ⟨g62, 0, none⟩)] : List Value).toArray _ [[(g62, .cells #[.int .i64 x319, .int .i64 x320, .int .i64 x321, .slice A323 x322.length c324, .bool x327, .slice A329 x328.length c330] 63 (0, 0))], s325, s331] _ from impl_layout_spot.calls H338 ho326 ho332) (Mr := (Fs)) (List.Perm.refl _) (fun v339 J340 M341 hq342 hJ343 => ?_)
          replace hle := hle.trans hJ343
          replace ho326 := ho326.mono hJ343
          replace ho332 := ho332.mono hJ343
          replace hr58 := hr58.mono hJ343
          obtain ⟨rfl, rfl⟩ := hq342
          refine at_xS (fun w hs => hs.var (k := 0) rfl 5 rfl) ?_
          refine at_x1 4 7 (#[true, true, true, true, true, true, true, true, false, false, false, false]) rfl (by kernel_rfl) (by kernel_rfl) rfl rfl ?_
          refine eff_buildSlice (e := 31) (cells := #[.int .i64 b6.Line, .int .i64 b6.Col]) ([b6] : List T_impl_Spot).length rfl rfl rfl (by kernel_rfl) (fun g344 => ?_)
          have ho345 := own_lit (K := k_impl_Spot) (e := 31) (I := J340) (xs := ([b6] : List T_impl_Spot)) (css := [[.int .i64 b6.Line, .int .i64 b6.Col]]) (cells := #[.int .i64 b6.Line, .int .i64 b6.Col]) (b := g344) ⟨rfl, trivial⟩ rfl
          refine at_xS (fun w hs => hs.var (k := 1) rfl 5 rfl) ?_
          refine at_x1 3 8 (#[true, true, true, true, true, true, true, true, true, false, false, false]) rfl (by kernel_rfl) (by kernel_rfl) rfl rfl ?_
          obtain ⟨h346, H⟩ := ite_some H
          obtain ⟨i_, hi_, hz_, hs_, hb_⟩ := info31
          refine eff_append (K := k_impl_Spot) (xs := x328) (ys := ([b6] : List T_impl_Spot)) 3 rfl rfl rfl rfl rfl und57 und57 hi_ hz_ hs_ rfl rfl rfl ho332 rfl (fun w hs => ho345.rowAt (k := 0) hs rfl) (by rw [hb_]; omega) (by omega) (fun A347 c348 s349 ho350 => ?_)
          refine at_xX (by kernel_rfl) ?_
          refine at_xseg [9, 10] 1 (#[true, true, true, true, true, true, true, true, true, true, true, false]) rfl (by kernel_rfl) [] [2, 9, 12, 13, 14, 15, 35, 36, 37, 50, 52] (L2 := [(2, .bool p59), (9, .pointer (some ⟨g62, 0, none⟩)), (12, .int .i64 b4.1), (13, .int .i64 b4.2), (14, .int .i64 x318), (15, .int .i64 (rdA 0 p55.Points x318)), (35, .slice A56 p55.Points.length c57), (36, .int .i64 (p55.Points.length : Int)), (37, .int .i64 x318), (50, .slice A347 (x328 ++ ([b6] : List T_impl_Spot)).length c348), (52, .pointer (some ⟨g62, 5, none⟩))]) (obs := []) (by kernel_rfl) (by kernel_rfl) (by kernel_rfl) (.inl (by kernel_rfl)) (fun w hS => trivial) (fun w hs => trivial) ?_
          refine at_x1 0 11 (#[true, true, true, true, true, true, true, true, true, true, true, true]) rfl (by kernel_rfl) (by kernel_rfl) rfl rfl ?_
          refine eff_store 1 rfl rfl rfl rfl rfl rfl (.inl (Nat.le_refl _)) rfl (Nat.le_of_ble_eq_true (by kernel_rfl)) rfl ?_
          refine at_eqM (M1 := ([(g344, .cells #[.int .i64 b6.Line, .int .i64 b6.Col] 31 (0, 0))] :: [(g62, .cells #[.int .i64 x319, .int .i64 x320, .int .i64 x321, .slice A323 x322.length c324, .bool x327, .slice A347 (x328 ++ ([b6] : List T_impl_Spot)).length c348] 63 (0, 0))] :: s325 :: s349 :: Fs)) (M2 := ([(g344, .cells #[.int .i64 b6.Line, .int .i64 b6.Col] 31 (0, 0))] :: [(g62, .cells #[.int .i64 x319, .int .i64 x320, .int .i64 x321, .slice A323 x322.length c324, .bool x327, .slice A347 (x328 ++ ([b6] : List T_impl_Spot)).length c348] 63 (0, 0))] :: s325 :: s349 :: Fs)) rfl rfl ?_
          refine at_xX (by kernel_rfl) ?_
          refine at_xend (by kernel_rfl) ?_
          refine at_thn ?_
          refine at_seq ?_
          refine at_reg [] [2, 9, 12, 13, 14, 15, 16, 35, 36, 37] (L2 := [(2, .bool p59), (9, .pointer (some ⟨g62, 0, none⟩)), (12, .int .i64 b4.1), (13, .int .i64 b4.2), (14, .int .i64 x318), (15, .int .i64 (rdA 0 p55.Points x318)), (16, .int .i64 0), (35, .slice A56 p55.Points.length c57), (36, .int .i64 (p55.Points.length : Int)), (37, .int .i64 x318)]) (obs := []) (by kernel_rfl) ?_ ?_
          · intro w hs; exact trivial
          refine at_thn ?_
          refine at_seq ?_
          refine at_seq ?_
          refine at_ops [0, 1, 2, 3, 4, 5, 6, 7] rfl ?_
          by_cases h351 : p59 = true
          · rw [if_pos h351] at H
            refine at_seg [0, 1, 2, 3, 4, 5] [6, 7] rfl [(1, .bool true)] [2, 9, 12, 13, 15, 16, 35, 36, 37, 54, 55, 56, 58] (L2 := [(2, .bool p59), (9, .pointer (some ⟨g62, 0, none⟩)), (12, .int .i64 b4.1), (13, .int .i64 b4.2), (15, .int .i64 (rdA 0 p55.Points x318)), (16, .int .i64 0), (35, .slice A56 p55.Points.length c57), (36, .int .i64 (p55.Points.length : Int)), (37, .int .i64 x318), (54, .bool true), (55, .int .i64 x318), (56, .int .i64 b4.1), (58, .int .i64 (IntKind.i64.wrap (b4.2 - 1)))]) (obs := [fun _ => (.bool p59 : Value) = .bool true]) (by kernel_rfl) ?_ ?_
            · intro w hs; exact congrArg Value.bool (h351)
            refine at_eff rfl rfl ?_
            obtain ⟨b7, H352, H⟩ := bind_some H
            have hm_ := impl_within.calls (I0 := J340) H352
            refine eff_call rfl rfl ok36 rfl rfl (show Meets Try.prog 36 ([.int .i64 x318, .int .i64 b4.1, .int .i64 (IntKind.i64.wrap (b4.2 - 1))] : List Value).toArray _ [] _ from hm_) (Mr := ([(g344, .cells #[.int .i64 b6.Line, .int .i64 b6.Col] 31 (0, 0))] :: [(g62, .cells #[.int .i64 x319, .int .i64 x320, .int .i64 x321, .slice A323 x322.length c324, .bool x327, .slice A347 (x328 ++ ([b6] : List T_impl_Spot)).length c348] 63 (0, 0))] :: s325 :: s349 :: Fs)) (List.Perm.refl _) (fun v353 J354 M355 hq356 hJ357 => ?_)
            replace hle := hle.trans hJ357
            replace ho326 := ho326.mono hJ357
            replace ho350 := ho350.mono hJ357
            replace hr58 := hr58.mono hJ357
            obtain ⟨rfl, rfl⟩ := hq356
            refine at_seg [7] [] rfl [] [2, 9, 12, 13, 15, 16, 35, 36, 37, 60] (L2 := [(2, .bool p59), (9, .pointer (some ⟨g62, 0, none⟩)), (12, .int .i64 b4.1), (13, .int .i64 b4.2), (15, .int .i64 (rdA 0 p55.Points x318)), (16, .int .i64 0), (35, .slice A56 p55.Points.length c57), (36, .int .i64 (p55.Points.length : Int)), (37, .int .i64 x318), (60, .bool b7)]) (obs := []) (by kernel_rfl) ?_ ?_
            · intro w hs; exact trivial
            refine at_end ?_
            refine at_thn ?_
            by_cases h358 : b7 = true
            · rw [if_pos h358] at H
              refine at_cond_t rfl (h358) ?_
              refine at_reg [] [2, 9, 12, 13, 15, 16, 35, 36, 37] (L2 := [(2, .bool p59), (9, .pointer (some ⟨g62, 0, none⟩)), (12, .int .i64 b4.1), (13, .int .i64 b4.2), (15, .int .i64 (rdA 0 p55.Points x318)), (16, .int .i64 1), (35, .slice A56 p55.Points.length c57), (36, .int .i64 (p55.Points.length : Int)), (37, .int .i64 x318)]) (obs := []) (by kernel_rfl) ?_ ?_
              · intro w hs; exact trivial
              refine at_thn ?_
              refine at_ops [0, 1, 2, 3] rfl ?_
              refine at_seg [0, 1, 2] [3] rfl [] [2, 9, 12, 13, 35, 36, 37, 61, 62, 63] (L2 := [(2, .bool p59), (9, .pointer (some ⟨g62, 0, none⟩)), (12, .int .i64 b4.1), (13, .int .i64 b4.2), (35, .slice A56 p55.Points.length c57), (36, .int .i64 (p55.Points.length : Int)), (37, .int .i64 x318), (61, .pointer (some ⟨g62, 0, none⟩)), (62, .int .i64 (rdA 0 p55.Points x318)), (63, .int .i64 1)]) (obs := []) (by kernel_rfl) ?_ ?_
              · intro w hs; exact trivial
              refine at_eff rfl rfl ?_
              obtain ⟨b8, H359, H⟩ := bind_some H
              refine eff_call rfl rfl ok47 rfl rfl (show Meets Try.prog 47 ([.pointer (some ⟨g62, 0, none⟩), .int .i64 (rdA 0 p55.Points x318), .int .i64 1] : List Value).toArray _ [[(g62, .cells #[.int .i64 x319, .int .i64 x320, .int .i64 x321, .slice A323 x322.length c324, .bool x327, .slice A347 (x328 ++ ([b6] : List T_impl_Spot)).length c348] 63 (0, 0))], s325, s349] _ from impl_layout_point.calls H359 ho326 ho350) (Mr := ([(g344, .cells #[.int .i64 b6.Line, .int .i64 b6.Col] 31 (0, 0))] :: Fs)) ((perm_at (k := 1) rfl).trans (((perm_at (k := 1) rfl).trans (((perm_at (k := 1) rfl).trans ((List.Perm.refl _).cons _)).cons _)).cons _)) (fun v360 J361 M362 hq363 hJ364 => ?_)
              replace hle := hle.trans hJ364
              replace ho326 := ho326.mono hJ364
              replace ho350 := ho350.mono hJ364
              replace hr58 := hr58.mono hJ364
              obtain ⟨A365, c366, s367, A369, c370, s371, rfl, rfl, ho368, ho372⟩ := hq363
              refine at_end ?_
              refine at_in_norm ?_
              refine at_thn ?_
              refine at_reg [] [2, 9, 12, 13, 35, 36, 37] (L2 := [(2, .bool p59), (9, .pointer (some ⟨g62, 0, none⟩)), (12, .int .i64 b4.1), (13, .int .i64 b4.2), (35, .slice A56 p55.Points.length c57), (36, .int .i64 (p55.Points.length : Int)), (37, .int .i64 (IntKind.i64.wrap (x318 + 1)))]) (obs := []) (by kernel_rfl) ?_ ?_
              · intro w hs; exact trivial
              refine at_thn ?_
              refine at_drop (k := 3) rfl rfl ?_
              refine at_eqM (M1 := ([(g62, .cells #[.int .i64 b8.cols, .int .i64 b8.row, .int .i64 b8.col, .slice A365 b8.cells.length c366, .bool b8.inRow, .slice A369 b8.spots.length c370] 63 (0, 0))] :: s367 :: s371 :: Fs)) (M2 := ([(g62, .cells #[.int .i64 b8.cols, .int .i64 b8.row, .int .i64 b8.col, .slice A365 b8.cells.length c366, .bool b8.inRow, .slice A369 b8.spots.length c370] 63 (0, 0))] :: s367 :: s371 :: Fs)) rfl rfl ?_
              refine at_keep [2, 9, 12, 13, 35, 36, 37] (L2 := [(2, .bool p59), (9, .pointer (some ⟨g62, 0, none⟩)), (12, .int .i64 b4.1), (13, .int .i64 b4.2), (35, .slice A56 p55.Points.length c57), (36, .int .i64 (p55.Points.length : Int)), (37, .int .i64 (IntKind.i64.wrap (x318 + 1)))]) rfl ?_
              exact ih334 _ (by omega) _ _ _ ⟨IntKind.i64.wrap (x318 + 1), b8.cols, b8.row, b8.col, b8.cells, A365, c366, s367, b8.inRow, b8.spots, A369, c370, s371, rfl, rfl, H, hle, by omega, ho368, ho372, hr58⟩
            · rw [if_neg h358] at H
              refine at_cond_f rfl (ff_of h358) ?_
              refine at_skip ?_
              refine at_thn ?_
              refine at_ops [0, 1, 2, 3] rfl ?_
              refine at_seg [0, 1, 2] [3] rfl [] [2, 9, 12, 13, 35, 36, 37, 61, 62, 63] (L2 := [(2, .bool p59), (9, .pointer (some ⟨g62, 0, none⟩)), (12, .int .i64 b4.1), (13, .int .i64 b4.2), (35, .slice A56 p55.Points.length c57), (36, .int .i64 (p55.Points.length : Int)), (37, .int .i64 x318), (61, .pointer (some ⟨g62, 0, none⟩)), (62, .int .i64 (rdA 0 p55.Points x318)), (63, .int .i64 0)]) (obs := []) (by kernel_rfl) ?_ ?_
              · intro w hs; exact trivial
              refine at_eff rfl rfl ?_
              obtain ⟨b9, H373, H⟩ := bind_some H
              refine eff_call rfl rfl ok47 rfl rfl (show Meets Try.prog 47 ([.pointer (some ⟨g62, 0, none⟩), .int .i64 (rdA 0 p55.Points x318), .int .i64 0] : List Value).toArray _ [[(g62, .cells #[.int .i64 x319, .int .i64 x320, .int .i64 x321, .slice A323 x322.length c324, .bool x327, .slice A347 (x328 ++ ([b6] : List T_impl_Spot)).length c348] 63 (0, 0))], s325, s349] _ from impl_layout_point.calls H373 ho326 ho350) (Mr := ([(g344, .cells #[.int .i64 b6.Line, .int .i64 b6.Col] 31 (0, 0))] :: Fs)) ((perm_at (k := 1) rfl).trans (((perm_at (k := 1) rfl).trans (((perm_at (k := 1) rfl).trans ((List.Perm.refl _).cons _)).cons _)).cons _)) (fun v374 J375 M376 hq377 hJ378 => ?_)
              replace hle := hle.trans hJ378
              replace ho326 := ho326.mono hJ378
              replace ho350 := ho350.mono hJ378
              replace hr58 := hr58.mono hJ378
              obtain ⟨A379, c380, s381, A383, c384, s385, rfl, rfl, ho382, ho386⟩ := hq377
              refine at_end ?_
              refine at_in_norm ?_
              refine at_thn ?_
              refine at_reg [] [2, 9, 12, 13, 35, 36, 37] (L2 := [(2, .bool p59), (9, .pointer (some ⟨g62, 0, none⟩)), (12, .int .i64 b4.1), (13, .int .i64 b4.2), (35, .slice A56 p55.Points.length c57), (36, .int .i64 (p55.Points.length : Int)), (37, .int .i64 (IntKind.i64.wrap (x318 + 1)))]) (obs := []) (by kernel_rfl) ?_ ?_
              · intro w hs; exact trivial
              refine at_thn ?_
              refine at_drop (k := 3) rfl rfl ?_
              refine at_eqM (M1 := ([(g62, .cells #[.int .i64 b9.cols, .int .i64 b9.row, .int .i64 b9.col, .slice A379 b9.cells.length c380, .bool b9.inRow, .slice A383 b9.spots.length c384] 63 (0, 0))] :: s381 :: s385 :: Fs)) (M2 := ([(g62, .cells #[.int .i64 b9.cols, .int .i64 b9.row, .int .i64 b9.col, .slice A379 b9.cells.length c380, .bool b9.inRow, .slice A383 b9.spots.length c384] 63 (0, 0))] :: s381 :: s385 :: Fs)) rfl rfl ?_
              refine at_keep [2, 9, 12, 13, 35, 36, 37] (L2 := [(2, .bool p59), (9, .pointer (some ⟨g62, 0, none⟩)), (12, .int .i64 b4.1), (13, .int .i64 b4.2), (35, .slice A56 p55.Points.length c57), (36, .int .i64 (p55.Points.length : Int)), (37, .int .i64 (IntKind.i64.wrap (x318 + 1)))]) rfl ?_
              exact ih334 _ (by omega) _ _ _ ⟨IntKind.i64.wrap (x318 + 1), b9.cols, b9.row, b9.col, b9.cells, A379, c380, s381, b9.inRow, b9.spots, A383, c384, s385, rfl, rfl, H, hle, by omega, ho382, ho386, hr58⟩
          · rw [if_neg h351] at H
            refine at_seg [0, 1, 2, 3, 4, 5] [6, 7] rfl [(1, .bool false)] [2, 9, 12, 13, 15, 16, 35, 36, 37, 54, 55, 56, 58] (L2 := [(2, .bool p59), (9, .pointer (some ⟨g62, 0, none⟩)), (12, .int .i64 b4.1), (13, .int .i64 b4.2), (15, .int .i64 (rdA 0 p55.Points x318)), (16, .int .i64 0), (35, .slice A56 p55.Points.length c57), (36, .int .i64 (p55.Points.length : Int)), (37, .int .i64 x318), (54, .bool false), (55, undef), (56, undef), (58, undef)]) (obs := [fun _ => (.bool p59 : Value) = .bool false]) (by kernel_rfl) ?_ ?_
            · intro w hs; exact congrArg Value.bool (ff_of h351)
            refine at_seg [6, 7] [] rfl [] [2, 9, 12, 13, 15, 16, 35, 36, 37, 60] (L2 := [(2, .bool p59), (9, .pointer (some ⟨g62, 0, none⟩)), (12, .int .i64 b4.1), (13, .int .i64 b4.2), (15, .int .i64 (rdA 0 p55.Points x318)), (16, .int .i64 0), (35, .slice A56 p55.Points.length c57), (36, .int .i64 (p55.Points.length : Int)), (37, .int .i64 x318), (60, .bool false)]) (obs := []) (by kernel_rfl) ?_ ?_
            · intro w hs; exact trivial
            refine at_end ?_
            refine at_thn ?_
            refine at_cond_f rfl (rfl) ?_
            refine at_skip ?_
            refine at_thn ?_
            refine at_ops [0, 1, 2, 3] rfl ?_
            refine at_seg [0, 1, 2] [3] rfl [] [2, 9, 12, 13, 35, 36, 37, 61, 62, 63] (L2 := [(2, .bool p59), (9, .pointer (some ⟨g62, 0, none⟩)), (12, .int .i64 b4.1), (13, .int .i64 b4.2), (35, .slice A56 p55.Points.length c57), (36, .int .i64 (p55.Points.length : Int)), (37, .int .i64 x318), (61, .pointer (some ⟨g62, 0, none⟩)), (62, .int .i64 (rdA 0 p55.Points x318)), (63, .int .i64 0)]) (obs := []) (by kernel_rfl) ?_ ?_
            · intro w hs; exact trivial
            refine at_eff rfl rfl ?_
            obtain ⟨b10, H387, H⟩ := bind_some H
            refine eff_call rfl rfl ok47 rfl rfl (show Meets Try.prog 47 ([.pointer (some ⟨g62, 0, none⟩), .int .i64 (rdA 0 p55.Points x318), .int .i64 0] : List Value).toArray _ [[(g62, .cells #[.int .i64 x319, .int .i64 x320, .int .i64 x321, .slice A323 x322.length c324, .bool x327, .slice A347 (x328 ++ ([b6] : List T_impl_Spot)).length c348] 63 (0, 0))], s325, s349] _ from impl_layout_point.calls H387 ho326 ho350) (Mr := ([(g344, .cells #[.int .i64 b6.Line, .int .i64 b6.Col] 31 (0, 0))] :: Fs)) ((perm_at (k := 1) rfl).trans (((perm_at (k := 1) rfl).trans (((perm_at (k := 1) rfl).trans ((List.Perm.refl _).cons _)).cons _)).cons _)) (fun v388 J389 M390 hq391 hJ392 => ?_)
            replace hle := hle.trans hJ392
            replace ho326 := ho326.mono hJ392
            replace ho350 := ho350.mono hJ392
            replace hr58 := hr58.mono hJ392
            obtain ⟨A393, c394, s395, A397, c398, s399, rfl, rfl, ho396, ho400⟩ := hq391
            refine at_end ?_
            refine at_in_norm ?_
            refine at_thn ?_
            refine at_reg [] [2, 9, 12, 13, 35, 36, 37] (L2 := [(2, .bool p59), (9, .pointer (some ⟨g62, 0, none⟩)), (12, .int .i64 b4.1), (13, .int .i64 b4.2), (35, .slice A56 p55.Points.length c57), (36, .int .i64 (p55.Points.length : Int)), (37, .int .i64 (IntKind.i64.wrap (x318 + 1)))]) (obs := []) (by kernel_rfl) ?_ ?_
            · intro w hs; exact trivial
            refine at_thn ?_
            refine at_drop (k := 3) rfl rfl ?_
            refine at_eqM (M1 := ([(g62, .cells #[.int .i64 b10.cols, .int .i64 b10.row, .int .i64 b10.col, .slice A393 b10.cells.length c394, .bool b10.inRow, .slice A397 b10.spots.length c398] 63 (0, 0))] :: s395 :: s399 :: Fs)) (M2 := ([(g62, .cells #[.int .i64 b10.cols, .int .i64 b10.row, .int .i64 b10.col, .slice A393 b10.cells.length c394, .bool b10.inRow, .slice A397 b10.spots.length c398] 63 (0, 0))] :: s395 :: s399 :: Fs)) rfl rfl ?_
            refine at_keep [2, 9, 12, 13, 35, 36, 37] (L2 := [(2, .bool p59), (9, .pointer (some ⟨g62, 0, none⟩)), (12, .int .i64 b4.1), (13, .int .i64 b4.2), (35, .slice A56 p55.Points.length c57), (36, .int .i64 (p55.Points.length : Int)), (37, .int .i64 (IntKind.i64.wrap (x318 + 1)))]) rfl ?_
            exact ih334 _ (by omega) _ _ _ ⟨IntKind.i64.wrap (x318 + 1), b10.cols, b10.row, b10.col, b10.cells, A393, c394, s395, b10.inRow, b10.spots, A397, c398, s399, rfl, rfl, H, hle, by omega, ho396, ho400, hr58⟩
        · rw [if_neg h336] at H
          refine at_cond_f rfl (decide_eq_false h336) ?_
          refine at_exit ?_
          refine at_then_exit ?_
          refine at_then_exit ?_
          refine at_in_hit ?_
          refine at_thn ?_
          refine at_keep [9] (L2 := [(9, .pointer (some ⟨g62, 0, none⟩))]) rfl ?_
          exact Jn188 _ _ _ ⟨_, x319, x320, x321, x322, A323, c324, s325, x327, x328, A329, c330, s331, rfl, rfl, H, hle, by omega, ho326, ho332⟩
  · intro Jn63
    refine at_seq ?_
    refine at_reg [] [2, 5, 9, 20, 21, 22] (L2 := [(2, .bool p59), (5, .pointer (some ⟨g61, 0, none⟩)), (9, .pointer (some ⟨g62, 0, none⟩)), (20, .slice A52 p51.length c53), (21, .int .i64 (p51.length : Int)), (22, .int .i64 0)]) (obs := []) (by kernel_rfl) ?_ ?_
    · intro w hs; exact trivial
    refine at_thn ?_
    refine at_block ?_
    refine at_nilseg ?_
    have hd401 := DOwn.nil d_impl_seen 74 I0
    refine at_nilseg ?_
    have ho402 := Own.nil k_impl_Spot 31 I0
    refine at_perm ((perm_at (k := 3) rfl).trans (((perm_at (k := 2) rfl).trans (((perm_at (k := 1) rfl).trans ((List.Perm.refl _).cons _)).cons _)).cons _)) ?_
    refine at_keep [2, 5, 9, 20, 21, 22] (L2 := [(2, .bool p59), (5, .pointer (some ⟨g61, 0, none⟩)), (9, .pointer (some ⟨g62, 0, none⟩)), (20, .slice A52 p51.length c53), (21, .int .i64 (p51.length : Int)), (22, .int .i64 0)]) rfl ?_
    refine at_loop (fun k418 L I Ms => ∃ (x403 : Int) (x404 : Int) (x405 : Int) (x406 : Int) (x407 : List T_impl_seen) (A408 : Option Addr) (c409 : Nat) (s410 : Seg) (x412 : Bool) (x413 : List T_impl_Spot) (A414 : Option Addr) (c415 : Nat) (s416 : Seg), L = [(2, .bool p59), (5, .pointer (some ⟨g61, 0, none⟩)), (9, .pointer (some ⟨g62, 0, none⟩)), (20, .slice A52 p51.length c53), (21, .int .i64 (p51.length : Int)), (22, .int .i64 x403)] ∧ Ms = ([(g61, .cells #[.slice A56 p55.Points.length c57, .int .i64 p55.Cursor, .int .i64 p55.Mark] 25 (0, 0))] :: [(g62, .cells #[.int .i64 x404, .int .i64 x405, .int .i64 x406, .slice A408 x407.length c409, .bool x412, .slice A414 x413.length c415] 63 (0, 0))] :: s410 :: s416 :: Fs) ∧ impl_lay_l1 k418 x403 x404 x405 x406 x407 x412 x413 p51 p55 p59 = some r ∧ ImmLe I0 I ∧ k418 ≤ k ∧ DOwn d_impl_seen 74 I A408 c409 x407 s410 ∧ Own k_impl_Spot 31 I A414 c415 x413 s416 ∧ Rd (Kd.int .i64) I A52 c53 p51 ∧ Rd (Kd.int .i64) I A56 c57 p55.Points) ?_ ?_ k ⟨0, p60, 0, 0, ([] : List T_impl_seen), none, 0, [], false, ([] : List T_impl_Spot), none, 0, [], rfl, rfl, H, hle, Nat.le_refl _, hd401, ho402, hr54, hr58⟩
    · rintro L I Ms ⟨_, _, _, _, _, _, _, _, _, _, _, _, _, rfl, rfl, H, _⟩; exact no_none H
    · clear H hle hd401 ho402 hr54 hr58
      intro k418 ih419 L I Ms h_; obtain ⟨x403, x404, x405, x406, x407, A408, c409, s410, x412, x413, A414, c415, s416, hL_, hM_, H, hle, hk420, ho411, ho417, hr54, hr58⟩ := h_; rw [hL_, hM_]; clear hL_ hM_ L Ms
      rw [impl_lay_l1] at H
      refine at_seq ?_
      refine at_reg [] [2, 5, 9, 20, 21, 22, 23] (L2 := [(2, .bool p59), (5, .pointer (some ⟨g61, 0, none⟩)), (9, .pointer (some ⟨g62, 0, none⟩)), (20, .slice A52 p51.length c53), (21, .int .i64 (p51.length : Int)), (22, .int .i64 x403), (23, .bool (decide (x403 < (p51.length : Int))))]) (obs := []) (by kernel_rfl) ?_ ?_
      · intro w hs; exact trivial
      refine at_thn ?_
      refine at_seq ?_
      by_cases h421 : x403 < (p51.length : Int)
      · rw [if_pos h421] at H
        refine at_cond_t rfl (decide_eq_true h421) ?_
        refine at_skip ?_
        refine at_thn ?_
        refine at_seq ?_
        refine at_block ?_
        refine at_seq ?_
        obtain ⟨h422, H⟩ := ite_some H
        refine at_reg [(1, .int .i64 (rdA 0 p51 x403))] [2, 5, 9, 11, 20, 21, 22] (L2 := [(2, .bool p59), (5, .pointer (some ⟨g61, 0, none⟩)), (9, .pointer (some ⟨g62, 0, none⟩)), (11, .int .i64 (rdA 0 p51 x403)), (20, .slice A52 p51.length c53), (21, .int .i64 (p51.length : Int)), (22, .int .i64 x403)]) (obs := [fun _ => A52.isSome = true ∧ 0 ≤ x403 ∧ x403 < ((p51.length : Nat) : Int), fun w => w.cell? ((A52.getD ad0).add (x403.toNat * 1)) = some (.int .i64 (rdA 0 p51 x403))]) (by kernel_rfl) ?_ ?_
        · intro w hs; exact ⟨⟨hr54.ne x403 h422 h421, h422, h421⟩, hr54.one 0 x403 h422 h421 hs⟩
        refine at_thn ?_
        refine at_ops [0, 1, 2] rfl ?_
        refine at_seg [0, 1] [2] rfl [] [2, 5, 9, 20, 21, 22, 26, 27] (L2 := [(2, .bool p59), (5, .pointer (some ⟨g61, 0, none⟩)), (9, .pointer (some ⟨g62, 0, none⟩)), (20, .slice A52 p51.length c53), (21, .int .i64 (p51.length : Int)), (22, .int .i64 x403), (26, .pointer (some ⟨g62, 0, none⟩)), (27, .int .i64 (rdA 0 p51 x403))]) (obs := []) (by kernel_rfl) ?_ ?_
        · intro w hs; exact trivial
        refine at_eff rfl rfl ?_
        obtain ⟨b11, H423, H⟩ := bind_some H
        refine eff_call rfl rfl ok47 rfl rfl (show Meets Try.prog 47 ([.pointer (some ⟨g62, 0, none⟩), .int .i64 (rdA 0 p51 x403), .int .i64 0] : List Value).toArray _ [[(g62, .cells #[.int .i64 x404, .int .i64 x405, .int .i64 x406, .slice A408 x407.length c409, .bool x412, .slice A414 x413.length c415] 63 (0, 0))], s410, s416] _ from impl_layout_point.calls H423 ho411 ho417) (Mr := ([(g61, .cells #[.slice A56 p55.Points.length c57, .int .i64 p55.Cursor, .int .i64 p55.Mark] 25 (0, 0))] :: Fs)) ((perm_at (k := 1) rfl).trans (((perm_at (k := 1) rfl).trans (((perm_at (k := 1) rfl).trans ((List.Perm.refl _).cons _)).cons _)).cons _)) (fun v424 J425 M426 hq427 hJ428 => ?_)
        replace hle := hle.trans hJ428
        replace ho411 := ho411.mono hJ428
        replace ho417 := ho417.mono hJ428
        replace hr54 := hr54.mono hJ428
        replace hr58 := hr58.mono hJ428
        obtain ⟨A429, c430, s431, A433, c434, s435, rfl, rfl, ho432, ho436⟩ := hq427
        refine at_end ?_
        refine at_in_norm ?_
        refine at_thn ?_
        refine at_reg [] [2, 5, 9, 20, 21, 22] (L2 := [(2, .bool p59), (5, .pointer (some ⟨g61, 0, none⟩)), (9, .pointer (some ⟨g62, 0, none⟩)), (20, .slice A52 p51.length c53), (21, .int .i64 (p51.length : Int)), (22, .int .i64 (IntKind.i64.wrap (x403 + 1)))]) (obs := []) (by kernel_rfl) ?_ ?_
        · intro w hs; exact trivial
        refine at_thn ?_
        refine at_perm ((perm_at (k := 3) rfl).trans ((List.Perm.refl _).cons _)) ?_
        refine at_keep [2, 5, 9, 20, 21, 22] (L2 := [(2, .bool p59), (5, .pointer (some ⟨g61, 0, none⟩)), (9, .pointer (some ⟨g62, 0, none⟩)), (20, .slice A52 p51.length c53), (21, .int .i64 (p51.length : Int)), (22, .int .i64 (IntKind.i64.wrap (x403 + 1)))]) rfl ?_
        exact ih419 _ (by omega) _ _ _ ⟨IntKind.i64.wrap (x403 + 1), b11.cols, b11.row, b11.col, b11.cells, A429, c430, s431, b11.inRow, b11.spots, A433, c434, s435, rfl, rfl, H, hle, by omega, ho432, ho436, hr54, hr58⟩
      · rw [if_neg h421] at H
        refine at_cond_f rfl (decide_eq_false h421) ?_
        refine at_exit ?_
        refine at_then_exit ?_
        refine at_then_exit ?_
        refine at_in_hit ?_
        refine at_thn ?_
        refine at_keep [2, 5, 9] (L2 := [(2, .bool p59), (5, .pointer (some ⟨g61, 0, none⟩)), (9, .pointer (some ⟨g62, 0, none⟩))]) rfl ?_
        exact Jn63 _ _ _ ⟨_, x404, x405, x406, x407, A408, c409, s410, x412, x413, A414, c415, s416, rfl, rfl, H, hle, by omega, ho411, ho417, hr58⟩

/-! ### loop.example/g00146/impl.ViewRows: function 6 -/
def impl_ViewRows (k : Nat) (p34 : List Int) (p38 : T_impl_Buf) (p42 : Int) : Option Int := (impl_isViewed k p34 p38 p42).bind fun b3 => (if b3 = true then ((impl_lay k p34 p38 false p42).bind fun b4 => ((impl_layout_spot b4).bind fun b5 => (some (IntKind.i64.wrap (b5.Line + 1))))) else (some 0))
set_option maxHeartbeats 4000000 in
set_option maxRecDepth 100000 in
theorem impl_ViewRows.calls {k : Nat} {p34 : List Int} {p38 : T_impl_Buf} {p42 : Int} {r : Int} {I0 : Imm} {A35 : Option Addr} {c36 : Nat} {A39 : Option Addr} {c40 : Nat} (H : impl_ViewRows k p34 p38 p42 = some r) (hr37 : Rd (Kd.int .i64) I0 A35 c36 p34) (hr41 : Rd (Kd.int .i64) I0 A39 c40 p38.Points) :
    Meets Try.prog 6 ([.slice A35 p34.length c36, .agg #[.slice A39 p38.Points.length c40, .int .i64 p38.Cursor, .int .i64 p38.Mark], .int .i64 p42] : List Value).toArray I0 [] (fun v J M => v = .int .i64 r ∧ M = []) := by
  have hle := ImmLe.refl I0
  unfold impl_ViewRows at H
  refine fn_intro (fn := Try.f6) 19 Try.func6 rfl rfl rfl (fun E Fs => ?_)
  refine at_seq ?_
  refine at_ops [0, 1] rfl ?_
  refine at_eff rfl rfl ?_
  refine eff_box rfl rfl rfl #[.slice A39 p38.Points.length c40, .int .i64 p38.Cursor, .int .i64 p38.Mark] rfl (fun g43 => ?_)
  refine at_seg [1] [] rfl [] [0, 2, 4] (L2 := [(0, .slice A35 p34.length c36), (2, .int .i64 p42), (4, .pointer (some ⟨g43, 0, none⟩))]) (obs := []) (by kernel_rfl) ?_ ?_
  · intro w hs; exact trivial
  refine at_end ?_
  refine at_thn ?_
  refine at_seq ?_
  refine at_seq ?_
  refine at_ops [0, 1, 2, 3, 4] rfl ?_
  refine at_seg [0, 1, 2] [3, 4] rfl [(1, .agg #[.slice A39 p38.Points.length c40, .int .i64 p38.Cursor, .int .i64 p38.Mark])] [0, 2, 4, 7, 8, 9] (L2 := [(0, .slice A35 p34.length c36), (2, .int .i64 p42), (4, .pointer (some ⟨g43, 0, none⟩)), (7, .slice A35 p34.length c36), (8, .agg #[.slice A39 p38.Points.length c40, .int .i64 p38.Cursor, .int .i64 p38.Mark]), (9, .int .i64 p42)]) (obs := [fun w => CellsAt w ⟨g43, 0, none⟩ [.slice A39 p38.Points.length c40, .int .i64 p38.Cursor, .int .i64 p38.Mark] 0]) (by kernel_rfl) ?_ ?_
  · intro w hs; exact cellsV (k := 0) hs rfl _ 0 (Nat.le_of_ble_eq_true (by kernel_rfl)) rfl
  refine at_eff rfl rfl ?_
  obtain ⟨b3, H44, H⟩ := bind_some H
  have hm_ := impl_isViewed.calls (I0 := I0) H44 hr37 hr41
  refine eff_call rfl rfl ok21 rfl rfl (show Meets Try.prog 21 ([.slice A35 p34.length c36, .agg #[.slice A39 p38.Points.length c40, .int .i64 p38.Cursor, .int .i64 p38.Mark], .int .i64 p42] : List Value).toArray _ [] _ from hm_) (Mr := ([(g43, .cells #[.slice A39 p38.Points.length c40, .int .i64 p38.Cursor, .int .i64 p38.Mark] 25 (0, 0))] :: Fs)) (List.Perm.refl _) (fun v45 J46 M47 hq48 hJ49 => ?_)
  replace hle := hle.trans hJ49
  replace hr37 := hr37.mono hJ49
  replace hr41 := hr41.mono hJ49
  obtain ⟨rfl, rfl⟩ := hq48
  refine at_seg [4] [] rfl [] [0, 2, 4, 11] (L2 := [(0, .slice A35 p34.length c36), (2, .int .i64 p42), (4, .pointer (some ⟨g43, 0, none⟩)), (11, .bool (!b3))]) (obs := []) (by kernel_rfl) ?_ ?_
  · intro w hs; exact trivial
  refine at_end ?_
  refine at_thn ?_
  by_cases h50 : b3 = true
  · rw [if_pos h50] at H
    refine at_cond_f rfl (not_ff (h50)) ?_
    refine at_skip ?_
    refine at_thn ?_
    refine at_seq ?_
    refine at_ops [0, 1, 2, 3, 4, 5, 6, 7] rfl ?_
    refine at_seg [0, 1, 2] [3, 4, 5, 6, 7] rfl [(1, .agg #[.slice A39 p38.Points.length c40, .int .i64 p38.Cursor, .int .i64 p38.Mark])] [12, 13, 14] (L2 := [(12, .slice A35 p34.length c36), (13, .agg #[.slice A39 p38.Points.length c40, .int .i64 p38.Cursor, .int .i64 p38.Mark]), (14, .int .i64 p42)]) (obs := [fun w => CellsAt w ⟨g43, 0, none⟩ [.slice A39 p38.Points.length c40, .int .i64 p38.Cursor, .int .i64 p38.Mark] 0]) (by kernel_rfl) ?_ ?_
    · intro w hs; exact cellsV (k := 0) hs rfl _ 0 (Nat.le_of_ble_eq_true (by kernel_rfl)) rfl
    refine at_eff rfl rfl ?_
    obtain ⟨b4, H51, H⟩ := bind_some H
    have hm_ := impl_lay.calls (I0 := J46) H51 hr37 hr41
    refine eff_call rfl rfl ok22 rfl rfl (show Meets Try.prog 22 ([.slice A35 p34.length c36, .agg #[.slice A39 p38.Points.length c40, .int .i64 p38.Cursor, .int .i64 p38.Mark], .bool false, .int .i64 p42] : List Value).toArray _ [] _ from hm_) (Mr := ([(g43, .cells #[.slice A39 p38.Points.length c40, .int .i64 p38.Cursor, .int .i64 p38.Mark] 25 (0, 0))] :: Fs)) (List.Perm.refl _) (fun v52 J53 M54 hq55 hJ56 => ?_)
    replace hle := hle.trans hJ56
    replace hr37 := hr37.mono hJ56
    replace hr41 := hr41.mono hJ56
    obtain ⟨g57, A59, c60, s58, A63, c64, s62, rfl, rfl, ho61, ho65⟩ := hq55
    refine at_eff rfl rfl ?_
    obtain ⟨b5, H66, H⟩ := bind_some H
    refine eff_call rfl rfl ok23 rfl rfl (show Meets Try.prog 23 ([.pointer (some ⟨g57, 0, none⟩)] : List Value).toArray _ [[(g57, .cells #[.int .i64 b4.cols, .int .i64 b4.row, .int .i64 b4.col, .slice A59 b4.cells.length c60, .bool b4.inRow, .slice A63 b4.spots.length c64] 63 (0, 0))], s58, s62] _ from impl_layout_spot.calls H66 ho61 ho65) (Mr := ([(g43, .cells #[.slice A39 p38.Points.length c40, .int .i64 p38.Cursor, .int .i64 p38.Mark] 25 (0, 0))] :: Fs)) (List.Perm.refl _) (fun v67 J68 M69 hq70 hJ71 => ?_)
    replace hle := hle.trans hJ71
    replace ho61 := ho61.mono hJ71
    replace ho65 := ho65.mono hJ71
    replace hr37 := hr37.mono hJ71
    replace hr41 := hr41.mono hJ71
    obtain ⟨rfl, rfl⟩ := hq70
    refine at_seg [5, 6, 7] [] rfl [] [6] (L2 := [(6, .int .i64 (IntKind.i64.wrap (b5.Line + 1)))]) (obs := []) (by kernel_rfl) ?_ ?_
    · intro w hs; exact trivial
    refine at_end ?_
    refine at_thn ?_
    refine at_ret ?_
    obtain rfl := Option.some.inj H
    refine at_drop (k := 0) rfl rfl ?_
    refine at_eqM (M1 := (s58 :: s62 :: [(g43, .cells #[.slice A39 p38.Points.length c40, .int .i64 p38.Cursor, .int .i64 p38.Mark] 25 (0, 0))] :: Fs)) (M2 := (s58 :: s62 :: [(g43, .cells #[.slice A39 p38.Points.length c40, .int .i64 p38.Cursor, .int .i64 p38.Mark] 25 (0, 0))] :: Fs)) rfl rfl ?_
    refine at_drop (k := 0) rfl rfl ?_
    refine at_eqM (M1 := (s62 :: [(g43, .cells #[.slice A39 p38.Points.length c40, .int .i64 p38.Cursor, .int .i64 p38.Mark] 25 (0, 0))] :: Fs)) (M2 := (s62 :: [(g43, .cells #[.slice A39 p38.Points.length c40, .int .i64 p38.Cursor, .int .i64 p38.Mark] 25 (0, 0))] :: Fs)) rfl rfl ?_
    refine at_drop (k := 0) rfl rfl ?_
    refine at_eqM (M1 := ([(g43, .cells #[.slice A39 p38.Points.length c40, .int .i64 p38.Cursor, .int .i64 p38.Mark] 25 (0, 0))] :: Fs)) (M2 := ([(g43, .cells #[.slice A39 p38.Points.length c40, .int .i64 p38.Cursor, .int .i64 p38.Mark] 25 (0, 0))] :: Fs)) rfl rfl ?_
    refine at_drop (k := 0) rfl rfl ?_
    refine at_eqM (M1 := (Fs)) (M2 := (Fs)) rfl rfl ?_
    refine at_done (vs := [.int .i64 (IntKind.i64.wrap (b5.Line + 1))]) (obs := []) (.inl rfl) [.tmp 6] [] rfl (by kernel_rfl) (fun w hs => trivial) (fun w hs => ⟨_, _, [], rfl, ⟨rfl, rfl⟩, hle, hs⟩)
  · rw [if_neg h50] at H
    refine at_cond_t rfl (not_tt (ff_of h50)) ?_
    refine at_seq ?_
    refine at_reg [] [6] (L2 := [(6, .int .i64 0)]) (obs := []) (by kernel_rfl) ?_ ?_
    · intro w hs; exact trivial
    refine at_thn ?_
    refine at_ret ?_
    refine at_then_ret ?_
    obtain rfl := Option.some.inj H
    refine at_drop (k := 0) rfl rfl ?_
    refine at_eqM (M1 := (Fs)) (M2 := (Fs)) rfl rfl ?_
    refine at_done (vs := [.int .i64 0]) (obs := []) (.inl rfl) [.tmp 6] [] rfl (by kernel_rfl) (fun w hs => trivial) (fun w hs => ⟨_, _, [], rfl, ⟨rfl, rfl⟩, hle, hs⟩)
end Go.Proofs.Ytnhnipdanpcbeaa
