import Derived.Test.YtnhnipdanpcbeaaV15
namespace Go.Proofs.Ytnhnipdanpcbeaa
open Go Eng
set_option linter.unusedVariables false
set_option linter.unusedSimpArgs false
/-! ### (*loop.example/g00146/impl.Cell).isWide: function 37 -/
def impl_Cell_isWide'' (k : Nat) (p22081 : List T_impl_Cell) (p22082 : Int) : Option Bool := if (((rdA z_impl_Cell p22081 p22082).Points).length : Int) > 0 then (if 0 < (((rdA z_impl_Cell p22081 p22082).Points).length : Int) then ((impl_WidthOf k (rdA 0 ((rdA z_impl_Cell p22081 p22082).Points) 0)).bind fun b10 => (some (b10 == 2))) else none) else (some false)
set_option maxHeartbeats 4000000 in
set_option maxRecDepth 100000 in
theorem impl_Cell_isWide''.calls {k : Nat} {p22081 : List T_impl_Cell} {p22082 : Int} {r : Bool} {I0 : Imm} {A22083 : Option Addr} {c22084 : Nat} (H : impl_Cell_isWide'' k p22081 p22082 = some r) (hr22088 : Rd k_impl_Cell I0 A22083 c22084 p22081) (h22086 : 0 ≤ p22082) (h22087 : p22082 < (p22081.length : Int)) :
    Meets Try.prog 37 ([.pointer (some ((A22083.getD ad0).add (p22082.toNat * 2)))] : List Value).toArray I0 [] (fun v J M => v = .bool r ∧ M = []) := by
 have hle := ImmLe.refl I0
 unfold impl_Cell_isWide'' at H
 refine fn_intro (fn := Try.f37) 19 Try.func37 rfl rfl rfl (fun E Fs => ?_)
 refine at_seq (at_reg0 [] [0] [(0, .pointer (some ((A22083.getD ad0).add (p22082.toNat * 2))))] ?_)
 refine at_thn (at_seq (at_ops [0, 1, 2, 3, 4, 5, 6, 7, 8, 9, 10, 11, 12, 13, 14, 15, 16] rfl ?_))
 by_cases h22095 : (((rdA z_impl_Cell p22081 p22082).Points).length : Int) > 0
 ·
  rw [if_pos h22095] at H
  obtain ⟨h22102, H⟩ := ite_some H
  obtain ⟨cs22100, hz22101, hc22096⟩ := hr22088.elem z_impl_Cell p22082 h22086 h22087
  obtain ⟨A22097, c22098, rfl, hr22099⟩ := hz22101
  refine at_seg1 [0, 1, 2, 3, 4, 5, 6, 7, 8, 9, 10, 11, 12] [13, 14, 15, 16] [(3, .slice A22097 ((rdA z_impl_Cell p22081 p22082).Points).length c22098), (6, .bool true), (10, .slice A22097 ((rdA z_impl_Cell p22081 p22082).Points).length c22098), (12, iV (rdA 0 ((rdA z_impl_Cell p22081 p22082).Points) 0))] [9, 15] [(9, .bool true), (15, iV (rdA 0 ((rdA z_impl_Cell p22081 p22082).Points) 0))] [fun w => w.cell? (((A22083.getD ad0).add (p22082.toNat * 2)).add 0) = some (.slice A22097 ((rdA z_impl_Cell p22081 p22082).Points).length c22098), oT ((((rdA z_impl_Cell p22081 p22082).Points).length : Int) > 0), fun w => w.cell? (((A22083.getD ad0).add (p22082.toNat * 2)).add 0) = some (.slice A22097 ((rdA z_impl_Cell p22081 p22082).Points).length c22098), fun _ => A22097.isSome = true ∧ 0 ≤ (0 : Int) ∧ (0 : Int) < ((((rdA z_impl_Cell p22081 p22082).Points).length : Nat) : Int), fun w => w.cell? ((A22097.getD ad0).add ((0 : Int).toNat * 1)) = some (iV (rdA 0 ((rdA z_impl_Cell p22081 p22082).Points) 0))] (fun w hs => ⟨hc22096 0 _ rfl hs, cT (h22095), hc22096 0 _ rfl hs, ⟨hr22099.ne 0 (by decide : (0 : Int) ≤ 0) h22102, (by decide : (0 : Int) ≤ 0), h22102⟩, hr22099.one 0 0 (by decide : (0 : Int) ≤ 0) h22102 hs⟩) ?_
  refine at_eff rfl rfl ?_
  obtain ⟨b10, H22103, H⟩ := bind_some H
  have hm_ := impl_WidthOf.calls (I0 := I0) H22103
  refine eff_call rfl rfl ok55 rfl rfl (show Meets Try.prog 55 ([iV (rdA 0 ((rdA z_impl_Cell p22081 p22082).Points) 0)] : List Value).toArray _ [] _ from hm_) (Mr := (Fs)) (List.Perm.refl _) (fun v22104 J22105 M22106 hq22107 hJ22108 => ?_)
  replace hle := hle.trans hJ22108
  obtain ⟨rfl, rfl⟩ := hq22107
  refine at_seg0 [14, 15, 16] [] [] [2] [(2, .bool (b10 == 2))] ?_
  refine at_end (at_thn (at_ret ?_))
  obtain rfl := Option.some.inj H
  exact at_done0 [.bool (b10 == 2)] (.inl rfl) [.tmp 2] fun w hs => ⟨_, _, [], rfl, ⟨rfl, rfl⟩, hle, hs⟩
 ·
  rw [if_neg h22095] at H
  obtain ⟨cs22113, hz22114, hc22109⟩ := hr22088.elem z_impl_Cell p22082 h22086 h22087
  obtain ⟨A22110, c22111, rfl, hr22112⟩ := hz22114
  refine at_seg1 [0, 1, 2, 3, 4, 5, 6, 7, 8, 9, 10, 11, 12] [13, 14, 15, 16] [(3, .slice A22110 ((rdA z_impl_Cell p22081 p22082).Points).length c22111), (6, .bool false)] [9, 15] [(9, .bool false), (15, undef)] [fun w => w.cell? (((A22083.getD ad0).add (p22082.toNat * 2)).add 0) = some (.slice A22110 ((rdA z_impl_Cell p22081 p22082).Points).length c22111), oF ((((rdA z_impl_Cell p22081 p22082).Points).length : Int) > 0)] (fun w hs => ⟨hc22109 0 _ rfl hs, cF (h22095)⟩) ?_
  refine at_seg0 [13, 14, 15, 16] [] [] [2] [(2, .bool false)] ?_
  refine at_end (at_thn (at_ret ?_))
  obtain rfl := Option.some.inj H
  exact at_done0 [.bool false] (.inl rfl) [.tmp 2] fun w hs => ⟨_, _, [], rfl, ⟨rfl, rfl⟩, hle, hs⟩

/-! ### (*loop.example/g00146/impl.Grid).isRightHalf: function 42 -/
def impl_Grid_isRightHalf (k : Nat) (p22072 : T_impl_Grid) (p22076 : Int) : Option Bool := if ¬ p22072.Cols = 0 then (if (p22076.tmod p22072.Cols) > 0 then (if 0 ≤ (IntKind.i64.wrap (p22076 - 1)) then (if (IntKind.i64.wrap (p22076 - 1)) < (p22072.Cells.length : Int) then ((impl_Cell_isWide'' k p22072.Cells (IntKind.i64.wrap (p22076 - 1))).bind fun b10 => (some b10)) else none) else none) else (some false)) else none
set_option maxHeartbeats 4000000 in
set_option maxRecDepth 100000 in
theorem impl_Grid_isRightHalf.calls {k : Nat} {p22072 : T_impl_Grid} {p22076 : Int} {r : Bool} {I0 : Imm} {g22071 : Nat} {A22073 : Option Addr} {c22074 : Nat} (H : impl_Grid_isRightHalf k p22072 p22076 = some r) (hr22075 : Rd k_impl_Cell I0 A22073 c22074 p22072.Cells) :
    Meets Try.prog 42 ([.pointer (some ⟨g22071, 0, none⟩), .int .i64 p22076] : List Value).toArray I0 [[(g22071, .cells #[.int .i64 p22072.Rows, .int .i64 p22072.Cols, .slice A22073 p22072.Cells.length c22074, .int .i64 p22072.Row, .int .i64 p22072.Col, .bool p22072.Hang, .int .i64 p22072.Attr] 38 (0, 0))]] (fun v J M => v = .bool r ∧ M = [[(g22071, .cells #[.int .i64 p22072.Rows, .int .i64 p22072.Cols, .slice A22073 p22072.Cells.length c22074, .int .i64 p22072.Row, .int .i64 p22072.Col, .bool p22072.Hang, .int .i64 p22072.Attr] 38 (0, 0))]]) := by
 have hle := ImmLe.refl I0
 unfold impl_Grid_isRightHalf at H
 refine fn_intro (fn := Try.f42) 22 Try.func42 rfl rfl rfl (fun E Fs => ?_)
 refine at_seq (at_reg0 [] [0, 1] [(0, .pointer (some ⟨g22071, 0, none⟩)), (1, iV p22076)] ?_)
 refine at_thn (at_seq (at_ops [0, 1, 2, 3, 4, 5, 6, 7, 8, 9, 10, 11, 12, 13, 14, 15, 16, 17] rfl ?_))
 obtain ⟨h22077, H⟩ := ite_some H
 by_cases h22078 : (p22076.tmod p22072.Cols) > 0
 ·
  rw [if_pos h22078] at H
  obtain ⟨h22079, H⟩ := ite_some H
  obtain ⟨h22080, H⟩ := ite_some H
  refine at_seg1 [0, 1, 2, 3, 4, 5, 6, 7, 8, 9, 10, 11, 12, 13, 14] [15, 16, 17] [(4, iV p22072.Cols), (7, .bool true), (11, .slice A22073 p22072.Cells.length c22074)] [12, 19] [(12, .bool true), (19, .pointer (some ((A22073.getD ad0).add ((IntKind.i64.wrap (p22076 - 1)).toNat * 2))))] [fun w => w.cell? ⟨g22071, 1, none⟩ = some (iV p22072.Cols), fun _ => ¬ p22072.Cols = 0, oT ((p22076.tmod p22072.Cols) > 0), fun w => w.cell? ⟨g22071, 2, none⟩ = some (.slice A22073 p22072.Cells.length c22074), fun _ => A22073.isSome = true ∧ 0 ≤ (IntKind.i64.wrap (p22076 - 1)) ∧ (IntKind.i64.wrap (p22076 - 1)) < ((p22072.Cells.length : Nat) : Int)] (fun w hs => ⟨hs.var (k := 0) rfl 1 rfl, h22077, cT (h22078), hs.var (k := 0) rfl 2 rfl, ⟨hr22075.ne (IntKind.i64.wrap (p22076 - 1)) h22079 h22080, h22079, h22080⟩⟩) ?_
  refine at_eff rfl rfl ?_
  obtain ⟨b10, H22081, H⟩ := bind_some H
  have hm_ := impl_Cell_isWide''.calls (I0 := I0) H22081 hr22075 h22079 h22080
  refine eff_call rfl rfl ok37 rfl rfl (show Meets Try.prog 37 ([.pointer (some ((A22073.getD ad0).add ((IntKind.i64.wrap (p22076 - 1)).toNat * 2)))] : List Value).toArray _ [] _ from hm_) (Mr := ([(g22071, .cells #[iV p22072.Rows, iV p22072.Cols, .slice A22073 p22072.Cells.length c22074, iV p22072.Row, iV p22072.Col, .bool p22072.Hang, iV p22072.Attr] 38 (0, 0))] :: Fs)) (List.Perm.refl _) (fun v22082 J22083 M22084 hq22085 hJ22086 => ?_)
  replace hle := hle.trans hJ22086
  replace hr22075 := hr22075.mono hJ22086
  obtain ⟨rfl, rfl⟩ := hq22085
  refine at_seg0 [16, 17] [] [] [4] [(4, .bool b10)] ?_
  refine at_end (at_thn (at_ret ?_))
  obtain rfl := Option.some.inj H
  exact at_done0 [.bool b10] (.inl rfl) [.tmp 4] fun w hs => ⟨_, _, [[(g22071, .cells #[iV p22072.Rows, iV p22072.Cols, .slice A22073 p22072.Cells.length c22074, iV p22072.Row, iV p22072.Col, .bool p22072.Hang, iV p22072.Attr] 38 (0, 0))]], rfl, ⟨rfl, rfl⟩, hle, hs⟩
 ·
  rw [if_neg h22078] at H
  refine at_seg1 [0, 1, 2, 3, 4, 5, 6, 7, 8, 9, 10, 11, 12, 13, 14] [15, 16, 17] [(4, iV p22072.Cols), (7, .bool false)] [12, 19] [(12, .bool false), (19, undef)] [fun w => w.cell? ⟨g22071, 1, none⟩ = some (iV p22072.Cols), fun _ => ¬ p22072.Cols = 0, oF ((p22076.tmod p22072.Cols) > 0)] (fun w hs => ⟨hs.var (k := 0) rfl 1 rfl, h22077, cF (h22078)⟩) ?_
  refine at_seg0 [15, 16, 17] [] [] [4] [(4, .bool false)] ?_
  refine at_end (at_thn (at_ret ?_))
  obtain rfl := Option.some.inj H
  exact at_done0 [.bool false] (.inl rfl) [.tmp 4] fun w hs => ⟨_, _, [[(g22071, .cells #[iV p22072.Rows, iV p22072.Cols, .slice A22073 p22072.Cells.length c22074, iV p22072.Row, iV p22072.Col, .bool p22072.Hang, iV p22072.Attr] 38 (0, 0))]], rfl, ⟨rfl, rfl⟩, hle, hs⟩

/-! ### loop.example/g00146/impl.FlatRight: function 15 -/
mutual
def impl_FlatRight_l0 : Nat → Bool → Int → Int → T_impl_Grid → Option Bool
  | 0, _, _, _, _ => none
  | k + 1, x22067, x22068, b9, p22047 => if x22068 < b9 then (if ¬ p22047.Cols = 0 then (if (x22068.tmod p22047.Cols) = 0 then (impl_FlatRight_j0 k false b9 p22047 x22068) else (impl_FlatRight_j0 k x22067 b9 p22047 x22068)) else none) else (some true)
def impl_FlatRight_j0 : Nat → Bool → Int → T_impl_Grid → Int → Option Bool
  | 0, _, _, _, _ => none
  | k + 1, x22175, b9, p22047, x22068 => if 0 ≤ x22068 then (if x22068 < (p22047.Cells.length : Int) then ((impl_Grid_isRightHalf k p22047 x22068).bind fun b10 => (if b10 = true then (impl_FlatRight_l0 k x22175 (IntKind.i64.wrap (x22068 + 1)) b9 p22047) else ((impl_Cell_isEmpty p22047.Cells x22068).bind fun b11 => (if b11 = true then (if ((rdA z_impl_Cell p22047.Cells x22068).Attr) = 0 then (impl_FlatRight_l0 k true (IntKind.i64.wrap (x22068 + 1)) b9 p22047) else (some false)) else (if x22175 = true then (some false) else (impl_FlatRight_l0 k x22175 (IntKind.i64.wrap (x22068 + 1)) b9 p22047)))))) else none) else none
end
def impl_FlatRight (k : Nat) (p22047 : T_impl_Grid) : Option Bool := (impl_GridRight k p22047).bind fun b8 => (if b8 = true then (if p22047.Hang = true then (some false) else (if p22047.Attr = 0 then ((impl_Cell p22047.Cells).bind fun b9 => (impl_FlatRight_l0 k false 0 b9 p22047)) else (some false))) else (some false))
set_option maxHeartbeats 4000000 in
set_option maxRecDepth 100000 in
theorem impl_FlatRight.calls {k : Nat} {p22047 : T_impl_Grid} {r : Bool} {I0 : Imm} {A22048 : Option Addr} {c22049 : Nat} (H : impl_FlatRight k p22047 = some r) (hr22050 : Rd k_impl_Cell I0 A22048 c22049 p22047.Cells) :
    Meets Try.prog 15 ([.agg #[.int .i64 p22047.Rows, .int .i64 p22047.Cols, .slice A22048 p22047.Cells.length c22049, .int .i64 p22047.Row, .int .i64 p22047.Col, .bool p22047.Hang, .int .i64 p22047.Attr]] : List Value).toArray I0 [] (fun v J M => v = .bool r ∧ M = []) := by
 have hle := ImmLe.refl I0
 unfold impl_FlatRight at H
 refine fn_intro (fn := Try.f15) 48 Try.func15 rfl rfl rfl (fun E Fs => ?_)
 refine at_seq (at_ops [0, 1] rfl ?_)
 refine at_eff rfl rfl ?_
 refine eff_box rfl rfl rfl #[iV p22047.Rows, iV p22047.Cols, .slice A22048 p22047.Cells.length c22049, iV p22047.Row, iV p22047.Col, .bool p22047.Hang, iV p22047.Attr] rfl (fun g22051 => ?_)
 refine at_seg0 [1] [] [] [1] [(1, .pointer (some ⟨g22051, 0, none⟩))] ?_
 refine at_end (at_thn (at_seq (at_seq (at_ops [0, 1, 2, 3, 4, 5, 6, 7, 8, 9, 10, 11] rfl ?_))))
 refine at_seg1 [0] [1, 2, 3, 4, 5, 6, 7, 8, 9, 10, 11] [(0, .agg #[iV p22047.Rows, iV p22047.Cols, .slice A22048 p22047.Cells.length c22049, iV p22047.Row, iV p22047.Col, .bool p22047.Hang, iV p22047.Attr])] [1, 6] [(1, .pointer (some ⟨g22051, 0, none⟩)), (6, .agg #[iV p22047.Rows, iV p22047.Cols, .slice A22048 p22047.Cells.length c22049, iV p22047.Row, iV p22047.Col, .bool p22047.Hang, iV p22047.Attr])] [fun w => CellsAt w ⟨g22051, 0, none⟩ [iV p22047.Rows, iV p22047.Cols, .slice A22048 p22047.Cells.length c22049, iV p22047.Row, iV p22047.Col, .bool p22047.Hang, iV p22047.Attr] 0] (fun w hs => cellsV (k := 0) hs rfl _ 0 (Nat.le_of_ble_eq_true (by kernel_rfl)) rfl) ?_
 refine at_eff rfl rfl ?_
 obtain ⟨b8, H22052, H⟩ := bind_some H
 have hm_ := impl_GridRight.calls (I0 := I0) H22052 hr22050
 refine eff_call rfl rfl ok14 rfl rfl (show Meets Try.prog 14 ([.agg #[iV p22047.Rows, iV p22047.Cols, .slice A22048 p22047.Cells.length c22049, iV p22047.Row, iV p22047.Col, .bool p22047.Hang, iV p22047.Attr]] : List Value).toArray _ [] _ from hm_) (Mr := ([(g22051, .cells #[iV p22047.Rows, iV p22047.Cols, .slice A22048 p22047.Cells.length c22049, iV p22047.Row, iV p22047.Col, .bool p22047.Hang, iV p22047.Attr] 38 (0, 0))] :: Fs)) (List.Perm.refl _) (fun v22053 J22054 M22055 hq22056 hJ22057 => ?_)
 replace hle := hle.trans hJ22057
 replace hr22050 := hr22050.mono hJ22057
 obtain ⟨rfl, rfl⟩ := hq22056
 by_cases h22058 : b8 = true
 ·
  rw [if_pos h22058] at H
  by_cases h22059 : p22047.Hang = true
  ·
   rw [if_pos h22059] at H
   refine at_seg1 [2, 3, 4, 5, 6, 7, 8, 9, 10, 11] [] [(3, .bool false), (5, .bool p22047.Hang), (7, .bool true)] [1, 17] [(1, .pointer (some ⟨g22051, 0, none⟩)), (17, .bool true)] [fun _ => (.bool (!b8) : Value) = .bool false, fun w => w.cell? ⟨g22051, 5, none⟩ = some (.bool p22047.Hang), fun _ => (.bool p22047.Hang : Value) = .bool true] (fun w hs => ⟨congrArg Value.bool (not_ff (h22058)), hs.var (k := 0) rfl 5 rfl, congrArg Value.bool (h22059)⟩) ?_
   refine at_end (at_thn (at_cond_t rfl (rfl) ?_))
   refine at_seq (at_reg0 [] [2] [(2, .bool false)] ?_)
   refine at_thn (at_ret (at_then_ret ?_))
   obtain rfl := Option.some.inj H
   refine at_drop (k := 0) rfl rfl ?_
   exact at_done0 [.bool false] (.inl rfl) [.tmp 2] fun w hs => ⟨_, _, [], rfl, ⟨rfl, rfl⟩, hle, hs⟩
  ·
   rw [if_neg h22059] at H
   refine at_seg1 [2, 3, 4, 5, 6, 7, 8, 9, 10, 11] [] [(3, .bool false), (5, .bool p22047.Hang), (7, .bool false), (9, iV p22047.Attr)] [1, 17] [(1, .pointer (some ⟨g22051, 0, none⟩)), (17, .bool (p22047.Attr != 0))] [fun _ => (.bool (!b8) : Value) = .bool false, fun w => w.cell? ⟨g22051, 5, none⟩ = some (.bool p22047.Hang), fun _ => (.bool p22047.Hang : Value) = .bool false, fun w => w.cell? ⟨g22051, 6, none⟩ = some (iV p22047.Attr)] (fun w hs => ⟨congrArg Value.bool (not_ff (h22058)), hs.var (k := 0) rfl 5 rfl, congrArg Value.bool (ff_of h22059), hs.var (k := 0) rfl 6 rfl⟩) ?_
   refine at_end (at_thn ?_)
   by_cases h22060 : p22047.Attr = 0
   ·
    rw [if_pos h22060] at H
    refine at_cond_f rfl (bne_eq_false_iff_eq.2 h22060) ?_
    refine at_skip (at_thn (at_seq (at_reg0 [] [1, 3] [(1, .pointer (some ⟨g22051, 0, none⟩)), (3, .bool false)] ?_)))
    refine at_thn (at_seq (at_seq (at_ops [0, 1, 2, 3] rfl ?_)))
    refine at_seg1 [0, 1] [2, 3] [(1, .slice A22048 p22047.Cells.length c22049)] [1, 3, 19] [(1, .pointer (some ⟨g22051, 0, none⟩)), (3, .bool false), (19, .slice A22048 p22047.Cells.length c22049)] [fun w => w.cell? ⟨g22051, 2, none⟩ = some (.slice A22048 p22047.Cells.length c22049)] (fun w hs => hs.var (k := 0) rfl 2 rfl) ?_
    refine at_eff rfl rfl ?_
    obtain ⟨b9, H22061, H⟩ := bind_some H
    have hm_ := impl_Cell.calls (I0 := J22054) H22061 hr22050
    refine eff_call rfl rfl ok39 rfl rfl (show Meets Try.prog 39 ([.slice A22048 p22047.Cells.length c22049] : List Value).toArray _ [] _ from hm_) (Mr := ([(g22051, .cells #[iV p22047.Rows, iV p22047.Cols, .slice A22048 p22047.Cells.length c22049, iV p22047.Row, iV p22047.Col, .bool p22047.Hang, iV p22047.Attr] 38 (0, 0))] :: Fs)) (List.Perm.refl _) (fun v22062 J22063 M22064 hq22065 hJ22066 => ?_)
    replace hle := hle.trans hJ22066
    replace hr22050 := hr22050.mono hJ22066
    obtain ⟨rfl, rfl⟩ := hq22065
    refine at_seg0 [3] [] [] [1, 3, 20, 21] [(1, .pointer (some ⟨g22051, 0, none⟩)), (3, .bool false), (20, iV b9), (21, iV 0)] ?_
    refine at_end (at_thn (at_block (at_keep [1, 3, 20, 21] (L2 := [(1, .pointer (some ⟨g22051, 0, none⟩)), (3, .bool false), (20, iV b9), (21, iV 0)]) rfl ?_)))
    refine at_loop (fun k22069 L I Ms => ∃ (x22067 : Bool) (x22068 : Int), L = [(1, .pointer (some ⟨g22051, 0, none⟩)), (3, .bool x22067), (20, iV b9), (21, iV x22068)] ∧ Ms = ([(g22051, .cells #[iV p22047.Rows, iV p22047.Cols, .slice A22048 p22047.Cells.length c22049, iV p22047.Row, iV p22047.Col, .bool p22047.Hang, iV p22047.Attr] 38 (0, 0))] :: Fs) ∧ impl_FlatRight_l0 k22069 x22067 x22068 b9 p22047 = some r ∧ ImmLe I0 I ∧ k22069 ≤ k ∧ Rd k_impl_Cell I A22048 c22049 p22047.Cells) ?_ ?_ k ⟨false, 0, rfl, rfl, H, hle, Nat.le_refl _, hr22050⟩
    · rintro L I Ms ⟨_, _, rfl, rfl, H, _⟩; exact no_none H
    ·
     clear H hle hr22050
     intro k22069 ih22070 L I Ms h_; obtain ⟨x22067, x22068, hL_, hM_, H, hle, hk22071, hr22050⟩ := h_; rw [hL_, hM_]; clear hL_ hM_ L Ms
     rw [impl_FlatRight_l0] at H
     refine at_seq (at_reg0 [] [1, 3, 20, 21, 22] [(1, .pointer (some ⟨g22051, 0, none⟩)), (3, .bool x22067), (20, iV b9), (21, iV x22068), (22, .bool (decide (x22068 < b9)))] ?_)
     refine at_thn (at_seq ?_)
     by_cases h22072 : x22068 < b9
     ·
      rw [if_pos h22072] at H
      refine at_cond_t rfl (decide_eq_true h22072) ?_
      refine at_skip (at_thn (at_seq (at_block (at_seq (at_reg0 [] [1, 3, 4, 20, 21] [(1, .pointer (some ⟨g22051, 0, none⟩)), (3, .bool x22067), (4, iV x22068), (20, iV b9), (21, iV x22068)] ?_)))))
      refine at_thn (at_join (fun L I Ms => ∃ (k22176 : Nat), ∃ (x22175 : Bool), L = [(1, .pointer (some ⟨g22051, 0, none⟩)), (3, .bool x22175), (4, iV x22068), (20, iV b9), (21, iV x22068)] ∧ Ms = ([(g22051, .cells #[iV p22047.Rows, iV p22047.Cols, .slice A22048 p22047.Cells.length c22049, iV p22047.Row, iV p22047.Col, .bool p22047.Hang, iV p22047.Attr] 38 (0, 0))] :: Fs) ∧ impl_FlatRight_j0 k22176 x22175 b9 p22047 x22068 = some r ∧ ImmLe I0 I ∧ k22176 ≤ k22069 ∧ Rd k_impl_Cell I A22048 c22049 p22047.Cells) ?_ ?_)
      ·
       clear H hle hr22050
       intro L I Ms h_; obtain ⟨k22176, x22175, hL_, hM_, H, hle, hk22177, hr22050⟩ := h_; rw [hL_, hM_]; clear hL_ hM_ L Ms
       rcases k22176 with _ | k22176
       · exact (no_none H).elim
       rw [impl_FlatRight_j0] at H
       refine at_seq ?_
       obtain ⟨h22178, H⟩ := ite_some H
       obtain ⟨h22179, H⟩ := ite_some H
       refine at_reg1 [(1, .slice A22048 p22047.Cells.length c22049)] [1, 3, 4, 5, 20, 21] [(1, .pointer (some ⟨g22051, 0, none⟩)), (3, .bool x22175), (4, iV x22068), (5, .pointer (some ((A22048.getD ad0).add (x22068.toNat * 2)))), (20, iV b9), (21, iV x22068)] [fun w => w.cell? ⟨g22051, 2, none⟩ = some (.slice A22048 p22047.Cells.length c22049), fun _ => A22048.isSome = true ∧ 0 ≤ x22068 ∧ x22068 < ((p22047.Cells.length : Nat) : Int)] (fun w hs => ⟨hs.var (k := 0) rfl 2 rfl, ⟨hr22050.ne x22068 h22178 h22179, h22178, h22179⟩⟩) ?_
       refine at_thn (at_block (at_seq (at_ops [0, 1, 2] rfl ?_)))
       refine at_seg0 [0] [1, 2] [] [1, 3, 5, 20, 21, 34] [(1, .pointer (some ⟨g22051, 0, none⟩)), (3, .bool x22175), (5, .pointer (some ((A22048.getD ad0).add (x22068.toNat * 2)))), (20, iV b9), (21, iV x22068), (34, iV x22068)] ?_
       refine at_eff rfl rfl ?_
       obtain ⟨b10, H22180, H⟩ := bind_some H
       refine eff_call rfl rfl ok42 rfl rfl (show Meets Try.prog 42 ([.pointer (some ⟨g22051, 0, none⟩), iV x22068] : List Value).toArray _ [[(g22051, .cells #[iV p22047.Rows, iV p22047.Cols, .slice A22048 p22047.Cells.length c22049, iV p22047.Row, iV p22047.Col, .bool p22047.Hang, iV p22047.Attr] 38 (0, 0))]] _ from impl_Grid_isRightHalf.calls H22180 hr22050) (Mr := (Fs)) (List.Perm.refl _) (fun v22181 J22182 M22183 hq22184 hJ22185 => ?_)
       replace hle := hle.trans hJ22185
       replace hr22050 := hr22050.mono hJ22185
       obtain ⟨rfl, rfl⟩ := hq22184
       refine at_seg0 [2] [] [] [1, 3, 5, 20, 21, 33] [(1, .pointer (some ⟨g22051, 0, none⟩)), (3, .bool x22175), (5, .pointer (some ((A22048.getD ad0).add (x22068.toNat * 2)))), (20, iV b9), (21, iV x22068), (33, .bool b10)] ?_
       refine at_end (at_thn ?_)
       by_cases h22186 : b10 = true
       ·
        rw [if_pos h22186] at H
        refine at_cond_t rfl (h22186) ?_
        refine at_skip (at_in_norm (at_in_norm (at_thn (at_reg0 [] [1, 3, 20, 21] [(1, .pointer (some ⟨g22051, 0, none⟩)), (3, .bool x22175), (20, iV b9), (21, iV (IntKind.i64.wrap (x22068 + 1)))] ?_))))
        refine at_thn (at_keep [1, 3, 20, 21] (L2 := [(1, .pointer (some ⟨g22051, 0, none⟩)), (3, .bool x22175), (20, iV b9), (21, iV (IntKind.i64.wrap (x22068 + 1)))]) rfl ?_)
        exact ih22070 _ (by omega) _ _ _ ⟨x22175, IntKind.i64.wrap (x22068 + 1), rfl, rfl, H, hle, by omega, hr22050⟩
       ·
        rw [if_neg h22186] at H
        refine at_cond_f rfl (ff_of h22186) ?_
        refine at_seq (at_ops [0, 1, 2, 3] rfl ?_)
        refine at_seg0 [0] [1, 2, 3] [] [1, 3, 5, 20, 21, 37] [(1, .pointer (some ⟨g22051, 0, none⟩)), (3, .bool x22175), (5, .pointer (some ((A22048.getD ad0).add (x22068.toNat * 2)))), (20, iV b9), (21, iV x22068), (37, .pointer (some ((A22048.getD ad0).add (x22068.toNat * 2))))] ?_
        refine at_eff rfl rfl ?_
        obtain ⟨b11, H22187, H⟩ := bind_some H
        have hm_ := impl_Cell_isEmpty.calls (I0 := J22182) H22187 hr22050 h22178 h22179
        refine eff_call rfl rfl ok41 rfl rfl (show Meets Try.prog 41 ([.pointer (some ((A22048.getD ad0).add (x22068.toNat * 2)))] : List Value).toArray _ [] _ from hm_) (Mr := ([(g22051, .cells #[iV p22047.Rows, iV p22047.Cols, .slice A22048 p22047.Cells.length c22049, iV p22047.Row, iV p22047.Col, .bool p22047.Hang, iV p22047.Attr] 38 (0, 0))] :: Fs)) (List.Perm.refl _) (fun v22188 J22189 M22190 hq22191 hJ22192 => ?_)
        replace hle := hle.trans hJ22192
        replace hr22050 := hr22050.mono hJ22192
        obtain ⟨rfl, rfl⟩ := hq22191
        refine at_seg0 [2, 3] [] [] [1, 3, 5, 20, 21, 36] [(1, .pointer (some ⟨g22051, 0, none⟩)), (3, .bool x22175), (5, .pointer (some ((A22048.getD ad0).add (x22068.toNat * 2)))), (20, iV b9), (21, iV x22068), (36, .bool (!b11))] ?_
        refine at_end (at_thn ?_)
        by_cases h22193 : b11 = true
        ·
         rw [if_pos h22193] at H
         refine at_cond_f rfl (not_ff (h22193)) ?_
         refine at_seq ?_
         obtain ⟨cs22198, hz22199, hc22194⟩ := hr22050.elem z_impl_Cell x22068 h22178 h22179
         obtain ⟨A22195, c22196, rfl, hr22197⟩ := hz22199
         refine at_reg1 [(3, iV ((rdA z_impl_Cell p22047.Cells x22068).Attr))] [1, 20, 21, 41] [(1, .pointer (some ⟨g22051, 0, none⟩)), (20, iV b9), (21, iV x22068), (41, .bool (((rdA z_impl_Cell p22047.Cells x22068).Attr) != 0))] [fun w => w.cell? (((A22048.getD ad0).add (x22068.toNat * 2)).add 1) = some (iV ((rdA z_impl_Cell p22047.Cells x22068).Attr))] (fun w hs => hc22194 1 _ rfl hs) ?_
         refine at_thn ?_
         by_cases h22200 : ((rdA z_impl_Cell p22047.Cells x22068).Attr) = 0
         ·
          rw [if_pos h22200] at H
          refine at_cond_f rfl (bne_eq_false_iff_eq.2 h22200) ?_
          refine at_reg0 [] [1, 3, 20, 21] [(1, .pointer (some ⟨g22051, 0, none⟩)), (3, .bool true), (20, iV b9), (21, iV x22068)] ?_
          refine at_in_norm (at_in_norm (at_thn (at_reg0 [] [1, 3, 20, 21] [(1, .pointer (some ⟨g22051, 0, none⟩)), (3, .bool true), (20, iV b9), (21, iV (IntKind.i64.wrap (x22068 + 1)))] ?_)))
          refine at_thn (at_keep [1, 3, 20, 21] (L2 := [(1, .pointer (some ⟨g22051, 0, none⟩)), (3, .bool true), (20, iV b9), (21, iV (IntKind.i64.wrap (x22068 + 1)))]) rfl ?_)
          exact ih22070 _ (by omega) _ _ _ ⟨true, IntKind.i64.wrap (x22068 + 1), rfl, rfl, H, hle, by omega, hr22050⟩
         ·
          rw [if_neg h22200] at H
          refine at_cond_t rfl (bne_iff_ne.2 h22200) ?_
          refine at_seq (at_reg0 [] [2] [(2, .bool false)] ?_)
          refine at_thn (at_ret (at_in_ret (at_in_ret (at_then_ret (at_then_ret (at_in_ret (at_then_ret ?_)))))))
          obtain rfl := Option.some.inj H
          refine at_drop (k := 0) rfl rfl ?_
          exact at_done0 [.bool false] (.inl rfl) [.tmp 2] fun w hs => ⟨_, _, [], rfl, ⟨rfl, rfl⟩, hle, hs⟩
        ·
         rw [if_neg h22193] at H
         refine at_cond_t rfl (not_tt (ff_of h22193)) ?_
         refine at_seq (at_reg0 [] [1, 3, 20, 21, 40] [(1, .pointer (some ⟨g22051, 0, none⟩)), (3, .bool x22175), (20, iV b9), (21, iV x22068), (40, .bool x22175)] ?_)
         refine at_thn ?_
         by_cases h22201 : x22175 = true
         ·
          rw [if_pos h22201] at H
          refine at_cond_t rfl (h22201) ?_
          refine at_seq (at_reg0 [] [2] [(2, .bool false)] ?_)
          refine at_thn (at_ret (at_in_ret (at_in_ret (at_then_ret (at_then_ret (at_in_ret (at_then_ret ?_)))))))
          obtain rfl := Option.some.inj H
          refine at_drop (k := 0) rfl rfl ?_
          exact at_done0 [.bool false] (.inl rfl) [.tmp 2] fun w hs => ⟨_, _, [], rfl, ⟨rfl, rfl⟩, hle, hs⟩
         ·
          rw [if_neg h22201] at H
          refine at_cond_f rfl (ff_of h22201) ?_
          refine at_skip (at_in_norm (at_in_norm (at_thn (at_reg0 [] [1, 3, 20, 21] [(1, .pointer (some ⟨g22051, 0, none⟩)), (3, .bool x22175), (20, iV b9), (21, iV (IntKind.i64.wrap (x22068 + 1)))] ?_))))
          refine at_thn (at_keep [1, 3, 20, 21] (L2 := [(1, .pointer (some ⟨g22051, 0, none⟩)), (3, .bool x22175), (20, iV b9), (21, iV (IntKind.i64.wrap (x22068 + 1)))]) rfl ?_)
          exact ih22070 _ (by omega) _ _ _ ⟨x22175, IntKind.i64.wrap (x22068 + 1), rfl, rfl, H, hle, by omega, hr22050⟩
      ·
       intro Jn22073
       refine at_seq ?_
       obtain ⟨h22073, H⟩ := ite_some H
       refine at_reg1 [(2, iV p22047.Cols)] [1, 3, 4, 20, 21, 28] [(1, .pointer (some ⟨g22051, 0, none⟩)), (3, .bool x22067), (4, iV x22068), (20, iV b9), (21, iV x22068), (28, .bool ((x22068.tmod p22047.Cols) == 0))] [fun w => w.cell? ⟨g22051, 1, none⟩ = some (iV p22047.Cols), fun _ => ¬ p22047.Cols = 0] (fun w hs => ⟨hs.var (k := 0) rfl 1 rfl, h22073⟩) ?_
       refine at_thn ?_
       by_cases h22074 : (x22068.tmod p22047.Cols) = 0
       ·
        rw [if_pos h22074] at H
        refine at_cond_t rfl (beq_iff_eq.2 h22074) ?_
        refine at_reg0 [] [1, 3, 4, 20, 21] [(1, .pointer (some ⟨g22051, 0, none⟩)), (3, .bool false), (4, iV x22068), (20, iV b9), (21, iV x22068)] ?_
        refine at_thn (at_keep [1, 3, 4, 20, 21] (L2 := [(1, .pointer (some ⟨g22051, 0, none⟩)), (3, .bool false), (4, iV x22068), (20, iV b9), (21, iV x22068)]) rfl ?_)
        exact Jn22073 _ _ _ ⟨_, false, rfl, rfl, H, hle, by omega, hr22050⟩
       ·
        rw [if_neg h22074] at H
        refine at_cond_f rfl (beq_eq_false_iff_ne.2 h22074) ?_
        refine at_skip (at_thn (at_keep [1, 3, 4, 20, 21] (L2 := [(1, .pointer (some ⟨g22051, 0, none⟩)), (3, .bool x22067), (4, iV x22068), (20, iV b9), (21, iV x22068)]) rfl ?_))
        exact Jn22073 _ _ _ ⟨_, x22067, rfl, rfl, H, hle, by omega, hr22050⟩
     ·
      rw [if_neg h22072] at H
      refine at_cond_f rfl (decide_eq_false h22072) ?_
      refine at_exit (at_then_exit (at_then_exit (at_in_hit (at_thn (at_seq (at_reg0 [] [2] [(2, .bool true)] ?_))))))
      refine at_thn (at_ret ?_)
      obtain rfl := Option.some.inj H
      refine at_drop (k := 0) rfl rfl ?_
      exact at_done0 [.bool true] (.inl rfl) [.tmp 2] fun w hs => ⟨_, _, [], rfl, ⟨rfl, rfl⟩, hle, hs⟩
   ·
    rw [if_neg h22060] at H
    refine at_cond_t rfl (bne_iff_ne.2 h22060) ?_
    refine at_seq (at_reg0 [] [2] [(2, .bool false)] ?_)
    refine at_thn (at_ret (at_then_ret ?_))
    obtain rfl := Option.some.inj H
    refine at_drop (k := 0) rfl rfl ?_
    exact at_done0 [.bool false] (.inl rfl) [.tmp 2] fun w hs => ⟨_, _, [], rfl, ⟨rfl, rfl⟩, hle, hs⟩
 ·
  rw [if_neg h22058] at H
  refine at_seg1 [2, 3, 4, 5, 6, 7, 8, 9, 10, 11] [] [(3, .bool true)] [1, 17] [(1, .pointer (some ⟨g22051, 0, none⟩)), (17, .bool true)] [fun _ => (.bool (!b8) : Value) = .bool true] (fun w hs => congrArg Value.bool (not_tt (ff_of h22058))) ?_
  refine at_end (at_thn (at_cond_t rfl (rfl) ?_))
  refine at_seq (at_reg0 [] [2] [(2, .bool false)] ?_)
  refine at_thn (at_ret (at_then_ret ?_))
  obtain rfl := Option.some.inj H
  refine at_drop (k := 0) rfl rfl ?_
  exact at_done0 [.bool false] (.inl rfl) [.tmp 2] fun w hs => ⟨_, _, [], rfl, ⟨rfl, rfl⟩, hle, hs⟩

/-! ### loop.example/g00146/impl.ViewRows: function 6 -/
def impl_ViewRows (k : Nat) (p29060 : List Int) (p29064 : T_impl_Buf) (p29068 : Int) : Option Int := (impl_isViewed k p29060 p29064 p29068).bind fun b10 => (if b10 = true then ((impl_lay k p29060 p29064 false p29068).bind fun b11 => ((impl_layout_spot b11).bind fun b12 => (some (IntKind.i64.wrap (b12.Line + 1))))) else (some 0))
set_option maxHeartbeats 4000000 in
set_option maxRecDepth 100000 in
theorem impl_ViewRows.calls {k : Nat} {p29060 : List Int} {p29064 : T_impl_Buf} {p29068 : Int} {r : Int} {I0 : Imm} {A29061 : Option Addr} {c29062 : Nat} {A29065 : Option Addr} {c29066 : Nat} (H : impl_ViewRows k p29060 p29064 p29068 = some r) (hr29063 : Rd (Kd.int .i64) I0 A29061 c29062 p29060) (hr29067 : Rd (Kd.int .i64) I0 A29065 c29066 p29064.Points) :
    Meets Try.prog 6 ([.slice A29061 p29060.length c29062, .agg #[.slice A29065 p29064.Points.length c29066, .int .i64 p29064.Cursor, .int .i64 p29064.Mark], .int .i64 p29068] : List Value).toArray I0 [] (fun v J M => v = .int .i64 r ∧ M = []) := by
 have hle := ImmLe.refl I0
 unfold impl_ViewRows at H
 refine fn_intro (fn := Try.f6) 19 Try.func6 rfl rfl rfl (fun E Fs => ?_)
 refine at_seq (at_ops [0, 1] rfl ?_)
 refine at_eff rfl rfl ?_
 refine eff_box rfl rfl rfl #[.slice A29065 p29064.Points.length c29066, iV p29064.Cursor, iV p29064.Mark] rfl (fun g29069 => ?_)
 refine at_seg0 [1] [] [] [0, 2, 4] [(0, .slice A29061 p29060.length c29062), (2, iV p29068), (4, .pointer (some ⟨g29069, 0, none⟩))] ?_
 refine at_end (at_thn (at_seq (at_seq (at_ops [0, 1, 2, 3, 4] rfl ?_))))
 refine at_seg1 [0, 1, 2] [3, 4] [(1, .agg #[.slice A29065 p29064.Points.length c29066, iV p29064.Cursor, iV p29064.Mark])] [0, 2, 4, 7, 8, 9] [(0, .slice A29061 p29060.length c29062), (2, iV p29068), (4, .pointer (some ⟨g29069, 0, none⟩)), (7, .slice A29061 p29060.length c29062), (8, .agg #[.slice A29065 p29064.Points.length c29066, iV p29064.Cursor, iV p29064.Mark]), (9, iV p29068)] [fun w => CellsAt w ⟨g29069, 0, none⟩ [.slice A29065 p29064.Points.length c29066, iV p29064.Cursor, iV p29064.Mark] 0] (fun w hs => cellsV (k := 0) hs rfl _ 0 (Nat.le_of_ble_eq_true (by kernel_rfl)) rfl) ?_
 refine at_eff rfl rfl ?_
 obtain ⟨b10, H29070, H⟩ := bind_some H
 have hm_ := impl_isViewed.calls (I0 := I0) H29070 hr29063 hr29067
 refine eff_call rfl rfl ok21 rfl rfl (show Meets Try.prog 21 ([.slice A29061 p29060.length c29062, .agg #[.slice A29065 p29064.Points.length c29066, iV p29064.Cursor, iV p29064.Mark], iV p29068] : List Value).toArray _ [] _ from hm_) (Mr := ([(g29069, .cells #[.slice A29065 p29064.Points.length c29066, iV p29064.Cursor, iV p29064.Mark] 25 (0, 0))] :: Fs)) (List.Perm.refl _) (fun v29071 J29072 M29073 hq29074 hJ29075 => ?_)
 replace hle := hle.trans hJ29075
 replace hr29063 := hr29063.mono hJ29075
 replace hr29067 := hr29067.mono hJ29075
 obtain ⟨rfl, rfl⟩ := hq29074
 refine at_seg0 [4] [] [] [0, 2, 4, 11] [(0, .slice A29061 p29060.length c29062), (2, iV p29068), (4, .pointer (some ⟨g29069, 0, none⟩)), (11, .bool (!b10))] ?_
 refine at_end (at_thn ?_)
 by_cases h29076 : b10 = true
 ·
  rw [if_pos h29076] at H
  refine at_cond_f rfl (not_ff (h29076)) ?_
  refine at_skip (at_thn (at_seq (at_ops [0, 1, 2, 3, 4, 5, 6, 7] rfl ?_)))
  refine at_seg1 [0, 1, 2] [3, 4, 5, 6, 7] [(1, .agg #[.slice A29065 p29064.Points.length c29066, iV p29064.Cursor, iV p29064.Mark])] [12, 13, 14] [(12, .slice A29061 p29060.length c29062), (13, .agg #[.slice A29065 p29064.Points.length c29066, iV p29064.Cursor, iV p29064.Mark]), (14, iV p29068)] [fun w => CellsAt w ⟨g29069, 0, none⟩ [.slice A29065 p29064.Points.length c29066, iV p29064.Cursor, iV p29064.Mark] 0] (fun w hs => cellsV (k := 0) hs rfl _ 0 (Nat.le_of_ble_eq_true (by kernel_rfl)) rfl) ?_
  refine at_eff rfl rfl ?_
  obtain ⟨b11, H29077, H⟩ := bind_some H
  have hm_ := impl_lay.calls (I0 := J29072) H29077 hr29063 hr29067
  refine eff_call rfl rfl ok22 rfl rfl (show Meets Try.prog 22 ([.slice A29061 p29060.length c29062, .agg #[.slice A29065 p29064.Points.length c29066, iV p29064.Cursor, iV p29064.Mark], .bool false, iV p29068] : List Value).toArray _ [] _ from hm_) (Mr := ([(g29069, .cells #[.slice A29065 p29064.Points.length c29066, iV p29064.Cursor, iV p29064.Mark] 25 (0, 0))] :: Fs)) (List.Perm.refl _) (fun v29078 J29079 M29080 hq29081 hJ29082 => ?_)
  replace hle := hle.trans hJ29082
  replace hr29063 := hr29063.mono hJ29082
  replace hr29067 := hr29067.mono hJ29082
  obtain ⟨g29083, A29085, c29086, s29084, A29089, c29090, s29088, rfl, rfl, ho29087, ho29091⟩ := hq29081
  refine at_eff rfl rfl ?_
  obtain ⟨b12, H29092, H⟩ := bind_some H
  refine eff_call rfl rfl ok23 rfl rfl (show Meets Try.prog 23 ([.pointer (some ⟨g29083, 0, none⟩)] : List Value).toArray _ [[(g29083, .cells #[iV b11.cols, iV b11.row, iV b11.col, .slice A29085 b11.cells.length c29086, .bool b11.inRow, .slice A29089 b11.spots.length c29090] 63 (0, 0))], s29084, s29088] _ from impl_layout_spot.calls H29092 ho29087 ho29091) (Mr := ([(g29069, .cells #[.slice A29065 p29064.Points.length c29066, iV p29064.Cursor, iV p29064.Mark] 25 (0, 0))] :: Fs)) (List.Perm.refl _) (fun v29093 J29094 M29095 hq29096 hJ29097 => ?_)
  replace hle := hle.trans hJ29097
  replace ho29087 := ho29087.mono hJ29097
  replace ho29091 := ho29091.mono hJ29097
  replace hr29063 := hr29063.mono hJ29097
  replace hr29067 := hr29067.mono hJ29097
  obtain ⟨rfl, rfl⟩ := hq29096
  refine at_seg0 [5, 6, 7] [] [] [6] [(6, iV (IntKind.i64.wrap (b12.Line + 1)))] ?_
  refine at_end (at_thn (at_ret ?_))
  obtain rfl := Option.some.inj H
  refine at_drop (k := 0) rfl rfl ?_
  refine at_drop (k := 0) rfl rfl ?_
  refine at_drop (k := 0) rfl rfl ?_
  refine at_drop (k := 0) rfl rfl ?_
  exact at_done0 [iV (IntKind.i64.wrap (b12.Line + 1))] (.inl rfl) [.tmp 6] fun w hs => ⟨_, _, [], rfl, ⟨rfl, rfl⟩, hle, hs⟩
 ·
  rw [if_neg h29076] at H
  refine at_cond_t rfl (not_tt (ff_of h29076)) ?_
  refine at_seq (at_reg0 [] [6] [(6, iV 0)] ?_)
  refine at_thn (at_ret (at_then_ret ?_))
  obtain rfl := Option.some.inj H
  refine at_drop (k := 0) rfl rfl ?_
  exact at_done0 [iV 0] (.inl rfl) [.tmp 6] fun w hs => ⟨_, _, [], rfl, ⟨rfl, rfl⟩, hle, hs⟩

/-! ### slices.Equal[[]int64,int64]: function 60 -/
def slices_Equal_int64_int64_l0 : Nat → Int → (List Int) → (List Int) → Option Bool
  | 0, _, _, _ => none
  | k + 1, x36126, p36117, p36121 => if x36126 < (p36117.length : Int) then (if 0 ≤ x36126 then (if x36126 < (p36121.length : Int) then (if (rdA 0 p36117 x36126) = (rdA 0 p36121 x36126) then (slices_Equal_int64_int64_l0 k (IntKind.i64.wrap (x36126 + 1)) p36117 p36121) else (some false)) else none) else none) else (some true)
def slices_Equal_int64_int64 (k : Nat) (p36117 : List Int) (p36121 : List Int) : Option Bool := if (p36117.length : Int) = (p36121.length : Int) then (slices_Equal_int64_int64_l0 k 0 p36117 p36121) else (some false)
set_option maxHeartbeats 4000000 in
set_option maxRecDepth 100000 in
theorem slices_Equal_int64_int64.calls {k : Nat} {p36117 : List Int} {p36121 : List Int} {r : Bool} {I0 : Imm} {A36118 : Option Addr} {c36119 : Nat} {A36122 : Option Addr} {c36123 : Nat} (H : slices_Equal_int64_int64 k p36117 p36121 = some r) (hr36120 : Rd (Kd.int .i64) I0 A36118 c36119 p36117) (hr36124 : Rd (Kd.int .i64) I0 A36122 c36123 p36121) :
    Meets Try.prog 60 ([.slice A36118 p36117.length c36119, .slice A36122 p36121.length c36123] : List Value).toArray I0 [] (fun v J M => v = .bool r ∧ M = []) := by
 have hle := ImmLe.refl I0
 unfold slices_Equal_int64_int64 at H
 refine fn_intro (fn := Try.f60) 26 Try.func60 rfl rfl rfl (fun E Fs => ?_)
 refine at_seq (at_reg0 [] [0, 1] [(0, .slice A36118 p36117.length c36119), (1, .slice A36122 p36121.length c36123)] ?_)
 refine at_thn (at_seq (at_seq (at_reg0 [] [0, 1, 10] [(0, .slice A36118 p36117.length c36119), (1, .slice A36122 p36121.length c36123), (10, .bool ((p36117.length : Int) != (p36121.length : Int)))] ?_)))
 refine at_thn ?_
 by_cases h36125 : (p36117.length : Int) = (p36121.length : Int)
 ·
  rw [if_pos h36125] at H
  refine at_cond_f rfl (bne_eq_false_iff_eq.2 h36125) ?_
  refine at_skip (at_thn (at_seq (at_seq (at_reg0 [] [0, 1, 12, 13] [(0, .slice A36118 p36117.length c36119), (1, .slice A36122 p36121.length c36123), (12, iV (p36117.length : Int)), (13, iV 0)] ?_))))
  refine at_thn (at_block (at_keep [0, 1, 12, 13] (L2 := [(0, .slice A36118 p36117.length c36119), (1, .slice A36122 p36121.length c36123), (12, iV (p36117.length : Int)), (13, iV 0)]) rfl ?_))
  refine at_loop (fun k36127 L I Ms => ∃ (x36126 : Int), L = [(0, .slice A36118 p36117.length c36119), (1, .slice A36122 p36121.length c36123), (12, iV (p36117.length : Int)), (13, iV x36126)] ∧ Ms = ([] ++ Fs) ∧ slices_Equal_int64_int64_l0 k36127 x36126 p36117 p36121 = some r ∧ ImmLe I0 I ∧ k36127 ≤ k ∧ Rd (Kd.int .i64) I A36118 c36119 p36117 ∧ Rd (Kd.int .i64) I A36122 c36123 p36121) ?_ ?_ k ⟨0, rfl, rfl, H, hle, Nat.le_refl _, hr36120, hr36124⟩
  · rintro L I Ms ⟨_, rfl, rfl, H, _⟩; exact no_none H
  ·
   clear H hle hr36120 hr36124
   intro k36127 ih36128 L I Ms h_; obtain ⟨x36126, hL_, hM_, H, hle, hk36129, hr36120, hr36124⟩ := h_; rw [hL_, hM_]; clear hL_ hM_ L Ms
   rw [slices_Equal_int64_int64_l0] at H
   refine at_seq (at_reg0 [] [0, 1, 12, 13, 14] [(0, .slice A36118 p36117.length c36119), (1, .slice A36122 p36121.length c36123), (12, iV (p36117.length : Int)), (13, iV x36126), (14, .bool (decide (x36126 < (p36117.length : Int))))] ?_)
   refine at_thn (at_seq ?_)
   by_cases h36130 : x36126 < (p36117.length : Int)
   ·
    rw [if_pos h36130] at H
    refine at_cond_t rfl (decide_eq_true h36130) ?_
    refine at_skip (at_thn (at_seq (at_block (at_seq (at_reg0 [] [0, 1, 5, 12, 13] [(0, .slice A36118 p36117.length c36119), (1, .slice A36122 p36121.length c36123), (5, iV x36126), (12, iV (p36117.length : Int)), (13, iV x36126)] ?_)))))
    refine at_thn (at_seq ?_)
    obtain ⟨h36131, H⟩ := ite_some H
    obtain ⟨h36132, H⟩ := ite_some H
    refine at_regd hmo [(3, iV (rdA 0 p36117 x36126)), (7, iV (rdA 0 p36121 x36126))] [0, 1, 12, 13, 24] (by kernel_rfl) (L2 := [(0, .slice A36118 p36117.length c36119), (1, .slice A36122 p36121.length c36123), (12, iV (p36117.length : Int)), (13, iV x36126), (24, .bool ((rdA 0 p36117 x36126) != (rdA 0 p36121 x36126)))]) (obs := [fun _ => A36118.isSome = true ∧ 0 ≤ x36126 ∧ x36126 < ((p36117.length : Nat) : Int), fun w => w.cell? ((A36118.getD ad0).add (x36126.toNat * 1)) = some (iV (rdA 0 p36117 x36126)), fun _ => A36122.isSome = true ∧ 0 ≤ x36126 ∧ x36126 < ((p36121.length : Nat) : Int), fun w => w.cell? ((A36122.getD ad0).add (x36126.toNat * 1)) = some (iV (rdA 0 p36121 x36126))]) (by kernel_rfl) ?_ ?_
    · intro w hs; exact ⟨⟨hr36120.ne x36126 h36131 h36130, h36131, h36130⟩, hr36120.one 0 x36126 h36131 h36130 hs, ⟨hr36124.ne x36126 h36131 h36132, h36131, h36132⟩, hr36124.one 0 x36126 h36131 h36132 hs⟩
    refine at_thn ?_
    by_cases h36133 : (rdA 0 p36117 x36126) = (rdA 0 p36121 x36126)
    ·
     rw [if_pos h36133] at H
     refine at_cond_f rfl (bne_eq_false_iff_eq.2 h36133) ?_
     refine at_skip (at_in_norm (at_thn (at_reg0 [] [0, 1, 12, 13] [(0, .slice A36118 p36117.length c36119), (1, .slice A36122 p36121.length c36123), (12, iV (p36117.length : Int)), (13, iV (IntKind.i64.wrap (x36126 + 1)))] ?_)))
     refine at_thn (at_keep [0, 1, 12, 13] (L2 := [(0, .slice A36118 p36117.length c36119), (1, .slice A36122 p36121.length c36123), (12, iV (p36117.length : Int)), (13, iV (IntKind.i64.wrap (x36126 + 1)))]) rfl ?_)
     exact ih36128 _ (by omega) _ _ _ ⟨IntKind.i64.wrap (x36126 + 1), rfl, rfl, H, hle, by omega, hr36120, hr36124⟩
    ·
     rw [if_neg h36133] at H
     refine at_cond_t rfl (bne_iff_ne.2 h36133) ?_
     refine at_seq (at_reg0 [] [4] [(4, .bool false)] ?_)
     refine at_thn (at_ret (at_in_ret (at_then_ret (at_then_ret (at_in_ret (at_then_ret ?_))))))
     obtain rfl := Option.some.inj H
     exact at_done0 [.bool false] (.inl rfl) [.tmp 4] fun w hs => ⟨_, _, [], rfl, ⟨rfl, rfl⟩, hle, hs⟩
   ·
    rw [if_neg h36130] at H
    refine at_cond_f rfl (decide_eq_false h36130) ?_
    refine at_exit (at_then_exit (at_then_exit (at_in_hit (at_thn (at_seq (at_reg0 [] [4] [(4, .bool true)] ?_))))))
    refine at_thn (at_ret ?_)
    obtain rfl := Option.some.inj H
    exact at_done0 [.bool true] (.inl rfl) [.tmp 4] fun w hs => ⟨_, _, [], rfl, ⟨rfl, rfl⟩, hle, hs⟩
 ·
  rw [if_neg h36125] at H
  refine at_cond_t rfl (bne_iff_ne.2 h36125) ?_
  refine at_seq (at_reg0 [] [4] [(4, .bool false)] ?_)
  refine at_thn (at_ret (at_then_ret ?_))
  obtain rfl := Option.some.inj H
  exact at_done0 [.bool false] (.inl rfl) [.tmp 4] fun w hs => ⟨_, _, [], rfl, ⟨rfl, rfl⟩, hle, hs⟩

/-! ### loop.example/g00146/impl.sameCells$1: function 59 -/
def impl_sameCells_1 (k : Nat) (p36106 : T_impl_Cell) (p36110 : T_impl_Cell) : Option Bool := if p36106.Attr = p36110.Attr then ((slices_Equal_int64_int64 k p36106.Points p36110.Points).bind fun b11 => (some b11)) else (some false)
set_option maxHeartbeats 4000000 in
set_option maxRecDepth 100000 in
theorem impl_sameCells_1.calls {k : Nat} {p36106 : T_impl_Cell} {p36110 : T_impl_Cell} {r : Bool} {I0 : Imm} {A36107 : Option Addr} {c36108 : Nat} {A36111 : Option Addr} {c36112 : Nat} (H : impl_sameCells_1 k p36106 p36110 = some r) (hr36109 : Rd (Kd.int .i64) I0 A36107 c36108 p36106.Points) (hr36113 : Rd (Kd.int .i64) I0 A36111 c36112 p36110.Points) :
    Meets Try.prog 59 ([.agg #[.slice A36107 p36106.Points.length c36108, .int .i64 p36106.Attr], .agg #[.slice A36111 p36110.Points.length c36112, .int .i64 p36110.Attr]] : List Value).toArray I0 [] (fun v J M => v = .bool r ∧ M = []) := by
 have hle := ImmLe.refl I0
 unfold impl_sameCells_1 at H
 refine fn_intro (fn := Try.f59) 17 Try.func59 rfl rfl rfl (fun E Fs => ?_)
 refine at_seq (at_ops [0, 1, 2] rfl ?_)
 refine at_eff rfl rfl ?_
 refine eff_box rfl rfl rfl #[.slice A36107 p36106.Points.length c36108, iV p36106.Attr] rfl (fun g36114 => ?_)
 refine at_eff rfl rfl ?_
 refine eff_box rfl rfl rfl #[.slice A36111 p36110.Points.length c36112, iV p36110.Attr] rfl (fun g36115 => ?_)
 refine at_seg0 [2] [] [] [2, 3] [(2, .pointer (some ⟨g36114, 0, none⟩)), (3, .pointer (some ⟨g36115, 0, none⟩))] ?_
 refine at_end (at_thn (at_seq (at_ops [0, 1, 2, 3, 4, 5, 6, 7, 8, 9, 10, 11, 12] rfl ?_)))
 by_cases h36116 : p36106.Attr = p36110.Attr
 ·
  rw [if_pos h36116] at H
  refine at_seg1 [0, 1, 2, 3, 4, 5, 6, 7, 8, 9] [10, 11, 12] [(1, iV p36106.Attr), (3, iV p36110.Attr), (5, .bool true), (7, .slice A36107 p36106.Points.length c36108), (9, .slice A36111 p36110.Points.length c36112)] [10, 12, 14] [(10, .bool true), (12, .slice A36107 p36106.Points.length c36108), (14, .slice A36111 p36110.Points.length c36112)] [fun w => w.cell? ⟨g36114, 1, none⟩ = some (iV p36106.Attr), fun w => w.cell? ⟨g36115, 1, none⟩ = some (iV p36110.Attr), fun _ => (.bool (p36106.Attr == p36110.Attr) : Value) = .bool true, fun w => w.cell? ⟨g36114, 0, none⟩ = some (.slice A36107 p36106.Points.length c36108), fun w => w.cell? ⟨g36115, 0, none⟩ = some (.slice A36111 p36110.Points.length c36112)] (fun w hs => ⟨hs.var (k := 1) rfl 1 rfl, hs.var (k := 0) rfl 1 rfl, congrArg Value.bool (beq_iff_eq.2 h36116), hs.var (k := 1) rfl 0 rfl, hs.var (k := 0) rfl 0 rfl⟩) ?_
  refine at_eff rfl rfl ?_
  obtain ⟨b11, H36117, H⟩ := bind_some H
  have hm_ := slices_Equal_int64_int64.calls (I0 := I0) H36117 hr36109 hr36113
  refine eff_call rfl rfl ok60 rfl rfl (show Meets Try.prog 60 ([.slice A36107 p36106.Points.length c36108, .slice A36111 p36110.Points.length c36112] : List Value).toArray _ [] _ from hm_) (Mr := ([(g36115, .cells #[.slice A36111 p36110.Points.length c36112, iV p36110.Attr] 71 (0, 0))] :: [(g36114, .cells #[.slice A36107 p36106.Points.length c36108, iV p36106.Attr] 71 (0, 0))] :: Fs)) (List.Perm.refl _) (fun v36118 J36119 M36120 hq36121 hJ36122 => ?_)
  replace hle := hle.trans hJ36122
  replace hr36109 := hr36109.mono hJ36122
  replace hr36113 := hr36113.mono hJ36122
  obtain ⟨rfl, rfl⟩ := hq36121
  refine at_seg0 [11, 12] [] [] [4] [(4, .bool b11)] ?_
  refine at_end (at_thn (at_ret ?_))
  obtain rfl := Option.some.inj H
  refine at_drop (k := 0) rfl rfl ?_
  refine at_drop (k := 0) rfl rfl ?_
  exact at_done0 [.bool b11] (.inl rfl) [.tmp 4] fun w hs => ⟨_, _, [], rfl, ⟨rfl, rfl⟩, hle, hs⟩
 ·
  rw [if_neg h36116] at H
  refine at_seg1 [0, 1, 2, 3, 4, 5, 6, 7, 8, 9] [10, 11, 12] [(1, iV p36106.Attr), (3, iV p36110.Attr), (5, .bool false)] [10, 12, 14] [(10, .bool false), (12, undef), (14, undef)] [fun w => w.cell? ⟨g36114, 1, none⟩ = some (iV p36106.Attr), fun w => w.cell? ⟨g36115, 1, none⟩ = some (iV p36110.Attr), fun _ => (.bool (p36106.Attr == p36110.Attr) : Value) = .bool false] (fun w hs => ⟨hs.var (k := 1) rfl 1 rfl, hs.var (k := 0) rfl 1 rfl, congrArg Value.bool (beq_eq_false_iff_ne.2 h36116)⟩) ?_
  refine at_seg0 [10, 11, 12] [] [] [4] [(4, .bool false)] ?_
  refine at_end (at_thn (at_ret ?_))
  obtain rfl := Option.some.inj H
  refine at_drop (k := 0) rfl rfl ?_
  refine at_drop (k := 0) rfl rfl ?_
  exact at_done0 [.bool false] (.inl rfl) [.tmp 4] fun w hs => ⟨_, _, [], rfl, ⟨rfl, rfl⟩, hle, hs⟩

/-! ### slices.EqualFunc[[]loop.example/g00146/impl.Cell,[]loop.example/g00146/impl.Cell,loop.example/g00146/impl.Cell,loop.example/g00146/impl.Cell]: function 58 -/
def impl_Cell_58_at_59_l0 : Nat → Int → (List T_impl_Cell) → (List T_impl_Cell) → Option Bool
  | 0, _, _, _ => none
  | k + 1, x36089, p36080, p36084 => if x36089 < (p36080.length : Int) then (if 0 ≤ x36089 then (if x36089 < (p36084.length : Int) then ((impl_sameCells_1 k (rdA z_impl_Cell p36080 x36089) (rdA z_impl_Cell p36084 x36089)).bind fun b11 => (if b11 = true then (impl_Cell_58_at_59_l0 k (IntKind.i64.wrap (x36089 + 1)) p36080 p36084) else (some false))) else none) else none) else (some true)
def impl_Cell_58_at_59 (k : Nat) (p36080 : List T_impl_Cell) (p36084 : List T_impl_Cell) : Option Bool := if (p36080.length : Int) = (p36084.length : Int) then (impl_Cell_58_at_59_l0 k 0 p36080 p36084) else (some false)
set_option maxHeartbeats 4000000 in
set_option maxRecDepth 100000 in
theorem impl_Cell_58_at_59.calls {k : Nat} {p36080 : List T_impl_Cell} {p36084 : List T_impl_Cell} {r : Bool} {I0 : Imm} {A36081 : Option Addr} {c36082 : Nat} {A36085 : Option Addr} {c36086 : Nat} (H : impl_Cell_58_at_59 k p36080 p36084 = some r) (hr36083 : Rd k_impl_Cell I0 A36081 c36082 p36080) (hr36087 : Rd k_impl_Cell I0 A36085 c36086 p36084) :
    Meets Try.prog 58 ([.slice A36081 p36080.length c36082, .slice A36085 p36084.length c36086, .func (.func 59) #[] #[]] : List Value).toArray I0 [] (fun v J M => v = .bool r ∧ M = []) := by
 have hle := ImmLe.refl I0
 unfold impl_Cell_58_at_59 at H
 refine fn_intro (fn := Try.f58) 32 Try.func58 rfl rfl rfl (fun E Fs => ?_)
 refine at_seq (at_reg0 [] [0, 1, 2] [(0, .slice A36081 p36080.length c36082), (1, .slice A36085 p36084.length c36086), (2, .func (.func 59) #[] #[])] ?_)
 refine at_thn (at_seq (at_seq (at_reg0 [] [0, 1, 2, 14] [(0, .slice A36081 p36080.length c36082), (1, .slice A36085 p36084.length c36086), (2, .func (.func 59) #[] #[]), (14, .bool ((p36080.length : Int) != (p36084.length : Int)))] ?_)))
 refine at_thn ?_
 by_cases h36088 : (p36080.length : Int) = (p36084.length : Int)
 ·
  rw [if_pos h36088] at H
  refine at_cond_f rfl (bne_eq_false_iff_eq.2 h36088) ?_
  refine at_skip (at_thn (at_seq (at_seq (at_reg0 [] [1, 2, 15, 16, 17] [(1, .slice A36085 p36084.length c36086), (2, .func (.func 59) #[] #[]), (15, .slice A36081 p36080.length c36082), (16, iV (p36080.length : Int)), (17, iV 0)] ?_))))
  refine at_thn (at_block (at_keep [1, 2, 15, 16, 17] (L2 := [(1, .slice A36085 p36084.length c36086), (2, .func (.func 59) #[] #[]), (15, .slice A36081 p36080.length c36082), (16, iV (p36080.length : Int)), (17, iV 0)]) rfl ?_))
  refine at_loop (fun k36090 L I Ms => ∃ (x36089 : Int), L = [(1, .slice A36085 p36084.length c36086), (2, .func (.func 59) #[] #[]), (15, .slice A36081 p36080.length c36082), (16, iV (p36080.length : Int)), (17, iV x36089)] ∧ Ms = ([] ++ Fs) ∧ impl_Cell_58_at_59_l0 k36090 x36089 p36080 p36084 = some r ∧ ImmLe I0 I ∧ k36090 ≤ k ∧ Rd k_impl_Cell I A36081 c36082 p36080 ∧ Rd k_impl_Cell I A36085 c36086 p36084) ?_ ?_ k ⟨0, rfl, rfl, H, hle, Nat.le_refl _, hr36083, hr36087⟩
  · rintro L I Ms ⟨_, rfl, rfl, H, _⟩; exact no_none H
  ·
   clear H hle hr36083 hr36087
   intro k36090 ih36091 L I Ms h_; obtain ⟨x36089, hL_, hM_, H, hle, hk36092, hr36083, hr36087⟩ := h_; rw [hL_, hM_]; clear hL_ hM_ L Ms
   rw [impl_Cell_58_at_59_l0] at H
   refine at_seq (at_reg0 [] [1, 2, 15, 16, 17, 18] [(1, .slice A36085 p36084.length c36086), (2, .func (.func 59) #[] #[]), (15, .slice A36081 p36080.length c36082), (16, iV (p36080.length : Int)), (17, iV x36089), (18, .bool (decide (x36089 < (p36080.length : Int))))] ?_)
   refine at_thn (at_seq ?_)
   by_cases h36093 : x36089 < (p36080.length : Int)
   ·
    rw [if_pos h36093] at H
    refine at_cond_t rfl (decide_eq_true h36093) ?_
    refine at_skip (at_thn (at_seq (at_block (at_seq (at_ops [0, 1, 2, 3, 4, 5] rfl ?_)))))
    obtain ⟨h36094, H⟩ := ite_some H
    obtain ⟨cs36099, hz36100, hc36095⟩ := hr36083.elem z_impl_Cell x36089 h36094 h36093
    obtain ⟨A36096, c36097, rfl, hr36098⟩ := hz36100
    refine at_seg1 [0, 1, 2] [3, 4, 5] [(2, .agg #[.slice A36096 ((rdA z_impl_Cell p36080 x36089).Points).length c36097, iV ((rdA z_impl_Cell p36080 x36089).Attr)])] [1, 2, 15, 16, 17, 19, 21] [(1, .slice A36085 p36084.length c36086), (2, .func (.func 59) #[] #[]), (15, .slice A36081 p36080.length c36082), (16, iV (p36080.length : Int)), (17, iV x36089), (19, iV x36089), (21, .agg #[.slice A36096 ((rdA z_impl_Cell p36080 x36089).Points).length c36097, iV ((rdA z_impl_Cell p36080 x36089).Attr)])] [fun _ => A36081.isSome = true ∧ 0 ≤ x36089 ∧ x36089 < ((p36080.length : Nat) : Int), fun w => CellsAt w ((A36081.getD ad0).add (x36089.toNat * 2)) [.slice A36096 ((rdA z_impl_Cell p36080 x36089).Points).length c36097, iV ((rdA z_impl_Cell p36080 x36089).Attr)] 0] (fun w hs => ⟨⟨hr36083.ne x36089 h36094 h36093, h36094, h36093⟩, ⟨hc36095 0 _ rfl hs, hc36095 1 _ rfl hs, trivial⟩⟩) ?_
    refine at_eff rfl rfl ?_
    obtain ⟨i_, hi_, hz_, _, _⟩ := info71
    refine eff_alloc rfl rfl hi_ hz_ #[.slice none ([] : List Int).length 0, iV 0] rfl (fun g36101 => ?_)
    refine at_seg0 [4] [5] [] [1, 2, 7, 8, 15, 16, 17, 21] [(1, .slice A36085 p36084.length c36086), (2, .func (.func 59) #[] #[]), (7, iV x36089), (8, .pointer (some ⟨g36101, 0, none⟩)), (15, .slice A36081 p36080.length c36082), (16, iV (p36080.length : Int)), (17, iV x36089), (21, .agg #[.slice A36096 ((rdA z_impl_Cell p36080 x36089).Points).length c36097, iV ((rdA z_impl_Cell p36080 x36089).Attr)])] ?_
    refine at_eff rfl rfl ?_
    refine eff_store 0 rfl rfl rfl rfl rfl rfl (.inl (Nat.le_refl _)) rfl (Nat.le_of_ble_eq_true (by kernel_rfl)) rfl ?_
    refine at_sg ([(g36101, .cells #[.slice A36096 ((rdA z_impl_Cell p36080 x36089).Points).length c36097, iV ((rdA z_impl_Cell p36080 x36089).Attr)] 71 (0, 0))] :: Fs) ?_
    refine at_end (at_thn (at_seq (at_ops [0, 1, 2, 3, 4, 5] rfl ?_)))
    obtain ⟨h36102, H⟩ := ite_some H
    obtain ⟨cs36107, hz36108, hc36103⟩ := hr36087.elem z_impl_Cell x36089 h36094 h36102
    obtain ⟨A36104, c36105, rfl, hr36106⟩ := hz36108
    refine at_seg1 [0, 1, 2, 3] [4, 5] [(3, .agg #[.slice A36104 ((rdA z_impl_Cell p36084 x36089).Points).length c36105, iV ((rdA z_impl_Cell p36084 x36089).Attr)])] [1, 2, 8, 15, 16, 17, 25] [(1, .slice A36085 p36084.length c36086), (2, .func (.func 59) #[] #[]), (8, .pointer (some ⟨g36101, 0, none⟩)), (15, .slice A36081 p36080.length c36082), (16, iV (p36080.length : Int)), (17, iV x36089), (25, .agg #[.slice A36104 ((rdA z_impl_Cell p36084 x36089).Points).length c36105, iV ((rdA z_impl_Cell p36084 x36089).Attr)])] [fun _ => A36085.isSome = true ∧ 0 ≤ x36089 ∧ x36089 < ((p36084.length : Nat) : Int), fun w => CellsAt w ((A36085.getD ad0).add (x36089.toNat * 2)) [.slice A36104 ((rdA z_impl_Cell p36084 x36089).Points).length c36105, iV ((rdA z_impl_Cell p36084 x36089).Attr)] 0] (fun w hs => ⟨⟨hr36087.ne x36089 h36094 h36102, h36094, h36102⟩, ⟨hc36103 0 _ rfl hs, hc36103 1 _ rfl hs, trivial⟩⟩) ?_
    refine at_eff rfl rfl ?_
    obtain ⟨i_, hi_, hz_, _, _⟩ := info71
    refine eff_alloc rfl rfl hi_ hz_ #[.slice none ([] : List Int).length 0, iV 0] rfl (fun g36109 => ?_)
    refine at_eff rfl rfl ?_
    refine eff_store 0 rfl rfl rfl rfl rfl rfl (.inl (Nat.le_refl _)) rfl (Nat.le_of_ble_eq_true (by kernel_rfl)) rfl ?_
    refine at_sg ([(g36109, .cells #[.slice A36104 ((rdA z_impl_Cell p36084 x36089).Points).length c36105, iV ((rdA z_impl_Cell p36084 x36089).Attr)] 71 (0, 0))] :: [(g36101, .cells #[.slice A36096 ((rdA z_impl_Cell p36080 x36089).Points).length c36097, iV ((rdA z_impl_Cell p36080 x36089).Attr)] 71 (0, 0))] :: Fs) ?_
    refine at_end (at_thn (at_seq (at_ops [0, 1, 2, 3, 4] rfl ?_)))
    refine at_seg1 [0, 1, 2] [3, 4] [(1, .agg #[.slice A36096 ((rdA z_impl_Cell p36080 x36089).Points).length c36097, iV ((rdA z_impl_Cell p36080 x36089).Attr)]), (2, .agg #[.slice A36104 ((rdA z_impl_Cell p36084 x36089).Points).length c36105, iV ((rdA z_impl_Cell p36084 x36089).Attr)])] [1, 2, 15, 16, 17, 26, 27, 28] [(1, .slice A36085 p36084.length c36086), (2, .func (.func 59) #[] #[]), (15, .slice A36081 p36080.length c36082), (16, iV (p36080.length : Int)), (17, iV x36089), (26, .func (.func 59) #[] #[]), (27, .agg #[.slice A36096 ((rdA z_impl_Cell p36080 x36089).Points).length c36097, iV ((rdA z_impl_Cell p36080 x36089).Attr)]), (28, .agg #[.slice A36104 ((rdA z_impl_Cell p36084 x36089).Points).length c36105, iV ((rdA z_impl_Cell p36084 x36089).Attr)])] [fun w => CellsAt w ⟨g36101, 0, none⟩ [.slice A36096 ((rdA z_impl_Cell p36080 x36089).Points).length c36097, iV ((rdA z_impl_Cell p36080 x36089).Attr)] 0, fun w => CellsAt w ⟨g36109, 0, none⟩ [.slice A36104 ((rdA z_impl_Cell p36084 x36089).Points).length c36105, iV ((rdA z_impl_Cell p36084 x36089).Attr)] 0] (fun w hs => ⟨cellsV (k := 1) hs rfl _ 0 (Nat.le_of_ble_eq_true (by kernel_rfl)) rfl, cellsV (k := 0) hs rfl _ 0 (Nat.le_of_ble_eq_true (by kernel_rfl)) rfl⟩) ?_
    refine at_eff rfl rfl ?_
    obtain ⟨b11, H36110, H⟩ := bind_some H
    have hm_ := impl_sameCells_1.calls (I0 := I) H36110 hr36098 hr36106
    refine eff_callv (first := []) (captured := []) rfl rfl rfl ok59 rfl rfl (hm_) (Mr := ([(g36109, .cells #[.slice A36104 ((rdA z_impl_Cell p36084 x36089).Points).length c36105, iV ((rdA z_impl_Cell p36084 x36089).Attr)] 71 (0, 0))] :: [(g36101, .cells #[.slice A36096 ((rdA z_impl_Cell p36080 x36089).Points).length c36097, iV ((rdA z_impl_Cell p36080 x36089).Attr)] 71 (0, 0))] :: Fs)) (List.Perm.refl _) (fun v36111 J36112 M36113 hq36114 hJ36115 => ?_)
    replace hle := hle.trans hJ36115
    replace hr36083 := hr36083.mono hJ36115
    replace hr36087 := hr36087.mono hJ36115
    replace hr36098 := hr36098.mono hJ36115
    replace hr36106 := hr36106.mono hJ36115
    obtain ⟨rfl, rfl⟩ := hq36114
    refine at_seg0 [4] [] [] [1, 2, 15, 16, 17, 30] [(1, .slice A36085 p36084.length c36086), (2, .func (.func 59) #[] #[]), (15, .slice A36081 p36080.length c36082), (16, iV (p36080.length : Int)), (17, iV x36089), (30, .bool (!b11))] ?_
    refine at_end (at_thn ?_)
    by_cases h36116 : b11 = true
    ·
     rw [if_pos h36116] at H
     refine at_cond_f rfl (not_ff (h36116)) ?_
     refine at_skip (at_in_norm (at_thn (at_reg0 [] [1, 2, 15, 16, 17] [(1, .slice A36085 p36084.length c36086), (2, .func (.func 59) #[] #[]), (15, .slice A36081 p36080.length c36082), (16, iV (p36080.length : Int)), (17, iV (IntKind.i64.wrap (x36089 + 1)))] ?_)))
     refine at_thn (at_drop (k := 0) rfl rfl ?_)
     refine at_drop (k := 0) rfl rfl ?_
     refine at_sg (Fs) ?_
     refine at_keep [1, 2, 15, 16, 17] (L2 := [(1, .slice A36085 p36084.length c36086), (2, .func (.func 59) #[] #[]), (15, .slice A36081 p36080.length c36082), (16, iV (p36080.length : Int)), (17, iV (IntKind.i64.wrap (x36089 + 1)))]) rfl ?_
     exact ih36091 _ (by omega) _ _ _ ⟨IntKind.i64.wrap (x36089 + 1), rfl, rfl, H, hle, by omega, hr36083, hr36087⟩
    ·
     rw [if_neg h36116] at H
     refine at_cond_t rfl (not_tt (ff_of h36116)) ?_
     refine at_seq (at_reg0 [] [6] [(6, .bool false)] ?_)
     refine at_thn (at_ret (at_in_ret (at_then_ret (at_then_ret (at_in_ret (at_then_ret ?_))))))
     obtain rfl := Option.some.inj H
     refine at_drop (k := 0) rfl rfl ?_
     refine at_drop (k := 0) rfl rfl ?_
     exact at_done0 [.bool false] (.inl rfl) [.tmp 6] fun w hs => ⟨_, _, [], rfl, ⟨rfl, rfl⟩, hle, hs⟩
   ·
    rw [if_neg h36093] at H
    refine at_cond_f rfl (decide_eq_false h36093) ?_
    refine at_exit (at_then_exit (at_then_exit (at_in_hit (at_thn (at_seq (at_reg0 [] [6] [(6, .bool true)] ?_))))))
    refine at_thn (at_ret ?_)
    obtain rfl := Option.some.inj H
    exact at_done0 [.bool true] (.inl rfl) [.tmp 6] fun w hs => ⟨_, _, [], rfl, ⟨rfl, rfl⟩, hle, hs⟩
 ·
  rw [if_neg h36088] at H
  refine at_cond_t rfl (bne_iff_ne.2 h36088) ?_
  refine at_seq (at_reg0 [] [6] [(6, .bool false)] ?_)
  refine at_thn (at_ret (at_then_ret ?_))
  obtain rfl := Option.some.inj H
  exact at_done0 [.bool false] (.inl rfl) [.tmp 6] fun w hs => ⟨_, _, [], rfl, ⟨rfl, rfl⟩, hle, hs⟩

/-! ### loop.example/g00146/impl.sameCells: function 43 -/
def impl_sameCells (k : Nat) (p36072 : List T_impl_Cell) (p36076 : List T_impl_Cell) : Option Bool := (impl_Cell_58_at_59 k p36072 p36076).bind fun b11 => (some b11)
set_option maxHeartbeats 4000000 in
set_option maxRecDepth 100000 in
theorem impl_sameCells.calls {k : Nat} {p36072 : List T_impl_Cell} {p36076 : List T_impl_Cell} {r : Bool} {I0 : Imm} {A36073 : Option Addr} {c36074 : Nat} {A36077 : Option Addr} {c36078 : Nat} (H : impl_sameCells k p36072 p36076 = some r) (hr36075 : Rd k_impl_Cell I0 A36073 c36074 p36072) (hr36079 : Rd k_impl_Cell I0 A36077 c36078 p36076) :
    Meets Try.prog 43 ([.slice A36073 p36072.length c36074, .slice A36077 p36076.length c36078] : List Value).toArray I0 [] (fun v J M => v = .bool r ∧ M = []) := by
 have hle := ImmLe.refl I0
 unfold impl_sameCells at H
 refine fn_intro (fn := Try.f43) 8 Try.func43 rfl rfl rfl (fun E Fs => ?_)
 refine at_seq (at_reg0 [] [0, 1] [(0, .slice A36073 p36072.length c36074), (1, .slice A36077 p36076.length c36078)] ?_)
 refine at_thn (at_seq (at_ops [0, 1, 2, 3] rfl ?_))
 refine at_seg0 [0, 1] [2, 3] [] [5, 6] [(5, .slice A36073 p36072.length c36074), (6, .slice A36077 p36076.length c36078)] ?_
 refine at_eff rfl rfl ?_
 obtain ⟨b11, H36080, H⟩ := bind_some H
 have hm_ := impl_Cell_58_at_59.calls (I0 := I0) H36080 hr36075 hr36079
 refine eff_call rfl rfl ok58 rfl rfl (show Meets Try.prog 58 ([.slice A36073 p36072.length c36074, .slice A36077 p36076.length c36078, .func (.func 59) #[] #[]] : List Value).toArray _ [] _ from hm_) (Mr := (Fs)) (List.Perm.refl _) (fun v36081 J36082 M36083 hq36084 hJ36085 => ?_)
 replace hle := hle.trans hJ36085
 replace hr36075 := hr36075.mono hJ36085
 replace hr36079 := hr36079.mono hJ36085
 obtain ⟨rfl, rfl⟩ := hq36084
 refine at_seg0 [3] [] [] [4] [(4, .bool b11)] ?_
 refine at_end (at_thn (at_ret ?_))
 obtain rfl := Option.some.inj H
 exact at_done0 [.bool b11] (.inl rfl) [.tmp 4] fun w hs => ⟨_, _, [], rfl, ⟨rfl, rfl⟩, hle, hs⟩
end Go.Proofs.Ytnhnipdanpcbeaa
