import Derived.Test.YtnhnipdanpcbeaaV13
namespace Go.Proofs.Ytnhnipdanpcbeaa
open Go Eng
set_option linter.unusedVariables false
set_option linter.unusedSimpArgs false
/-! ### loop.example/g00146/impl.ViewSpot: function 9 -/
mutual
def impl_ViewSpot_j1 : Nat → Bool → (List Int) → T_impl_Buf → Int → Int → Option T_impl_Spot
  | 0, _, _, _, _, _ => none
  | k + 1, x18167, p18042, p18046, p18050, p18051 => if x18167 = true then (some (⟨0, 0⟩ : T_impl_Spot)) else (impl_ViewSpot_j0 k p18042 p18046 p18050 p18051)
def impl_ViewSpot_j0 : Nat → (List Int) → T_impl_Buf → Int → Int → Option T_impl_Spot
  | 0, _, _, _, _ => none
  | k + 1, p18042, p18046, p18050, p18051 => (impl_lay k p18042 p18046 false p18051).bind fun b8 => (if 0 ≤ p18050 then (if p18050 < (b8.spots.length : Int) then (some (rdA z_impl_Spot b8.spots p18050)) else none) else none)
end
def impl_ViewSpot (k : Nat) (p18042 : List Int) (p18046 : T_impl_Buf) (p18050 : Int) (p18051 : Int) : Option T_impl_Spot := (impl_isViewed k p18042 p18046 p18051).bind fun b6 => (if b6 = true then ((impl_Buf_isPlace p18046 p18050).bind fun b7 => (impl_ViewSpot_j1 k (!b7) p18042 p18046 p18050 p18051)) else (impl_ViewSpot_j1 k true p18042 p18046 p18050 p18051))
set_option maxHeartbeats 4000000 in
set_option maxRecDepth 100000 in
theorem impl_ViewSpot.calls {k : Nat} {p18042 : List Int} {p18046 : T_impl_Buf} {p18050 : Int} {p18051 : Int} {r : T_impl_Spot} {I0 : Imm} {A18043 : Option Addr} {c18044 : Nat} {A18047 : Option Addr} {c18048 : Nat} (H : impl_ViewSpot k p18042 p18046 p18050 p18051 = some r) (hr18045 : Rd (Kd.int .i64) I0 A18043 c18044 p18042) (hr18049 : Rd (Kd.int .i64) I0 A18047 c18048 p18046.Points) :
    Meets Try.prog 9 ([.slice A18043 p18042.length c18044, .agg #[.slice A18047 p18046.Points.length c18048, .int .i64 p18046.Cursor, .int .i64 p18046.Mark], .int .i64 p18050, .int .i64 p18051] : List Value).toArray I0 [] (fun v J M => v = .agg #[.int .i64 r.Line, .int .i64 r.Col] ∧ M = []) := by
 have hle := ImmLe.refl I0
 unfold impl_ViewSpot at H
 refine fn_intro (fn := Try.f9) 30 Try.func9 rfl rfl rfl (fun E Fs => ?_)
 refine at_seq (at_ops [0, 1] rfl ?_)
 refine at_eff rfl rfl ?_
 refine eff_box rfl rfl rfl #[.slice A18047 p18046.Points.length c18048, iV p18046.Cursor, iV p18046.Mark] rfl (fun g18052 => ?_)
 refine at_eff rfl rfl ?_
 obtain ⟨i_, hi_, hz_, _, _⟩ := info31
 refine eff_alloc rfl rfl hi_ hz_ #[iV 0, iV 0] rfl (fun g18053 => ?_)
 refine at_end (at_thn (at_join (fun L I Ms => ∃ (k18271 : Nat), L = [(0, .slice A18043 p18042.length c18044), (2, iV p18050), (3, iV p18051), (5, .pointer (some ⟨g18052, 0, none⟩)), (8, .pointer (some ⟨g18053, 0, none⟩))] ∧ Ms = ([(g18052, .cells #[.slice A18047 p18046.Points.length c18048, iV p18046.Cursor, iV p18046.Mark] 25 (0, 0))] :: [(g18053, .cells #[iV 0, iV 0] 31 (0, 0))] :: Fs) ∧ impl_ViewSpot_j0 k18271 p18042 p18046 p18050 p18051 = some r ∧ ImmLe I0 I ∧ k18271 ≤ k ∧ Rd (Kd.int .i64) I A18043 c18044 p18042 ∧ Rd (Kd.int .i64) I A18047 c18048 p18046.Points) ?_ ?_))
 ·
  clear H hle hr18045 hr18049
  intro L I Ms h_; obtain ⟨k18271, hL_, hM_, H, hle, hk18272, hr18045, hr18049⟩ := h_; rw [hL_, hM_]; clear hL_ hM_ L Ms
  rcases k18271 with _ | k18271
  · exact (no_none H).elim
  rw [impl_ViewSpot_j0] at H
  refine at_seq (at_ops [0, 1, 2, 3, 4, 5, 6, 7, 8, 9, 10] rfl ?_)
  refine at_seg1 [0, 1, 2] [3, 4, 5, 6, 7, 8, 9, 10] [(1, .agg #[.slice A18047 p18046.Points.length c18048, iV p18046.Cursor, iV p18046.Mark])] [2, 8, 20, 21, 22] [(2, iV p18050), (8, .pointer (some ⟨g18053, 0, none⟩)), (20, .slice A18043 p18042.length c18044), (21, .agg #[.slice A18047 p18046.Points.length c18048, iV p18046.Cursor, iV p18046.Mark]), (22, iV p18051)] [fun w => CellsAt w ⟨g18052, 0, none⟩ [.slice A18047 p18046.Points.length c18048, iV p18046.Cursor, iV p18046.Mark] 0] (fun w hs => cellsV (k := 0) hs rfl _ 0 (Nat.le_of_ble_eq_true (by kernel_rfl)) rfl) ?_
  refine at_eff rfl rfl ?_
  obtain ⟨b8, H18273, H⟩ := bind_some H
  have hm_ := impl_lay.calls (I0 := I) H18273 hr18045 hr18049
  refine eff_call rfl rfl ok22 rfl rfl (show Meets Try.prog 22 ([.slice A18043 p18042.length c18044, .agg #[.slice A18047 p18046.Points.length c18048, iV p18046.Cursor, iV p18046.Mark], .bool false, iV p18051] : List Value).toArray _ [] _ from hm_) (Mr := ([(g18052, .cells #[.slice A18047 p18046.Points.length c18048, iV p18046.Cursor, iV p18046.Mark] 25 (0, 0))] :: [(g18053, .cells #[iV 0, iV 0] 31 (0, 0))] :: Fs)) (List.Perm.refl _) (fun v18274 J18275 M18276 hq18277 hJ18278 => ?_)
  replace hle := hle.trans hJ18278
  replace hr18045 := hr18045.mono hJ18278
  replace hr18049 := hr18049.mono hJ18278
  obtain ⟨g18279, A18281, c18282, s18280, A18285, c18286, s18284, rfl, rfl, ho18283, ho18287⟩ := hq18277
  obtain ⟨h18288, H⟩ := ite_some H
  obtain ⟨h18289, H⟩ := ite_some H
  obtain ⟨cs18291, hz18292, hc18290⟩ := ho18287.elem z_impl_Spot p18050 h18288 h18289
  obtain rfl := hz18292
  refine at_seg1 [4, 5, 6, 7, 8, 9] [10] [(6, .slice A18285 b8.spots.length c18286), (9, .agg #[iV ((rdA z_impl_Spot b8.spots p18050).Line), iV ((rdA z_impl_Spot b8.spots p18050).Col)])] [8, 29] [(8, .pointer (some ⟨g18053, 0, none⟩)), (29, .agg #[iV ((rdA z_impl_Spot b8.spots p18050).Line), iV ((rdA z_impl_Spot b8.spots p18050).Col)])] [fun w => w.cell? ⟨g18279, 5, none⟩ = some (.slice A18285 b8.spots.length c18286), fun _ => A18285.isSome = true ∧ 0 ≤ p18050 ∧ p18050 < ((b8.spots.length : Nat) : Int), fun w => CellsAt w ((A18285.getD ad0).add (p18050.toNat * 2)) [iV ((rdA z_impl_Spot b8.spots p18050).Line), iV ((rdA z_impl_Spot b8.spots p18050).Col)] 0] (fun w hs => ⟨hs.var (k := 0) rfl 5 rfl, ⟨ho18287.ne p18050 h18288 h18289, h18288, h18289⟩, ⟨hc18290 0 _ rfl hs (k := 2) rfl, hc18290 1 _ rfl hs (k := 2) rfl, trivial⟩⟩) ?_
  refine at_eff rfl rfl ?_
  refine eff_store 4 rfl rfl rfl rfl rfl rfl (.inl (Nat.le_refl _)) rfl (Nat.le_of_ble_eq_true (by kernel_rfl)) rfl ?_
  refine at_sg ([(g18279, .cells #[iV b8.cols, iV b8.row, iV b8.col, .slice A18281 b8.cells.length c18282, .bool b8.inRow, .slice A18285 b8.spots.length c18286] 63 (0, 0))] :: s18280 :: s18284 :: [(g18052, .cells #[.slice A18047 p18046.Points.length c18048, iV p18046.Cursor, iV p18046.Mark] 25 (0, 0))] :: [(g18053, .cells #[iV ((rdA z_impl_Spot b8.spots p18050).Line), iV ((rdA z_impl_Spot b8.spots p18050).Col)] 31 (0, 0))] :: Fs) ?_
  refine at_end (at_thn (at_ret ?_))
  obtain rfl := Option.some.inj H
  refine at_drop (k := 0) rfl rfl ?_
  refine at_drop (k := 0) rfl rfl ?_
  refine at_drop (k := 0) rfl rfl ?_
  refine at_drop (k := 0) rfl rfl ?_
  refine at_done (vs := [.agg #[iV ((rdA z_impl_Spot b8.spots p18050).Line), iV ((rdA z_impl_Spot b8.spots p18050).Col)]]) (obs := [fun w => CellsAt w ⟨g18053, 0, none⟩ [iV ((rdA z_impl_Spot b8.spots p18050).Line), iV ((rdA z_impl_Spot b8.spots p18050).Col)] 0]) (.inl rfl) [.cell 8 31] [(8, .agg #[iV ((rdA z_impl_Spot b8.spots p18050).Line), iV ((rdA z_impl_Spot b8.spots p18050).Col)])] rfl (by kernel_rfl) (fun w hs => cellsV (k := 0) hs rfl _ 0 (Nat.le_of_ble_eq_true (by kernel_rfl)) rfl) (fun w hs => ⟨_, _, [], rfl, ⟨rfl, rfl⟩, hle, (hs.tail (perm_at (k := 0) rfl))⟩)
 ·
  intro Jn18054
  refine at_join (fun L I Ms => ∃ (k18168 : Nat), ∃ (x18167 : Bool), L = [(0, .slice A18043 p18042.length c18044), (2, iV p18050), (3, iV p18051), (5, .pointer (some ⟨g18052, 0, none⟩)), (8, .pointer (some ⟨g18053, 0, none⟩)), (18, .bool x18167)] ∧ Ms = ([(g18052, .cells #[.slice A18047 p18046.Points.length c18048, iV p18046.Cursor, iV p18046.Mark] 25 (0, 0))] :: [(g18053, .cells #[iV 0, iV 0] 31 (0, 0))] :: Fs) ∧ impl_ViewSpot_j1 k18168 x18167 p18042 p18046 p18050 p18051 = some r ∧ ImmLe I0 I ∧ k18168 ≤ k ∧ Rd (Kd.int .i64) I A18043 c18044 p18042 ∧ Rd (Kd.int .i64) I A18047 c18048 p18046.Points) ?_ ?_
  ·
   clear H hle hr18045 hr18049
   intro L I Ms h_; obtain ⟨k18168, x18167, hL_, hM_, H, hle, hk18169, hr18045, hr18049⟩ := h_; rw [hL_, hM_]; clear hL_ hM_ L Ms
   rcases k18168 with _ | k18168
   · exact (no_none H).elim
   rw [impl_ViewSpot_j1] at H
   by_cases h18170 : x18167 = true
   ·
    rw [if_pos h18170] at H
    refine at_cond_t rfl (h18170) ?_
    refine at_seq (at_ops [0, 1] rfl ?_)
    refine at_seg0 [0] [1] [] [8, 19] [(8, .pointer (some ⟨g18053, 0, none⟩)), (19, .agg #[iV 0, iV 0])] ?_
    refine at_eff rfl rfl ?_
    refine eff_store 1 rfl rfl rfl rfl rfl rfl (.inl (Nat.le_refl _)) rfl (Nat.le_of_ble_eq_true (by kernel_rfl)) rfl ?_
    refine at_sg ([(g18052, .cells #[.slice A18047 p18046.Points.length c18048, iV p18046.Cursor, iV p18046.Mark] 25 (0, 0))] :: [(g18053, .cells #[iV 0, iV 0] 31 (0, 0))] :: Fs) ?_
    refine at_end (at_thn (at_ret (at_then_ret ?_)))
    obtain rfl := Option.some.inj H
    refine at_drop (k := 0) rfl rfl ?_
    refine at_done (vs := [.agg #[iV 0, iV 0]]) (obs := [fun w => CellsAt w ⟨g18053, 0, none⟩ [iV 0, iV 0] 0]) (.inl rfl) [.cell 8 31] [(8, .agg #[iV 0, iV 0])] rfl (by kernel_rfl) (fun w hs => cellsV (k := 0) hs rfl _ 0 (Nat.le_of_ble_eq_true (by kernel_rfl)) rfl) (fun w hs => ⟨_, _, [], rfl, ⟨rfl, rfl⟩, hle, (hs.tail (perm_at (k := 0) rfl))⟩)
   ·
    rw [if_neg h18170] at H
    refine at_cond_f rfl (ff_of h18170) ?_
    refine at_skip (at_thn (at_keep [0, 2, 3, 5, 8] (L2 := [(0, .slice A18043 p18042.length c18044), (2, iV p18050), (3, iV p18051), (5, .pointer (some ⟨g18052, 0, none⟩)), (8, .pointer (some ⟨g18053, 0, none⟩))]) rfl ?_))
    exact Jn18054 _ _ _ ⟨_, rfl, rfl, H, hle, by omega, hr18045, hr18049⟩
  ·
   intro Jn18054
   refine at_ops [0, 1, 2, 3, 4, 5, 6, 7, 8, 9] rfl ?_
   refine at_seg1 [0, 1, 2] [3, 4, 5, 6, 7, 8, 9] [(1, .agg #[.slice A18047 p18046.Points.length c18048, iV p18046.Cursor, iV p18046.Mark])] [0, 2, 3, 5, 8, 9, 10, 11] [(0, .slice A18043 p18042.length c18044), (2, iV p18050), (3, iV p18051), (5, .pointer (some ⟨g18052, 0, none⟩)), (8, .pointer (some ⟨g18053, 0, none⟩)), (9, .slice A18043 p18042.length c18044), (10, .agg #[.slice A18047 p18046.Points.length c18048, iV p18046.Cursor, iV p18046.Mark]), (11, iV p18051)] [fun w => CellsAt w ⟨g18052, 0, none⟩ [.slice A18047 p18046.Points.length c18048, iV p18046.Cursor, iV p18046.Mark] 0] (fun w hs => cellsV (k := 1) hs rfl _ 0 (Nat.le_of_ble_eq_true (by kernel_rfl)) rfl) ?_
   refine at_eff rfl rfl ?_
   obtain ⟨b6, H18054, H⟩ := bind_some H
   have hm_ := impl_isViewed.calls (I0 := I0) H18054 hr18045 hr18049
   refine eff_call rfl rfl ok21 rfl rfl (show Meets Try.prog 21 ([.slice A18043 p18042.length c18044, .agg #[.slice A18047 p18046.Points.length c18048, iV p18046.Cursor, iV p18046.Mark], iV p18051] : List Value).toArray _ [] _ from hm_) (Mr := ([(g18053, .cells #[iV 0, iV 0] 31 (0, 0))] :: [(g18052, .cells #[.slice A18047 p18046.Points.length c18048, iV p18046.Cursor, iV p18046.Mark] 25 (0, 0))] :: Fs)) (List.Perm.refl _) (fun v18055 J18056 M18057 hq18058 hJ18059 => ?_)
   replace hle := hle.trans hJ18059
   replace hr18045 := hr18045.mono hJ18059
   replace hr18049 := hr18049.mono hJ18059
   obtain ⟨rfl, rfl⟩ := hq18058
   by_cases h18060 : b6 = true
   ·
    rw [if_pos h18060] at H
    refine at_seg1 [4, 5, 6] [7, 8, 9] [(5, .bool false)] [0, 2, 3, 5, 8, 14, 15] [(0, .slice A18043 p18042.length c18044), (2, iV p18050), (3, iV p18051), (5, .pointer (some ⟨g18052, 0, none⟩)), (8, .pointer (some ⟨g18053, 0, none⟩)), (14, .bool false), (15, iV p18050)] [fun _ => (.bool (!b6) : Value) = .bool false] (fun w hs => congrArg Value.bool (not_ff (h18060))) ?_
    refine at_eff rfl rfl ?_
    obtain ⟨b7, H18061, H⟩ := bind_some H
    refine eff_call rfl rfl ok28 rfl rfl (show Meets Try.prog 28 ([.pointer (some ⟨g18052, 0, none⟩), iV p18050] : List Value).toArray _ [[(g18052, .cells #[.slice A18047 p18046.Points.length c18048, iV p18046.Cursor, iV p18046.Mark] 25 (0, 0))]] _ from impl_Buf_isPlace.calls H18061 hr18049) (Mr := ([(g18053, .cells #[iV 0, iV 0] 31 (0, 0))] :: Fs)) ((perm_at (k := 1) rfl).trans ((List.Perm.refl _).cons _)) (fun v18062 J18063 M18064 hq18065 hJ18066 => ?_)
    replace hle := hle.trans hJ18066
    replace hr18045 := hr18045.mono hJ18066
    replace hr18049 := hr18049.mono hJ18066
    obtain ⟨rfl, rfl⟩ := hq18065
    refine at_seg0 [8, 9] [] [] [0, 2, 3, 5, 8, 18] [(0, .slice A18043 p18042.length c18044), (2, iV p18050), (3, iV p18051), (5, .pointer (some ⟨g18052, 0, none⟩)), (8, .pointer (some ⟨g18053, 0, none⟩)), (18, .bool (!b7))] ?_
    refine at_end (at_thn (at_keep [0, 2, 3, 5, 8, 18] (L2 := [(0, .slice A18043 p18042.length c18044), (2, iV p18050), (3, iV p18051), (5, .pointer (some ⟨g18052, 0, none⟩)), (8, .pointer (some ⟨g18053, 0, none⟩)), (18, .bool (!b7))]) rfl ?_))
    exact Jn18054 _ _ _ ⟨_, (!b7), rfl, rfl, H, hle, by omega, hr18045, hr18049⟩
   ·
    rw [if_neg h18060] at H
    refine at_seg1 [4, 5, 6] [7, 8, 9] [(5, .bool true)] [0, 2, 3, 5, 8, 14, 15] [(0, .slice A18043 p18042.length c18044), (2, iV p18050), (3, iV p18051), (5, .pointer (some ⟨g18052, 0, none⟩)), (8, .pointer (some ⟨g18053, 0, none⟩)), (14, .bool true), (15, undef)] [fun _ => (.bool (!b6) : Value) = .bool true] (fun w hs => congrArg Value.bool (not_tt (ff_of h18060))) ?_
    refine at_seg0 [7, 8, 9] [] [] [0, 2, 3, 5, 8, 18] [(0, .slice A18043 p18042.length c18044), (2, iV p18050), (3, iV p18051), (5, .pointer (some ⟨g18052, 0, none⟩)), (8, .pointer (some ⟨g18053, 0, none⟩)), (18, .bool true)] ?_
    refine at_end (at_thn (at_perm ((perm_at (k := 1) rfl).trans ((List.Perm.refl _).cons _)) ?_))
    refine at_keep [0, 2, 3, 5, 8, 18] (L2 := [(0, .slice A18043 p18042.length c18044), (2, iV p18050), (3, iV p18051), (5, .pointer (some ⟨g18052, 0, none⟩)), (8, .pointer (some ⟨g18053, 0, none⟩)), (18, .bool true)]) rfl ?_
    exact Jn18054 _ _ _ ⟨_, true, rfl, rfl, H, hle, by omega, hr18045, hr18049⟩

/-! ### loop.example/g00146/impl.size[loop.example/g00146/impl.Cell]: function 39 -/
def impl_Cell (p36047 : List T_impl_Cell) : Option Int := some (p36047.length : Int)
set_option maxHeartbeats 4000000 in
set_option maxRecDepth 100000 in
theorem impl_Cell.calls {p36047 : List T_impl_Cell} {r : Int} {I0 : Imm} {A36048 : Option Addr} {c36049 : Nat} (H : impl_Cell p36047 = some r) (hr36050 : Rd k_impl_Cell I0 A36048 c36049 p36047) :
    Meets Try.prog 39 ([.slice A36048 p36047.length c36049] : List Value).toArray I0 [] (fun v J M => v = .int .i64 r ∧ M = []) := by
 have hle := ImmLe.refl I0
 unfold impl_Cell at H
 refine fn_intro (fn := Try.f39) 5 Try.func39 rfl rfl rfl (fun E Fs => ?_)
 refine at_seq (at_reg0 [] [0] [(0, .slice A36048 p36047.length c36049)] ?_)
 refine at_thn (at_seq (at_reg0 [] [2] [(2, iV (p36047.length : Int))] ?_))
 refine at_thn (at_ret ?_)
 obtain rfl := Option.some.inj H
 exact at_done0 [iV (p36047.length : Int)] (.inl rfl) [.tmp 2] fun w hs => ⟨_, _, [], rfl, ⟨rfl, rfl⟩, hle, hs⟩

/-! ### loop.example/g00146/impl.cellRight: function 40 -/
def impl_cellRight_l0 : Nat → Int → T_impl_Cell → Option Bool
  | 0, _, _ => none
  | k + 1, x81061, p81056 => if x81061 < (p81056.Points.length : Int) then (if 0 ≤ x81061 then ((impl_isPoint (rdA 0 p81056.Points x81061)).bind fun b14 => (if b14 = true then ((impl_isControl (rdA 0 p81056.Points x81061)).bind fun b15 => (if b15 = true then (some false) else ((impl_WidthOf k (rdA 0 p81056.Points x81061)).bind fun b16 => (if ((x81061 == 0) == (decide (b16 > 0))) = true then (impl_cellRight_l0 k (IntKind.i64.wrap (x81061 + 1)) p81056) else (some false))))) else (some false))) else none) else (if (p81056.Points.length : Int) ≤ 4 then ((impl_within p81056.Attr 0 3).bind fun b17 => (some b17)) else (some false))
def impl_cellRight (k : Nat) (p81056 : T_impl_Cell) : Option Bool := impl_cellRight_l0 k 0 p81056
set_option maxHeartbeats 4000000 in
set_option maxRecDepth 100000 in
theorem impl_cellRight.calls {k : Nat} {p81056 : T_impl_Cell} {r : Bool} {I0 : Imm} {A81057 : Option Addr} {c81058 : Nat} (H : impl_cellRight k p81056 = some r) (hr81059 : Rd (Kd.int .i64) I0 A81057 c81058 p81056.Points) :
    Meets Try.prog 40 ([.agg #[.slice A81057 p81056.Points.length c81058, .int .i64 p81056.Attr]] : List Value).toArray I0 [] (fun v J M => v = .bool r ∧ M = []) := by
 have hle := ImmLe.refl I0
 unfold impl_cellRight at H
 refine fn_intro (fn := Try.f40) 38 Try.func40 rfl rfl rfl (fun E Fs => ?_)
 refine at_seq (at_ops [0, 1] rfl ?_)
 refine at_eff rfl rfl ?_
 refine eff_box rfl rfl rfl #[.slice A81057 p81056.Points.length c81058, iV p81056.Attr] rfl (fun g81060 => ?_)
 refine at_seg0 [1] [] [] [1] [(1, .pointer (some ⟨g81060, 0, none⟩))] ?_
 refine at_end (at_thn (at_seq (at_seq (at_reg1 [(1, .slice A81057 p81056.Points.length c81058)] [1, 6, 7, 8] [(1, .pointer (some ⟨g81060, 0, none⟩)), (6, .slice A81057 p81056.Points.length c81058), (7, iV (p81056.Points.length : Int)), (8, iV 0)] [fun w => w.cell? ⟨g81060, 0, none⟩ = some (.slice A81057 p81056.Points.length c81058)] (fun w hs => hs.var (k := 0) rfl 0 rfl) ?_))))
 refine at_thn (at_block (at_keep [1, 6, 7, 8] (L2 := [(1, .pointer (some ⟨g81060, 0, none⟩)), (6, .slice A81057 p81056.Points.length c81058), (7, iV (p81056.Points.length : Int)), (8, iV 0)]) rfl ?_))
 refine at_loop (fun k81062 L I Ms => ∃ (x81061 : Int), L = [(1, .pointer (some ⟨g81060, 0, none⟩)), (6, .slice A81057 p81056.Points.length c81058), (7, iV (p81056.Points.length : Int)), (8, iV x81061)] ∧ Ms = ([(g81060, .cells #[.slice A81057 p81056.Points.length c81058, iV p81056.Attr] 71 (0, 0))] :: Fs) ∧ impl_cellRight_l0 k81062 x81061 p81056 = some r ∧ ImmLe I0 I ∧ k81062 ≤ k ∧ Rd (Kd.int .i64) I A81057 c81058 p81056.Points) ?_ ?_ k ⟨0, rfl, rfl, H, hle, Nat.le_refl _, hr81059⟩
 · rintro L I Ms ⟨_, rfl, rfl, H, _⟩; exact no_none H
 ·
  clear H hle hr81059
  intro k81062 ih81063 L I Ms h_; obtain ⟨x81061, hL_, hM_, H, hle, hk81064, hr81059⟩ := h_; rw [hL_, hM_]; clear hL_ hM_ L Ms
  rw [impl_cellRight_l0] at H
  refine at_seq (at_reg0 [] [1, 6, 7, 8, 9] [(1, .pointer (some ⟨g81060, 0, none⟩)), (6, .slice A81057 p81056.Points.length c81058), (7, iV (p81056.Points.length : Int)), (8, iV x81061), (9, .bool (decide (x81061 < (p81056.Points.length : Int))))] ?_)
  refine at_thn (at_seq ?_)
  by_cases h81065 : x81061 < (p81056.Points.length : Int)
  ·
   rw [if_pos h81065] at H
   refine at_cond_t rfl (decide_eq_true h81065) ?_
   refine at_skip (at_thn (at_seq (at_block (at_seq ?_))))
   obtain ⟨h81066, H⟩ := ite_some H
   refine at_reg1 [(2, iV (rdA 0 p81056.Points x81061))] [1, 3, 4, 6, 7, 8] [(1, .pointer (some ⟨g81060, 0, none⟩)), (3, iV x81061), (4, iV (rdA 0 p81056.Points x81061)), (6, .slice A81057 p81056.Points.length c81058), (7, iV (p81056.Points.length : Int)), (8, iV x81061)] [fun _ => A81057.isSome = true ∧ 0 ≤ x81061 ∧ x81061 < ((p81056.Points.length : Nat) : Int), fun w => w.cell? ((A81057.getD ad0).add (x81061.toNat * 1)) = some (iV (rdA 0 p81056.Points x81061))] (fun w hs => ⟨⟨hr81059.ne x81061 h81066 h81065, h81066, h81065⟩, hr81059.one 0 x81061 h81066 h81065 hs⟩) ?_
   refine at_thn (at_seq (at_ops [0, 1, 2, 3, 4, 5, 6, 7, 8, 9, 10, 11, 12, 13, 14] rfl ?_))
   refine at_seg0 [0] [1, 2, 3, 4, 5, 6, 7, 8, 9, 10, 11, 12, 13, 14] [] [1, 3, 4, 6, 7, 8, 13] [(1, .pointer (some ⟨g81060, 0, none⟩)), (3, iV x81061), (4, iV (rdA 0 p81056.Points x81061)), (6, .slice A81057 p81056.Points.length c81058), (7, iV (p81056.Points.length : Int)), (8, iV x81061), (13, iV (rdA 0 p81056.Points x81061))] ?_
   refine at_eff rfl rfl ?_
   obtain ⟨b14, H81067, H⟩ := bind_some H
   have hm_ := impl_isPoint.calls (I0 := I) H81067
   refine eff_call rfl rfl ok56 rfl rfl (show Meets Try.prog 56 ([iV (rdA 0 p81056.Points x81061)] : List Value).toArray _ [] _ from hm_) (Mr := ([(g81060, .cells #[.slice A81057 p81056.Points.length c81058, iV p81056.Attr] 71 (0, 0))] :: Fs)) (List.Perm.refl _) (fun v81068 J81069 M81070 hq81071 hJ81072 => ?_)
   replace hle := hle.trans hJ81072
   replace hr81059 := hr81059.mono hJ81072
   obtain ⟨rfl, rfl⟩ := hq81071
   by_cases h81073 : b14 = true
   ·
    rw [if_pos h81073] at H
    refine at_seg1 [2, 3, 4] [5, 6, 7, 8, 9, 10, 11, 12, 13, 14] [(3, .bool false)] [1, 3, 4, 6, 7, 8, 16, 17] [(1, .pointer (some ⟨g81060, 0, none⟩)), (3, iV x81061), (4, iV (rdA 0 p81056.Points x81061)), (6, .slice A81057 p81056.Points.length c81058), (7, iV (p81056.Points.length : Int)), (8, iV x81061), (16, .bool false), (17, iV (rdA 0 p81056.Points x81061))] [fun _ => (.bool (!b14) : Value) = .bool false] (fun w hs => congrArg Value.bool (not_ff (h81073))) ?_
    refine at_eff rfl rfl ?_
    obtain ⟨b15, H81074, H⟩ := bind_some H
    have hm_ := impl_isControl.calls (I0 := J81069) H81074
    refine eff_call rfl rfl ok57 rfl rfl (show Meets Try.prog 57 ([iV (rdA 0 p81056.Points x81061)] : List Value).toArray _ [] _ from hm_) (Mr := ([(g81060, .cells #[.slice A81057 p81056.Points.length c81058, iV p81056.Attr] 71 (0, 0))] :: Fs)) (List.Perm.refl _) (fun v81075 J81076 M81077 hq81078 hJ81079 => ?_)
    replace hle := hle.trans hJ81079
    replace hr81059 := hr81059.mono hJ81079
    obtain ⟨rfl, rfl⟩ := hq81078
    by_cases h81080 : b15 = true
    ·
     rw [if_pos h81080] at H
     refine at_seg1 [6, 7, 8, 9, 10] [11, 12, 13, 14] [(7, .bool true)] [1, 6, 7, 8, 20, 22, 23] [(1, .pointer (some ⟨g81060, 0, none⟩)), (6, .slice A81057 p81056.Points.length c81058), (7, iV (p81056.Points.length : Int)), (8, iV x81061), (20, .bool true), (22, undef), (23, undef)] [fun _ => (.bool b15 : Value) = .bool true] (fun w hs => congrArg Value.bool (h81080)) ?_
     refine at_seg0 [11, 12] [13, 14] [] [1, 6, 7, 8, 20, 22, 25] [(1, .pointer (some ⟨g81060, 0, none⟩)), (6, .slice A81057 p81056.Points.length c81058), (7, iV (p81056.Points.length : Int)), (8, iV x81061), (20, .bool true), (22, undef), (25, undef)] ?_
     refine at_seg0 [13, 14] [] [] [1, 6, 7, 8, 27] [(1, .pointer (some ⟨g81060, 0, none⟩)), (6, .slice A81057 p81056.Points.length c81058), (7, iV (p81056.Points.length : Int)), (8, iV x81061), (27, .bool true)] ?_
     refine at_end (at_thn (at_cond_t rfl (rfl) ?_))
     refine at_seq (at_reg0 [] [2] [(2, .bool false)] ?_)
     refine at_thn (at_ret (at_in_ret (at_then_ret (at_then_ret (at_in_ret (at_then_ret ?_))))))
     obtain rfl := Option.some.inj H
     refine at_drop (k := 0) rfl rfl ?_
     exact at_done0 [.bool false] (.inl rfl) [.tmp 2] fun w hs => ⟨_, _, [], rfl, ⟨rfl, rfl⟩, hle, hs⟩
    ·
     rw [if_neg h81080] at H
     refine at_seg1 [6, 7, 8, 9, 10] [11, 12, 13, 14] [(7, .bool false)] [1, 6, 7, 8, 20, 22, 23] [(1, .pointer (some ⟨g81060, 0, none⟩)), (6, .slice A81057 p81056.Points.length c81058), (7, iV (p81056.Points.length : Int)), (8, iV x81061), (20, .bool false), (22, .bool (x81061 == 0)), (23, iV (rdA 0 p81056.Points x81061))] [fun _ => (.bool b15 : Value) = .bool false] (fun w hs => congrArg Value.bool (ff_of h81080)) ?_
     refine at_eff rfl rfl ?_
     obtain ⟨b16, H81081, H⟩ := bind_some H
     have hm_ := impl_WidthOf.calls (I0 := J81076) H81081
     refine eff_call rfl rfl ok55 rfl rfl (show Meets Try.prog 55 ([iV (rdA 0 p81056.Points x81061)] : List Value).toArray _ [] _ from hm_) (Mr := ([(g81060, .cells #[.slice A81057 p81056.Points.length c81058, iV p81056.Attr] 71 (0, 0))] :: Fs)) (List.Perm.refl _) (fun v81082 J81083 M81084 hq81085 hJ81086 => ?_)
     replace hle := hle.trans hJ81086
     replace hr81059 := hr81059.mono hJ81086
     obtain ⟨rfl, rfl⟩ := hq81085
     refine at_seg0 [12] [13, 14] [] [1, 6, 7, 8, 20, 22, 25] [(1, .pointer (some ⟨g81060, 0, none⟩)), (6, .slice A81057 p81056.Points.length c81058), (7, iV (p81056.Points.length : Int)), (8, iV x81061), (20, .bool false), (22, .bool (x81061 == 0)), (25, .bool (decide (b16 > 0)))] ?_
     refine at_eff rfl rfl ?_
     refine eff_neBool rfl rfl und4 rfl rfl ?_
     refine at_seg0 [14] [] [] [1, 6, 7, 8, 27] [(1, .pointer (some ⟨g81060, 0, none⟩)), (6, .slice A81057 p81056.Points.length c81058), (7, iV (p81056.Points.length : Int)), (8, iV x81061), (27, .bool (!((x81061 == 0) == (decide (b16 > 0)))))] ?_
     refine at_end (at_thn ?_)
     by_cases h81087 : ((x81061 == 0) == (decide (b16 > 0))) = true
     ·
      rw [if_pos h81087] at H
      refine at_cond_f rfl (not_ff (h81087)) ?_
      refine at_skip (at_in_norm (at_thn (at_reg0 [] [1, 6, 7, 8] [(1, .pointer (some ⟨g81060, 0, none⟩)), (6, .slice A81057 p81056.Points.length c81058), (7, iV (p81056.Points.length : Int)), (8, iV (IntKind.i64.wrap (x81061 + 1)))] ?_)))
      refine at_thn (at_keep [1, 6, 7, 8] (L2 := [(1, .pointer (some ⟨g81060, 0, none⟩)), (6, .slice A81057 p81056.Points.length c81058), (7, iV (p81056.Points.length : Int)), (8, iV (IntKind.i64.wrap (x81061 + 1)))]) rfl ?_)
      exact ih81063 _ (by omega) _ _ _ ⟨IntKind.i64.wrap (x81061 + 1), rfl, rfl, H, hle, by omega, hr81059⟩
     ·
      rw [if_neg h81087] at H
      refine at_cond_t rfl (not_tt (ff_of h81087)) ?_
      refine at_seq (at_reg0 [] [2] [(2, .bool false)] ?_)
      refine at_thn (at_ret (at_in_ret (at_then_ret (at_then_ret (at_in_ret (at_then_ret ?_))))))
      obtain rfl := Option.some.inj H
      refine at_drop (k := 0) rfl rfl ?_
      exact at_done0 [.bool false] (.inl rfl) [.tmp 2] fun w hs => ⟨_, _, [], rfl, ⟨rfl, rfl⟩, hle, hs⟩
   ·
    rw [if_neg h81073] at H
    refine at_seg1 [2, 3, 4] [5, 6, 7, 8, 9, 10, 11, 12, 13, 14] [(3, .bool true)] [1, 3, 4, 6, 7, 8, 16, 17] [(1, .pointer (some ⟨g81060, 0, none⟩)), (3, iV x81061), (4, iV (rdA 0 p81056.Points x81061)), (6, .slice A81057 p81056.Points.length c81058), (7, iV (p81056.Points.length : Int)), (8, iV x81061), (16, .bool true), (17, undef)] [fun _ => (.bool (!b14) : Value) = .bool true] (fun w hs => congrArg Value.bool (not_tt (ff_of h81073))) ?_
    refine at_seg0 [5, 6, 7, 8, 9, 10] [11, 12, 13, 14] [] [1, 6, 7, 8, 20, 22, 23] [(1, .pointer (some ⟨g81060, 0, none⟩)), (6, .slice A81057 p81056.Points.length c81058), (7, iV (p81056.Points.length : Int)), (8, iV x81061), (20, .bool true), (22, undef), (23, undef)] ?_
    refine at_seg0 [11, 12] [13, 14] [] [1, 6, 7, 8, 20, 22, 25] [(1, .pointer (some ⟨g81060, 0, none⟩)), (6, .slice A81057 p81056.Points.length c81058), (7, iV (p81056.Points.length : Int)), (8, iV x81061), (20, .bool true), (22, undef), (25, undef)] ?_
    refine at_seg0 [13, 14] [] [] [1, 6, 7, 8, 27] [(1, .pointer (some ⟨g81060, 0, none⟩)), (6, .slice A81057 p81056.Points.length c81058), (7, iV (p81056.Points.length : Int)), (8, iV x81061), (27, .bool true)] ?_
    refine at_end (at_thn (at_cond_t rfl (rfl) ?_))
    refine at_seq (at_reg0 [] [2] [(2, .bool false)] ?_)
    refine at_thn (at_ret (at_in_ret (at_then_ret (at_then_ret (at_in_ret (at_then_ret ?_))))))
    obtain rfl := Option.some.inj H
    refine at_drop (k := 0) rfl rfl ?_
    exact at_done0 [.bool false] (.inl rfl) [.tmp 2] fun w hs => ⟨_, _, [], rfl, ⟨rfl, rfl⟩, hle, hs⟩
  ·
   rw [if_neg h81065] at H
   refine at_cond_f rfl (decide_eq_false h81065) ?_
   refine at_exit (at_then_exit (at_then_exit (at_in_hit (at_thn (at_seq (at_ops [0, 1, 2, 3, 4, 5, 6, 7, 8, 9] rfl ?_))))))
   by_cases h81088 : (p81056.Points.length : Int) ≤ 4
   ·
    rw [if_pos h81088] at H
    refine at_seg1 [0, 1, 2, 3, 4, 5, 6] [7, 8, 9] [(1, .slice A81057 p81056.Points.length c81058), (4, .bool true), (6, iV p81056.Attr)] [33, 35] [(33, .bool true), (35, iV p81056.Attr)] [fun w => w.cell? ⟨g81060, 0, none⟩ = some (.slice A81057 p81056.Points.length c81058), oT ((p81056.Points.length : Int) ≤ 4), fun w => w.cell? ⟨g81060, 1, none⟩ = some (iV p81056.Attr)] (fun w hs => ⟨hs.var (k := 0) rfl 0 rfl, cT (h81088), hs.var (k := 0) rfl 1 rfl⟩) ?_
    refine at_eff rfl rfl ?_
    obtain ⟨b17, H81089, H⟩ := bind_some H
    have hm_ := impl_within.calls (I0 := I) H81089
    refine eff_call rfl rfl ok36 rfl rfl (show Meets Try.prog 36 ([iV p81056.Attr, iV 0, iV 3] : List Value).toArray _ [] _ from hm_) (Mr := ([(g81060, .cells #[.slice A81057 p81056.Points.length c81058, iV p81056.Attr] 71 (0, 0))] :: Fs)) (List.Perm.refl _) (fun v81090 J81091 M81092 hq81093 hJ81094 => ?_)
    replace hle := hle.trans hJ81094
    replace hr81059 := hr81059.mono hJ81094
    obtain ⟨rfl, rfl⟩ := hq81093
    refine at_seg0 [8, 9] [] [] [2] [(2, .bool b17)] ?_
    refine at_end (at_thn (at_ret ?_))
    obtain rfl := Option.some.inj H
    refine at_drop (k := 0) rfl rfl ?_
    exact at_done0 [.bool b17] (.inl rfl) [.tmp 2] fun w hs => ⟨_, _, [], rfl, ⟨rfl, rfl⟩, hle, hs⟩
   ·
    rw [if_neg h81088] at H
    refine at_seg1 [0, 1, 2, 3, 4, 5, 6] [7, 8, 9] [(1, .slice A81057 p81056.Points.length c81058), (4, .bool false)] [33, 35] [(33, .bool false), (35, undef)] [fun w => w.cell? ⟨g81060, 0, none⟩ = some (.slice A81057 p81056.Points.length c81058), oF ((p81056.Points.length : Int) ≤ 4)] (fun w hs => ⟨hs.var (k := 0) rfl 0 rfl, cF (h81088)⟩) ?_
    refine at_seg0 [7, 8, 9] [] [] [2] [(2, .bool false)] ?_
    refine at_end (at_thn (at_ret ?_))
    obtain rfl := Option.some.inj H
    refine at_drop (k := 0) rfl rfl ?_
    exact at_done0 [.bool false] (.inl rfl) [.tmp 2] fun w hs => ⟨_, _, [], rfl, ⟨rfl, rfl⟩, hle, hs⟩

/-! ### (*loop.example/g00146/impl.Cell).isWide: function 37 -/
def impl_Cell_isWide' (k : Nat) (p81064 : T_impl_Cell) : Option Bool := if (p81064.Points.length : Int) > 0 then (if 0 < (p81064.Points.length : Int) then ((impl_WidthOf k (rdA 0 p81064.Points 0)).bind fun b15 => (some (b15 == 2))) else none) else (some false)
set_option maxHeartbeats 4000000 in
set_option maxRecDepth 100000 in
theorem impl_Cell_isWide'.calls {k : Nat} {p81064 : T_impl_Cell} {r : Bool} {I0 : Imm} {g81063 : Nat} {A81065 : Option Addr} {c81066 : Nat} (H : impl_Cell_isWide' k p81064 = some r) (hr81067 : Rd (Kd.int .i64) I0 A81065 c81066 p81064.Points) :
    Meets Try.prog 37 ([.pointer (some ⟨g81063, 0, none⟩)] : List Value).toArray I0 [[(g81063, .cells #[.slice A81065 p81064.Points.length c81066, .int .i64 p81064.Attr] 71 (0, 0))]] (fun v J M => v = .bool r ∧ M = [[(g81063, .cells #[.slice A81065 p81064.Points.length c81066, .int .i64 p81064.Attr] 71 (0, 0))]]) := by
 have hle := ImmLe.refl I0
 unfold impl_Cell_isWide' at H
 refine fn_intro (fn := Try.f37) 19 Try.func37 rfl rfl rfl (fun E Fs => ?_)
 refine at_seq (at_reg0 [] [0] [(0, .pointer (some ⟨g81063, 0, none⟩))] ?_)
 refine at_thn (at_seq (at_ops [0, 1, 2, 3, 4, 5, 6, 7, 8, 9, 10, 11, 12, 13, 14, 15, 16] rfl ?_))
 by_cases h81068 : (p81064.Points.length : Int) > 0
 ·
  rw [if_pos h81068] at H
  obtain ⟨h81069, H⟩ := ite_some H
  refine at_seg1 [0, 1, 2, 3, 4, 5, 6, 7, 8, 9, 10, 11, 12] [13, 14, 15, 16] [(3, .slice A81065 p81064.Points.length c81066), (6, .bool true), (10, .slice A81065 p81064.Points.length c81066), (12, iV (rdA 0 p81064.Points 0))] [9, 15] [(9, .bool true), (15, iV (rdA 0 p81064.Points 0))] [fun w => w.cell? ⟨g81063, 0, none⟩ = some (.slice A81065 p81064.Points.length c81066), oT ((p81064.Points.length : Int) > 0), fun w => w.cell? ⟨g81063, 0, none⟩ = some (.slice A81065 p81064.Points.length c81066), fun _ => A81065.isSome = true ∧ 0 ≤ (0 : Int) ∧ (0 : Int) < ((p81064.Points.length : Nat) : Int), fun w => w.cell? ((A81065.getD ad0).add ((0 : Int).toNat * 1)) = some (iV (rdA 0 p81064.Points 0))] (fun w hs => ⟨hs.var (k := 0) rfl 0 rfl, cT (h81068), hs.var (k := 0) rfl 0 rfl, ⟨hr81067.ne 0 (by decide : (0 : Int) ≤ 0) h81069, (by decide : (0 : Int) ≤ 0), h81069⟩, hr81067.one 0 0 (by decide : (0 : Int) ≤ 0) h81069 hs⟩) ?_
  refine at_eff rfl rfl ?_
  obtain ⟨b15, H81070, H⟩ := bind_some H
  have hm_ := impl_WidthOf.calls (I0 := I0) H81070
  refine eff_call rfl rfl ok55 rfl rfl (show Meets Try.prog 55 ([iV (rdA 0 p81064.Points 0)] : List Value).toArray _ [] _ from hm_) (Mr := ([(g81063, .cells #[.slice A81065 p81064.Points.length c81066, iV p81064.Attr] 71 (0, 0))] :: Fs)) (List.Perm.refl _) (fun v81071 J81072 M81073 hq81074 hJ81075 => ?_)
  replace hle := hle.trans hJ81075
  replace hr81067 := hr81067.mono hJ81075
  obtain ⟨rfl, rfl⟩ := hq81074
  refine at_seg0 [14, 15, 16] [] [] [2] [(2, .bool (b15 == 2))] ?_
  refine at_end (at_thn (at_ret ?_))
  obtain rfl := Option.some.inj H
  exact at_done0 [.bool (b15 == 2)] (.inl rfl) [.tmp 2] fun w hs => ⟨_, _, [[(g81063, .cells #[.slice A81065 p81064.Points.length c81066, iV p81064.Attr] 71 (0, 0))]], rfl, ⟨rfl, rfl⟩, hle, hs⟩
 ·
  rw [if_neg h81068] at H
  refine at_seg1 [0, 1, 2, 3, 4, 5, 6, 7, 8, 9, 10, 11, 12] [13, 14, 15, 16] [(3, .slice A81065 p81064.Points.length c81066), (6, .bool false)] [9, 15] [(9, .bool false), (15, undef)] [fun w => w.cell? ⟨g81063, 0, none⟩ = some (.slice A81065 p81064.Points.length c81066), oF ((p81064.Points.length : Int) > 0)] (fun w hs => ⟨hs.var (k := 0) rfl 0 rfl, cF (h81068)⟩) ?_
  refine at_seg0 [13, 14, 15, 16] [] [] [2] [(2, .bool false)] ?_
  refine at_end (at_thn (at_ret ?_))
  obtain rfl := Option.some.inj H
  exact at_done0 [.bool false] (.inl rfl) [.tmp 2] fun w hs => ⟨_, _, [[(g81063, .cells #[.slice A81065 p81064.Points.length c81066, iV p81064.Attr] 71 (0, 0))]], rfl, ⟨rfl, rfl⟩, hle, hs⟩

/-! ### (*loop.example/g00146/impl.Cell).isEmpty: function 41 -/
def impl_Cell_isEmpty (p94070 : List T_impl_Cell) (p94071 : Int) : Option Bool := some ((((rdA z_impl_Cell p94070 p94071).Points).length : Int) == 0)
set_option maxHeartbeats 4000000 in
set_option maxRecDepth 100000 in
theorem impl_Cell_isEmpty.calls {p94070 : List T_impl_Cell} {p94071 : Int} {r : Bool} {I0 : Imm} {A94072 : Option Addr} {c94073 : Nat} (H : impl_Cell_isEmpty p94070 p94071 = some r) (hr94077 : Rd k_impl_Cell I0 A94072 c94073 p94070) (h94075 : 0 ≤ p94071) (h94076 : p94071 < (p94070.length : Int)) :
    Meets Try.prog 41 ([.pointer (some ((A94072.getD ad0).add (p94071.toNat * 2)))] : List Value).toArray I0 [] (fun v J M => v = .bool r ∧ M = []) := by
 have hle := ImmLe.refl I0
 unfold impl_Cell_isEmpty at H
 refine fn_intro (fn := Try.f41) 9 Try.func41 rfl rfl rfl (fun E Fs => ?_)
 refine at_seq (at_reg0 [] [0] [(0, .pointer (some ((A94072.getD ad0).add (p94071.toNat * 2))))] ?_)
 refine at_thn (at_seq ?_)
 obtain ⟨cs94082, hz94083, hc94078⟩ := hr94077.elem z_impl_Cell p94071 h94075 h94076
 obtain ⟨A94079, c94080, rfl, hr94081⟩ := hz94083
 refine at_reg1 [(3, .slice A94079 ((rdA z_impl_Cell p94070 p94071).Points).length c94080)] [2] [(2, .bool ((((rdA z_impl_Cell p94070 p94071).Points).length : Int) == 0))] [fun w => w.cell? (((A94072.getD ad0).add (p94071.toNat * 2)).add 0) = some (.slice A94079 ((rdA z_impl_Cell p94070 p94071).Points).length c94080)] (fun w hs => hc94078 0 _ rfl hs) ?_
 refine at_thn (at_ret ?_)
 obtain rfl := Option.some.inj H
 exact at_done0 [.bool ((((rdA z_impl_Cell p94070 p94071).Points).length : Int) == 0)] (.inl rfl) [.tmp 2] fun w hs => ⟨_, _, [], rfl, ⟨rfl, rfl⟩, hle, hs⟩
end Go.Proofs.Ytnhnipdanpcbeaa
