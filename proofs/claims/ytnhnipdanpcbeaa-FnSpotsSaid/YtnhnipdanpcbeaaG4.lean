import Derived.Test.YtnhnipdanpcbeaaG3
namespace Go.Proofs.Ytnhnipdanpcbeaa
open Go Eng
set_option linter.unusedVariables false
set_option linter.unusedSimpArgs false
/-! ### loop.example/g00146/spec.DrawViewRows: function 5 -/
def spec_DrawViewRows (k : Nat) (p6 : List Int) : Option ((List Int) × T_impl_Buf × Int) := (spec_l01Source k p6).bind fun b1 => ((spec_l01Src_l09Prompt k b1).bind fun b2 => ((spec_l01Src_l02Buf k b2.2).bind fun b3 => ((spec_l01Src_l09Cols k b3.2).bind fun b4 => (some (b2.1, b3.1, b4.1)))))
set_option maxHeartbeats 4000000 in
set_option maxRecDepth 100000 in
theorem spec_DrawViewRows.calls {k : Nat} {p6 : List Int} {r : (List Int) × T_impl_Buf × Int} {I0 : Imm} {A7 : Option Addr} {c8 : Nat} (H : spec_DrawViewRows k p6 = some r) (hr9 : Rd (Kd.int .u8) I0 A7 c8 p6) :
    Meets Try.prog 5 ([.slice A7 p6.length c8] : List Value).toArray I0 [] (fun v J M => ∃ (A_1 : Option Addr) (c_2 : Nat) (s_3 : Seg) (A_4 : Option Addr) (c_5 : Nat) (s_6 : Seg), v = .tuple #[.slice A_1 r.1.length c_2, .agg #[.slice A_4 r.2.1.Points.length c_5, .int .i64 r.2.1.Cursor, .int .i64 r.2.1.Mark], .int .i64 r.2.2] ∧ M = [s_3, s_6] ∧ Own (Kd.int .i64) 2 J A_1 c_2 r.1 s_3 ∧ Own (Kd.int .i64) 2 J A_4 c_5 r.2.1.Points s_6) := by
  have hle := ImmLe.refl I0
  unfold spec_DrawViewRows at H
  refine fn_intro (fn := Try.f5) 18 Try.func5 rfl rfl rfl (fun E Fs => ?_)
  refine at_seq ?_
  refine at_ops [0, 1, 2] rfl ?_
  refine at_seg [0] [1, 2] rfl [] [0] (L2 := [(0, .slice A7 p6.length c8)]) (obs := []) (by kernel_rfl) ?_ ?_
  · intro w hs; exact trivial
  refine at_eff rfl rfl ?_
  obtain ⟨i_, hi_, hz_, _, _⟩ := info25
  refine eff_alloc rfl rfl hi_ hz_ #[.slice none ([] : List Int).length 0, .int .i64 0, .int .i64 0] rfl (fun g10 => ?_)
  refine at_seg [2] [] rfl [] [0, 3] (L2 := [(0, .slice A7 p6.length c8), (3, .pointer (some ⟨g10, 0, none⟩))]) (obs := []) (by kernel_rfl) ?_ ?_
  · intro w hs; exact trivial
  refine at_end ?_
  refine at_thn ?_
  refine at_seq ?_
  refine at_ops [0, 1, 2] rfl ?_
  refine at_seg [0] [1, 2] rfl [] [3, 8] (L2 := [(3, .pointer (some ⟨g10, 0, none⟩)), (8, .slice A7 p6.length c8)]) (obs := []) (by kernel_rfl) ?_ ?_
  · intro w hs; exact trivial
  refine at_eff rfl rfl ?_
  obtain ⟨b1, H11, H⟩ := bind_some H
  have hm_ := spec_l01Source.calls (I0 := I0) H11 hr9
  refine eff_call rfl rfl ok17 rfl rfl (show Meets Try.prog 17 ([.slice A7 p6.length c8] : List Value).toArray _ [] _ from hm_) (Mr := ([(g10, .cells #[.slice none ([] : List Int).length 0, .int .i64 0, .int .i64 0] 25 (0, 0))] :: Fs)) (List.Perm.refl _) (fun v12 J13 M14 hq15 hJ16 => ?_)
  replace hle := hle.trans hJ16
  replace hr9 := hr9.mono hJ16
  obtain ⟨g17, A18, c19, rfl, rfl, hr20⟩ := hq15
  refine at_seg [2] [] rfl [] [3, 5] (L2 := [(3, .pointer (some ⟨g10, 0, none⟩)), (5, .pointer (some ⟨g17, 0, none⟩))]) (obs := []) (by kernel_rfl) ?_ ?_
  · intro w hs; exact trivial
  refine at_end ?_
  refine at_thn ?_
  refine at_seq ?_
  refine at_ops [0, 1, 2] rfl ?_
  refine at_seg [0] [1, 2] rfl [] [3, 5, 10] (L2 := [(3, .pointer (some ⟨g10, 0, none⟩)), (5, .pointer (some ⟨g17, 0, none⟩)), (10, .pointer (some ⟨g17, 0, none⟩))]) (obs := []) (by kernel_rfl) ?_ ?_
  · intro w hs; exact trivial
  refine at_eff rfl rfl ?_
  obtain ⟨b2, H21, H⟩ := bind_some H
  refine eff_call rfl rfl ok18 rfl rfl (show Meets Try.prog 18 ([.pointer (some ⟨g17, 0, none⟩)] : List Value).toArray _ [[(g17, .cells #[.slice A18 b1.b.length c19, .int .i64 b1.at_, .int .u64 b1.mix, .int .i64 b1.size] 83 (0, 0))]] _ from spec_l01Src_l09Prompt.calls H21 hr20) (Mr := ([(g10, .cells #[.slice none ([] : List Int).length 0, .int .i64 0, .int .i64 0] 25 (0, 0))] :: Fs)) (List.Perm.refl _) (fun v22 J23 M24 hq25 hJ26 => ?_)
  replace hle := hle.trans hJ26
  replace hr20 := hr20.mono hJ26
  obtain ⟨A27, c28, s29, A31, c32, rfl, rfl, ho30, hr33⟩ := hq25
  refine at_seg [2] [] rfl [] [3, 5, 6] (L2 := [(3, .pointer (some ⟨g10, 0, none⟩)), (5, .pointer (some ⟨g17, 0, none⟩)), (6, .slice A27 b2.1.length c28)]) (obs := []) (by kernel_rfl) ?_ ?_
  · intro w hs; exact trivial
  refine at_end ?_
  refine at_thn ?_
  refine at_seq ?_
  refine at_ops [0, 1, 2, 3] rfl ?_
  refine at_seg [0] [1, 2, 3] rfl [] [3, 5, 6, 12] (L2 := [(3, .pointer (some ⟨g10, 0, none⟩)), (5, .pointer (some ⟨g17, 0, none⟩)), (6, .slice A27 b2.1.length c28), (12, .pointer (some ⟨g17, 0, none⟩))]) (obs := []) (by kernel_rfl) ?_ ?_
  · intro w hs; exact trivial
  refine at_eff rfl rfl ?_
  obtain ⟨b3, H34, H⟩ := bind_some H
  refine eff_call rfl rfl ok19 rfl rfl (show Meets Try.prog 19 ([.pointer (some ⟨g17, 0, none⟩)] : List Value).toArray _ [[(g17, .cells #[.slice A31 b2.2.b.length c32, .int .i64 b2.2.at_, .int .u64 b2.2.mix, .int .i64 b2.2.size] 83 (0, 0))]] _ from spec_l01Src_l02Buf.calls H34 hr33) (Mr := (s29 :: [(g10, .cells #[.slice none ([] : List Int).length 0, .int .i64 0, .int .i64 0] 25 (0, 0))] :: Fs)) ((perm_at (k := 1) rfl).trans ((List.Perm.refl _).cons _)) (fun v35 J36 M37 hq38 hJ39 => ?_)
  replace hle := hle.trans hJ39
  replace ho30 := ho30.mono hJ39
  replace hr33 := hr33.mono hJ39
  obtain ⟨A40, c41, s42, A44, c45, rfl, rfl, ho43, hr46⟩ := hq38
  refine at_eff rfl rfl ?_
  obtain ⟨i_, hi_, hz_, _, _⟩ := info25
  refine eff_alloc rfl rfl hi_ hz_ #[.slice none ([] : List Int).length 0, .int .i64 0, .int .i64 0] rfl (fun g47 => ?_)
  refine at_eff rfl rfl ?_
  refine eff_store 0 rfl rfl rfl rfl rfl rfl (.inl (Nat.le_refl _)) rfl (Nat.le_of_ble_eq_true (by kernel_rfl)) rfl ?_
  refine at_eqM (M1 := ([(g47, .cells #[.slice A40 b3.1.Points.length c41, .int .i64 b3.1.Cursor, .int .i64 b3.1.Mark] 25 (0, 0))] :: s42 :: [(g17, .cells #[.slice A44 b3.2.b.length c45, .int .i64 b3.2.at_, .int .u64 b3.2.mix, .int .i64 b3.2.size] 83 (0, 0))] :: s29 :: [(g10, .cells #[.slice none ([] : List Int).length 0, .int .i64 0, .int .i64 0] 25 (0, 0))] :: Fs)) (M2 := ([(g47, .cells #[.slice A40 b3.1.Points.length c41, .int .i64 b3.1.Cursor, .int .i64 b3.1.Mark] 25 (0, 0))] :: s42 :: [(g17, .cells #[.slice A44 b3.2.b.length c45, .int .i64 b3.2.at_, .int .u64 b3.2.mix, .int .i64 b3.2.size] 83 (0, 0))] :: s29 :: [(g10, .cells #[.slice none ([] : List Int).length 0, .int .i64 0, .int .i64 0] 25 (0, 0))] :: Fs)) rfl rfl ?_
  refine at_end ?_
  refine at_thn ?_
  refine at_seq ?_
  refine at_x hmo (fun w => CellsAt w ⟨g47, 0, none⟩ [.slice A40 b3.1.Points.length c41, .int .i64 b3.1.Cursor, .int .i64 b3.1.Mark] 0) [5] ?_
  refine at_xseg [0, 1, 2] 4 (#[true, true, true, false, false, false, false]) rfl (by kernel_rfl) [(1, .agg #[.slice A40 b3.1.Points.length c41, .int .i64 b3.1.Cursor, .int .i64 b3.1.Mark])] [3, 14, 15, 16] (L2 := [(3, .pointer (some ⟨g10, 0, none⟩)), (14, .slice A27 b2.1.length c28), (15, .agg #[.slice A40 b3.1.Points.length c41, .int .i64 b3.1.Cursor, .int .i64 b3.1.Mark]), (16, .pointer (some ⟨g17, 0, none⟩))]) (obs := [fun w => CellsAt w ⟨g47, 0, none⟩ [.slice A40 b3.1.Points.length c41, .int .i64 b3.1.Cursor, .int .i64 b3.1.Mark] 0]) (by kernel_rfl) (by kernel_rfl) (by kernel_rfl) (.inr fun w hs => cellsV (k := 0) hs rfl _ 0 (Nat.le_of_ble_eq_true (by kernel_rfl)) rfl) (fun w hS => hS) (fun w hs => cellsV (k := 0) hs rfl _ 0 (Nat.le_of_ble_eq_true (by kernel_rfl)) rfl) ?_
  refine at_x1 3 3 (#[true, true, true, true, false, false, false]) rfl (by kernel_rfl) (by kernel_rfl) rfl rfl ?_
  obtain ⟨b4, H48, H⟩ := bind_some H
  refine eff_call rfl rfl ok20 rfl rfl (show Meets Try.prog 20 ([.pointer (some ⟨g17, 0, none⟩)] : List Value).toArray _ [[(g17, .cells #[.slice A44 b3.2.b.length c45, .int .i64 b3.2.at_, .int .u64 b3.2.mix, .int .i64 b3.2.size] 83 (0, 0))]] _ from spec_l01Src_l09Cols.calls H48 hr46) (Mr := ([(g47, .cells #[.slice A40 b3.1.Points.length c41, .int .i64 b3.1.Cursor, .int .i64 b3.1.Mark] 25 (0, 0))] :: s42 :: s29 :: [(g10, .cells #[.slice none ([] : List Int).length 0, .int .i64 0, .int .i64 0] 25 (0, 0))] :: Fs)) ((perm_at (k := 2) rfl).trans ((List.Perm.refl _).cons _)) (fun v49 J50 M51 hq52 hJ53 => ?_)
  replace hle := hle.trans hJ53
  replace ho30 := ho30.mono hJ53
  replace ho43 := ho43.mono hJ53
  replace hr46 := hr46.mono hJ53
  obtain ⟨A54, c55, rfl, rfl, hr56⟩ := hq52
  refine at_xS (fun w hs => cellsV (k := 1) hs rfl _ 0 (Nat.le_of_ble_eq_true (by kernel_rfl)) rfl) ?_
  refine at_xseg [4] 2 (#[true, true, true, true, true, false, false]) rfl (by kernel_rfl) [] [2, 3, 15, 17] (L2 := [(2, .slice A27 b2.1.length c28), (3, .pointer (some ⟨g10, 0, none⟩)), (15, .agg #[.slice A40 b3.1.Points.length c41, .int .i64 b3.1.Cursor, .int .i64 b3.1.Mark]), (17, .int .i64 b4.1)]) (obs := []) (by kernel_rfl) (by kernel_rfl) (by kernel_rfl) (.inr fun w hs => cellsV (k := 1) hs rfl _ 0 (Nat.le_of_ble_eq_true (by kernel_rfl)) rfl) (fun w hS => trivial) (fun w hs => trivial) ?_
  refine at_x1 1 5 (#[true, true, true, true, true, true, false]) rfl (by kernel_rfl) (by kernel_rfl) rfl rfl ?_
  refine eff_store 4 rfl rfl rfl rfl rfl rfl (.inl (Nat.le_refl _)) rfl (Nat.le_of_ble_eq_true (by kernel_rfl)) rfl ?_
  refine at_eqM (M1 := ([(g17, .cells #[.slice A54 b4.2.b.length c55, .int .i64 b4.2.at_, .int .u64 b4.2.mix, .int .i64 b4.2.size] 83 (0, 0))] :: [(g47, .cells #[.slice A40 b3.1.Points.length c41, .int .i64 b3.1.Cursor, .int .i64 b3.1.Mark] 25 (0, 0))] :: s42 :: s29 :: [(g10, .cells #[.slice A40 b3.1.Points.length c41, .int .i64 b3.1.Cursor, .int .i64 b3.1.Mark] 25 (0, 0))] :: Fs)) (M2 := ([(g17, .cells #[.slice A54 b4.2.b.length c55, .int .i64 b4.2.at_, .int .u64 b4.2.mix, .int .i64 b4.2.size] 83 (0, 0))] :: [(g47, .cells #[.slice A40 b3.1.Points.length c41, .int .i64 b3.1.Cursor, .int .i64 b3.1.Mark] 25 (0, 0))] :: s42 :: s29 :: [(g10, .cells #[.slice A40 b3.1.Points.length c41, .int .i64 b3.1.Cursor, .int .i64 b3.1.Mark] 25 (0, 0))] :: Fs)) rfl rfl ?_
  refine at_xX (by kernel_rfl) ?_
  refine at_xseg [6] 0 (#[true, true, true, true, true, true, true]) rfl (by kernel_rfl) [] [2, 3, 4] (L2 := [(2, .slice A27 b2.1.length c28), (3, .pointer (some ⟨g10, 0, none⟩)), (4, .int .i64 b4.1)]) (obs := []) (by kernel_rfl) (by kernel_rfl) (by kernel_rfl) (.inl (by kernel_rfl)) (fun w hS => trivial) (fun w hs => trivial) ?_
  refine at_xend (by kernel_rfl) ?_
  refine at_thn ?_
  refine at_ret ?_
  obtain rfl := Option.some.inj H
  refine at_drop (k := 0) rfl rfl ?_
  refine at_eqM (M1 := ([(g47, .cells #[.slice A40 b3.1.Points.length c41, .int .i64 b3.1.Cursor, .int .i64 b3.1.Mark] 25 (0, 0))] :: s42 :: s29 :: [(g10, .cells #[.slice A40 b3.1.Points.length c41, .int .i64 b3.1.Cursor, .int .i64 b3.1.Mark] 25 (0, 0))] :: Fs)) (M2 := ([(g47, .cells #[.slice A40 b3.1.Points.length c41, .int .i64 b3.1.Cursor, .int .i64 b3.1.Mark] 25 (0, 0))] :: s42 :: s29 :: [(g10, .cells #[.slice A40 b3.1.Points.length c41, .int .i64 b3.1.Cursor, .int .i64 b3.1.Mark] 25 (0, 0))] :: Fs)) rfl rfl ?_
  refine at_drop (k := 0) rfl rfl ?_
  refine at_eqM (M1 := (s42 :: s29 :: [(g10, .cells #[.slice A40 b3.1.Points.length c41, .int .i64 b3.1.Cursor, .int .i64 b3.1.Mark] 25 (0, 0))] :: Fs)) (M2 := (s42 :: s29 :: [(g10, .cells #[.slice A40 b3.1.Points.length c41, .int .i64 b3.1.Cursor, .int .i64 b3.1.Mark] 25 (0, 0))] :: Fs)) rfl rfl ?_
  refine at_perm ((perm_at (k := 1) rfl).trans ((List.Perm.refl _).cons _)) ?_
  refine at_done (vs := [.slice A27 b2.1.length c28, .agg #[.slice A40 b3.1.Points.length c41, .int .i64 b3.1.Cursor, .int .i64 b3.1.Mark], .int .i64 b4.1]) (obs := [fun w => CellsAt w ⟨g10, 0, none⟩ [.slice A40 b3.1.Points.length c41, .int .i64 b3.1.Cursor, .int .i64 b3.1.Mark] 0]) (.inl rfl) [.tmp 2, .cell 3 25, .tmp 4] [(3, .agg #[.slice A40 b3.1.Points.length c41, .int .i64 b3.1.Cursor, .int .i64 b3.1.Mark])] rfl (by kernel_rfl) (fun w hs => cellsV (k := 2) hs rfl _ 0 (Nat.le_of_ble_eq_true (by kernel_rfl)) rfl) (fun w hs => ⟨_, _, [s29, s42], rfl, ⟨A27, c28, s29, A40, c41, s42, rfl, rfl, ho30, ho43⟩, hle, (hs.tail (perm_at (k := 2) rfl))⟩)

/-! ### loop.example/g00146/laws.lwCopy: function 7 -/
def laws_lwCopy (p21 : List Int) : Option (List Int) := if ([] : List Int).length + p21.length ≤ 17592186044416 then (some (([] : List Int) ++ p21)) else none
set_option maxHeartbeats 4000000 in
set_option maxRecDepth 100000 in
theorem laws_lwCopy.calls {p21 : List Int} {r : (List Int)} {I0 : Imm} {A22 : Option Addr} {c23 : Nat} (H : laws_lwCopy p21 = some r) (hr24 : Rd (Kd.int .i64) I0 A22 c23 p21) :
    Meets Try.prog 7 ([.slice A22 p21.length c23] : List Value).toArray I0 [] (fun v J M => ∃ (A_1 : Option Addr) (c_2 : Nat) (s_3 : Seg), v = .slice A_1 r.length c_2 ∧ M = [s_3] ∧ Own (Kd.int .i64) 2 J A_1 c_2 r s_3) := by
  have hle := ImmLe.refl I0
  unfold laws_lwCopy at H
  refine fn_intro (fn := Try.f7) 6 Try.func7 rfl rfl rfl (fun E Fs => ?_)
  refine at_seq ?_
  refine at_reg [] [0] (L2 := [(0, .slice A22 p21.length c23)]) (obs := []) (by kernel_rfl) ?_ ?_
  · intro w hs; exact trivial
  refine at_thn ?_
  refine at_seq ?_
  refine at_ops [0, 1, 2, 3] rfl ?_
  refine at_eff rfl rfl ?_
  refine eff_buildSlice (e := 2) (cells := #[]) ([] : List Int).length rfl rfl rfl (by kernel_rfl) (fun g25 => ?_)
  have ho26 := own_lit (K := (Kd.int .i64)) (e := 2) (I := I0) (xs := ([] : List Int)) (css := []) (cells := #[]) (b := g25) trivial rfl
  refine at_seg [1] [2, 3] rfl [] [3, 4] (L2 := [(3, .slice (some ⟨g25, 0, none⟩ : Option Addr) ([] : List Int).length (([] : List Int).length)), (4, .slice A22 p21.length c23)]) (obs := []) (by kernel_rfl) ?_ ?_
  · intro w hs; exact trivial
  refine at_eff rfl rfl ?_
  obtain ⟨h27, H⟩ := ite_some H
  obtain ⟨i_, hi_, hz_, hs_, hb_⟩ := info2
  refine eff_append (K := (Kd.int .i64)) (xs := ([] : List Int)) (ys := p21) 0 rfl rfl rfl rfl rfl und23 und23 hi_ hz_ hs_ rfl rfl rfl ho26 rfl (fun w hs => hr24.rowAt hs) (by rw [hb_]; omega) (by omega) (fun A28 c29 s30 ho31 => ?_)
  refine at_seg [3] [] rfl [] [2] (L2 := [(2, .slice A28 (([] : List Int) ++ p21).length c29)]) (obs := []) (by kernel_rfl) ?_ ?_
  · intro w hs; exact trivial
  refine at_end ?_
  refine at_thn ?_
  refine at_ret ?_
  obtain rfl := Option.some.inj H
  refine at_done (vs := [.slice A28 (([] : List Int) ++ p21).length c29]) (obs := []) (.inl rfl) [.tmp 2] [] rfl (by kernel_rfl) (fun w hs => trivial) (fun w hs => ⟨_, _, [s30], rfl, ⟨A28, c29, s30, rfl, rfl, ho31⟩, hle, hs⟩)

/-! ### loop.example/g00146/impl.within: function 36 -/
def impl_within (p71 : Int) (p72 : Int) (p73 : Int) : Option Bool := if p72 ≤ p71 then (some (decide (p71 ≤ p73))) else (some false)
set_option maxHeartbeats 4000000 in
set_option maxRecDepth 100000 in
theorem impl_within.calls {p71 : Int} {p72 : Int} {p73 : Int} {r : Bool} {I0 : Imm} (H : impl_within p71 p72 p73 = some r) :
    Meets Try.prog 36 ([.int .i64 p71, .int .i64 p72, .int .i64 p73] : List Value).toArray I0 [] (fun v J M => v = .bool r ∧ M = []) := by
  have hle := ImmLe.refl I0
  unfold impl_within at H
  refine fn_intro (fn := Try.f36) 15 Try.func36 rfl rfl rfl (fun E Fs => ?_)
  refine at_seq ?_
  refine at_reg [] [0, 1, 2] (L2 := [(0, .int .i64 p71), (1, .int .i64 p72), (2, .int .i64 p73)]) (obs := []) (by kernel_rfl) ?_ ?_
  · intro w hs; exact trivial
  refine at_thn ?_
  refine at_seq ?_
  by_cases h74 : p72 ≤ p71
  · rw [if_pos h74] at H
    refine at_reg [(3, .bool true)] [6] (L2 := [(6, .bool (decide (p71 ≤ p73)))]) (obs := [fun _ => (.bool (decide (p72 ≤ p71)) : Value) = .bool true]) (by kernel_rfl) ?_ ?_
    · intro w hs; exact congrArg Value.bool (decide_eq_true h74)
    refine at_thn ?_
    refine at_ret ?_
    obtain rfl := Option.some.inj H
    refine at_done (vs := [.bool (decide (p71 ≤ p73))]) (obs := []) (.inl rfl) [.tmp 6] [] rfl (by kernel_rfl) (fun w hs => trivial) (fun w hs => ⟨_, _, [], rfl, ⟨rfl, rfl⟩, hle, hs⟩)
  · rw [if_neg h74] at H
    refine at_reg [(3, .bool false)] [6] (L2 := [(6, .bool false)]) (obs := [fun _ => (.bool (decide (p72 ≤ p71)) : Value) = .bool false]) (by kernel_rfl) ?_ ?_
    · intro w hs; exact congrArg Value.bool (decide_eq_false h74)
    refine at_thn ?_
    refine at_ret ?_
    obtain rfl := Option.some.inj H
    refine at_done (vs := [.bool false]) (obs := []) (.inl rfl) [.tmp 6] [] rfl (by kernel_rfl) (fun w hs => trivial) (fun w hs => ⟨_, _, [], rfl, ⟨rfl, rfl⟩, hle, hs⟩)

/-! ### loop.example/g00146/impl.isPoint: function 56 -/
def impl_isPoint (p70 : Int) : Option Bool := (impl_within p70 0 1114111).bind fun b3 => (if b3 = true then ((impl_within p70 55296 57343).bind fun b4 => (some (!b4))) else (some false))
set_option maxHeartbeats 4000000 in
set_option maxRecDepth 100000 in
theorem impl_isPoint.calls {p70 : Int} {r : Bool} {I0 : Imm} (H : impl_isPoint p70 = some r) :
    Meets Try.prog 56 ([.int .i64 p70] : List Value).toArray I0 [] (fun v J M => v = .bool r ∧ M = []) := by
  have hle := ImmLe.refl I0
  unfold impl_isPoint at H
  refine fn_intro (fn := Try.f56) 10 Try.func56 rfl rfl rfl (fun E Fs => ?_)
  refine at_seq ?_
  refine at_reg [] [0] (L2 := [(0, .int .i64 p70)]) (obs := []) (by kernel_rfl) ?_ ?_
  · intro w hs; exact trivial
  refine at_thn ?_
  refine at_seq ?_
  refine at_ops [0, 1, 2, 3, 4, 5, 6, 7] rfl ?_
  refine at_seg [0] [1, 2, 3, 4, 5, 6, 7] rfl [] [0, 3] (L2 := [(0, .int .i64 p70), (3, .int .i64 p70)]) (obs := []) (by kernel_rfl) ?_ ?_
  · intro w hs; exact trivial
  refine at_eff rfl rfl ?_
  obtain ⟨b3, H71, H⟩ := bind_some H
  have hm_ := impl_within.calls (I0 := I0) H71
  refine eff_call rfl rfl ok36 rfl rfl (show Meets Try.prog 36 ([.int .i64 p70, .int .i64 0, .int .i64 1114111] : List Value).toArray _ [] _ from hm_) (Mr := (Fs)) (List.Perm.refl _) (fun v72 J73 M74 hq75 hJ76 => ?_)
  replace hle := hle.trans hJ76
  obtain ⟨rfl, rfl⟩ := hq75
  by_cases h77 : b3 = true
  · rw [if_pos h77] at H
    refine at_seg [2, 3] [4, 5, 6, 7] rfl [(2, .bool true)] [5, 6] (L2 := [(5, .bool true), (6, .int .i64 p70)]) (obs := [fun _ => (.bool b3 : Value) = .bool true]) (by kernel_rfl) ?_ ?_
    · intro w hs; exact congrArg Value.bool (h77)
    refine at_eff rfl rfl ?_
    obtain ⟨b4, H78, H⟩ := bind_some H
    have hm_ := impl_within.calls (I0 := J73) H78
    refine eff_call rfl rfl ok36 rfl rfl (show Meets Try.prog 36 ([.int .i64 p70, .int .i64 55296, .int .i64 57343] : List Value).toArray _ [] _ from hm_) (Mr := (Fs)) (List.Perm.refl _) (fun v79 J80 M81 hq82 hJ83 => ?_)
    replace hle := hle.trans hJ83
    obtain ⟨rfl, rfl⟩ := hq82
    refine at_seg [5, 6, 7] [] rfl [] [2] (L2 := [(2, .bool (!b4))]) (obs := []) (by kernel_rfl) ?_ ?_
    · intro w hs; exact trivial
    refine at_end ?_
    refine at_thn ?_
    refine at_ret ?_
    obtain rfl := Option.some.inj H
    refine at_done (vs := [.bool (!b4)]) (obs := []) (.inl rfl) [.tmp 2] [] rfl (by kernel_rfl) (fun w hs => trivial) (fun w hs => ⟨_, _, [], rfl, ⟨rfl, rfl⟩, hle, hs⟩)
  · rw [if_neg h77] at H
    refine at_seg [2, 3] [4, 5, 6, 7] rfl [(2, .bool false)] [5, 6] (L2 := [(5, .bool false), (6, undef)]) (obs := [fun _ => (.bool b3 : Value) = .bool false]) (by kernel_rfl) ?_ ?_
    · intro w hs; exact congrArg Value.bool (ff_of h77)
    refine at_seg [4, 5, 6, 7] [] rfl [] [2] (L2 := [(2, .bool false)]) (obs := []) (by kernel_rfl) ?_ ?_
    · intro w hs; exact trivial
    refine at_end ?_
    refine at_thn ?_
    refine at_ret ?_
    obtain rfl := Option.some.inj H
    refine at_done (vs := [.bool false]) (obs := []) (.inl rfl) [.tmp 2] [] rfl (by kernel_rfl) (fun w hs => trivial) (fun w hs => ⟨_, _, [], rfl, ⟨rfl, rfl⟩, hle, hs⟩)

/-! ### loop.example/g00146/impl.PointsRight$1: function 63 -/
def impl_PointsRight_1 (p69 : Int) : Option Bool := (impl_isPoint p69).bind fun b3 => (some (!b3))
set_option maxHeartbeats 4000000 in
set_option maxRecDepth 100000 in
theorem impl_PointsRight_1.calls {p69 : Int} {r : Bool} {I0 : Imm} (H : impl_PointsRight_1 p69 = some r) :
    Meets Try.prog 63 ([.int .i64 p69] : List Value).toArray I0 [] (fun v J M => v = .bool r ∧ M = []) := by
  have hle := ImmLe.refl I0
  unfold impl_PointsRight_1 at H
  refine fn_intro (fn := Try.f63) 6 Try.func63 rfl rfl rfl (fun E Fs => ?_)
  refine at_seq ?_
  refine at_reg [] [0] (L2 := [(0, .int .i64 p69)]) (obs := []) (by kernel_rfl) ?_ ?_
  · intro w hs; exact trivial
  refine at_thn ?_
  refine at_seq ?_
  refine at_ops [0, 1, 2, 3] rfl ?_
  refine at_seg [0] [1, 2, 3] rfl [] [3] (L2 := [(3, .int .i64 p69)]) (obs := []) (by kernel_rfl) ?_ ?_
  · intro w hs; exact trivial
  refine at_eff rfl rfl ?_
  obtain ⟨b3, H70, H⟩ := bind_some H
  have hm_ := impl_isPoint.calls (I0 := I0) H70
  refine eff_call rfl rfl ok56 rfl rfl (show Meets Try.prog 56 ([.int .i64 p69] : List Value).toArray _ [] _ from hm_) (Mr := (Fs)) (List.Perm.refl _) (fun v71 J72 M73 hq74 hJ75 => ?_)
  replace hle := hle.trans hJ75
  obtain ⟨rfl, rfl⟩ := hq74
  refine at_seg [2, 3] [] rfl [] [2] (L2 := [(2, .bool (!b3))]) (obs := []) (by kernel_rfl) ?_ ?_
  · intro w hs; exact trivial
  refine at_end ?_
  refine at_thn ?_
  refine at_ret ?_
  obtain rfl := Option.some.inj H
  refine at_done (vs := [.bool (!b3)]) (obs := []) (.inl rfl) [.tmp 2] [] rfl (by kernel_rfl) (fun w hs => trivial) (fun w hs => ⟨_, _, [], rfl, ⟨rfl, rfl⟩, hle, hs⟩)

/-! ### slices.IndexFunc[[]int64,int64]: function 68 -/
def slices_IndexFunc_int64_int64_at_63_l0 : Nat → Int → (List Int) → Option Int
  | 0, _, _ => none
  | k + 1, x67, p63 => if x67 < (p63.length : Int) then (if 0 ≤ x67 then ((impl_PointsRight_1 (rdA 0 p63 x67)).bind fun b3 => (if b3 = true then (some x67) else (slices_IndexFunc_int64_int64_at_63_l0 k (IntKind.i64.wrap (x67 + 1)) p63))) else none) else (some (-1))
def slices_IndexFunc_int64_int64_at_63 (k : Nat) (p63 : List Int) : Option Int := slices_IndexFunc_int64_int64_at_63_l0 k 0 p63
set_option maxHeartbeats 4000000 in
set_option maxRecDepth 100000 in
theorem slices_IndexFunc_int64_int64_at_63.calls {k : Nat} {p63 : List Int} {r : Int} {I0 : Imm} {A64 : Option Addr} {c65 : Nat} (H : slices_IndexFunc_int64_int64_at_63 k p63 = some r) (hr66 : Rd (Kd.int .i64) I0 A64 c65 p63) :
    Meets Try.prog 68 ([.slice A64 p63.length c65, .func (.func 63) #[] #[]] : List Value).toArray I0 [] (fun v J M => v = .int .i64 r ∧ M = []) := by
  have hle := ImmLe.refl I0
  unfold slices_IndexFunc_int64_int64_at_63 at H
  refine fn_intro (fn := Try.f68) 19 Try.func68 rfl rfl rfl (fun E Fs => ?_)
  refine at_seq ?_
  refine at_reg [] [0, 1] (L2 := [(0, .slice A64 p63.length c65), (1, .func (.func 63) #[] #[])]) (obs := []) (by kernel_rfl) ?_ ?_
  · intro w hs; exact trivial
  refine at_thn ?_
  refine at_seq ?_
  refine at_seq ?_
  refine at_reg [] [0, 1, 7, 8] (L2 := [(0, .slice A64 p63.length c65), (1, .func (.func 63) #[] #[]), (7, .int .i64 (p63.length : Int)), (8, .int .i64 0)]) (obs := []) (by kernel_rfl) ?_ ?_
  · intro w hs; exact trivial
  refine at_thn ?_
  refine at_block ?_
  refine at_keep [0, 1, 7, 8] (L2 := [(0, .slice A64 p63.length c65), (1, .func (.func 63) #[] #[]), (7, .int .i64 (p63.length : Int)), (8, .int .i64 0)]) rfl ?_
  refine at_loop (fun k68 L I Ms => ∃ (x67 : Int), L = [(0, .slice A64 p63.length c65), (1, .func (.func 63) #[] #[]), (7, .int .i64 (p63.length : Int)), (8, .int .i64 x67)] ∧ Ms = ([] ++ Fs) ∧ slices_IndexFunc_int64_int64_at_63_l0 k68 x67 p63 = some r ∧ ImmLe I0 I ∧ k68 ≤ k ∧ Rd (Kd.int .i64) I A64 c65 p63) ?_ ?_ k ⟨0, rfl, rfl, H, hle, Nat.le_refl _, hr66⟩
  · rintro L I Ms ⟨_, rfl, rfl, H, _⟩; exact no_none H
  · clear H hle hr66
    intro k68 ih69 L I Ms h_; obtain ⟨x67, hL_, hM_, H, hle, hk70, hr66⟩ := h_; rw [hL_, hM_]; clear hL_ hM_ L Ms
    rw [slices_IndexFunc_int64_int64_at_63_l0] at H
    refine at_seq ?_
    refine at_reg [] [0, 1, 7, 8, 9] (L2 := [(0, .slice A64 p63.length c65), (1, .func (.func 63) #[] #[]), (7, .int .i64 (p63.length : Int)), (8, .int .i64 x67), (9, .bool (decide (x67 < (p63.length : Int))))]) (obs := []) (by kernel_rfl) ?_ ?_
    · intro w hs; exact trivial
    refine at_thn ?_
    refine at_seq ?_
    by_cases h71 : x67 < (p63.length : Int)
    · rw [if_pos h71] at H
      refine at_cond_t rfl (decide_eq_true h71) ?_
      refine at_skip ?_
      refine at_thn ?_
      refine at_seq ?_
      refine at_block ?_
      refine at_seq ?_
      refine at_reg [] [0, 1, 5, 7, 8] (L2 := [(0, .slice A64 p63.length c65), (1, .func (.func 63) #[] #[]), (5, .int .i64 x67), (7, .int .i64 (p63.length : Int)), (8, .int .i64 x67)]) (obs := []) (by kernel_rfl) ?_ ?_
      · intro w hs; exact trivial
      refine at_thn ?_
      refine at_seq ?_
      refine at_ops [0, 1, 2, 3, 4, 5] rfl ?_
      obtain ⟨h72, H⟩ := ite_some H
      refine at_seg [0, 1, 2, 3, 4] [5] rfl [(4, .int .i64 (rdA 0 p63 x67))] [0, 1, 5, 7, 8, 11, 15] (L2 := [(0, .slice A64 p63.length c65), (1, .func (.func 63) #[] #[]), (5, .int .i64 x67), (7, .int .i64 (p63.length : Int)), (8, .int .i64 x67), (11, .func (.func 63) #[] #[]), (15, .int .i64 (rdA 0 p63 x67))]) (obs := [fun _ => A64.isSome = true ∧ 0 ≤ x67 ∧ x67 < ((p63.length : Nat) : Int), fun w => w.cell? ((A64.getD ad0).add (x67.toNat * 1)) = some (.int .i64 (rdA 0 p63 x67))]) (by kernel_rfl) ?_ ?_
      · intro w hs; exact ⟨⟨hr66.ne x67 h72 h71, h72, h71⟩, hr66.one 0 x67 h72 h71 hs⟩
      refine at_eff rfl rfl ?_
      obtain ⟨b3, H73, H⟩ := bind_some H
      have hm_ := impl_PointsRight_1.calls (I0 := I) H73
      refine eff_callv (first := []) (captured := []) rfl rfl rfl ok63 rfl rfl (hm_) (Mr := (Fs)) (List.Perm.refl _) (fun v74 J75 M76 hq77 hJ78 => ?_)
      replace hle := hle.trans hJ78
      replace hr66 := hr66.mono hJ78
      obtain ⟨rfl, rfl⟩ := hq77
      refine at_end ?_
      refine at_thn ?_
      by_cases h79 : b3 = true
      · rw [if_pos h79] at H
        refine at_cond_t rfl (h79) ?_
        refine at_seq ?_
        refine at_reg [] [4] (L2 := [(4, .int .i64 x67)]) (obs := []) (by kernel_rfl) ?_ ?_
        · intro w hs; exact trivial
        refine at_thn ?_
        refine at_ret ?_
        refine at_in_ret ?_
        refine at_then_ret ?_
        refine at_then_ret ?_
        refine at_in_ret ?_
        refine at_then_ret ?_
        obtain rfl := Option.some.inj H
        refine at_done (vs := [.int .i64 x67]) (obs := []) (.inl rfl) [.tmp 4] [] rfl (by kernel_rfl) (fun w hs => trivial) (fun w hs => ⟨_, _, [], rfl, ⟨rfl, rfl⟩, hle, hs⟩)
      · rw [if_neg h79] at H
        refine at_cond_f rfl (ff_of h79) ?_
        refine at_skip ?_
        refine at_in_norm ?_
        refine at_thn ?_
        refine at_reg [] [0, 1, 7, 8] (L2 := [(0, .slice A64 p63.length c65), (1, .func (.func 63) #[] #[]), (7, .int .i64 (p63.length : Int)), (8, .int .i64 (IntKind.i64.wrap (x67 + 1)))]) (obs := []) (by kernel_rfl) ?_ ?_
        · intro w hs; exact trivial
        refine at_thn ?_
        refine at_keep [0, 1, 7, 8] (L2 := [(0, .slice A64 p63.length c65), (1, .func (.func 63) #[] #[]), (7, .int .i64 (p63.length : Int)), (8, .int .i64 (IntKind.i64.wrap (x67 + 1)))]) rfl ?_
        exact ih69 _ (by omega) _ _ _ ⟨IntKind.i64.wrap (x67 + 1), rfl, rfl, H, hle, by omega, hr66⟩
    · rw [if_neg h71] at H
      refine at_cond_f rfl (decide_eq_false h71) ?_
      refine at_exit ?_
      refine at_then_exit ?_
      refine at_then_exit ?_
      refine at_in_hit ?_
      refine at_thn ?_
      refine at_seq ?_
      refine at_reg [] [4] (L2 := [(4, .int .i64 (-1))]) (obs := []) (by kernel_rfl) ?_ ?_
      · intro w hs; exact trivial
      refine at_thn ?_
      refine at_ret ?_
      obtain rfl := Option.some.inj H
      refine at_done (vs := [.int .i64 (-1)]) (obs := []) (.inl rfl) [.tmp 4] [] rfl (by kernel_rfl) (fun w hs => trivial) (fun w hs => ⟨_, _, [], rfl, ⟨rfl, rfl⟩, hle, hs⟩)

/-! ### slices.ContainsFunc[[]int64,int64]: function 62 -/
def slices_ContainsFunc_int64_int64_at_63 (k : Nat) (p59 : List Int) : Option Bool := (slices_IndexFunc_int64_int64_at_63 k p59).bind fun b3 => (some (decide (b3 ≥ 0)))
set_option maxHeartbeats 4000000 in
set_option maxRecDepth 100000 in
theorem slices_ContainsFunc_int64_int64_at_63.calls {k : Nat} {p59 : List Int} {r : Bool} {I0 : Imm} {A60 : Option Addr} {c61 : Nat} (H : slices_ContainsFunc_int64_int64_at_63 k p59 = some r) (hr62 : Rd (Kd.int .i64) I0 A60 c61 p59) :
    Meets Try.prog 62 ([.slice A60 p59.length c61, .func (.func 63) #[] #[]] : List Value).toArray I0 [] (fun v J M => v = .bool r ∧ M = []) := by
  have hle := ImmLe.refl I0
  unfold slices_ContainsFunc_int64_int64_at_63 at H
  refine fn_intro (fn := Try.f62) 9 Try.func62 rfl rfl rfl (fun E Fs => ?_)
  refine at_seq ?_
  refine at_reg [] [0, 1] (L2 := [(0, .slice A60 p59.length c61), (1, .func (.func 63) #[] #[])]) (obs := []) (by kernel_rfl) ?_ ?_
  · intro w hs; exact trivial
  refine at_thn ?_
  refine at_seq ?_
  refine at_ops [0, 1, 2, 3, 4] rfl ?_
  refine at_seg [0, 1] [2, 3, 4] rfl [] [5, 6] (L2 := [(5, .slice A60 p59.length c61), (6, .func (.func 63) #[] #[])]) (obs := []) (by kernel_rfl) ?_ ?_
  · intro w hs; exact trivial
  refine at_eff rfl rfl ?_
  obtain ⟨b3, H63, H⟩ := bind_some H
  have hm_ := slices_IndexFunc_int64_int64_at_63.calls (I0 := I0) H63 hr62
  refine eff_call rfl rfl ok68 rfl rfl (show Meets Try.prog 68 ([.slice A60 p59.length c61, .func (.func 63) #[] #[]] : List Value).toArray _ [] _ from hm_) (Mr := (Fs)) (List.Perm.refl _) (fun v64 J65 M66 hq67 hJ68 => ?_)
  replace hle := hle.trans hJ68
  replace hr62 := hr62.mono hJ68
  obtain ⟨rfl, rfl⟩ := hq67
  refine at_seg [3, 4] [] rfl [] [4] (L2 := [(4, .bool (decide (b3 ≥ 0)))]) (obs := []) (by kernel_rfl) ?_ ?_
  · intro w hs; exact trivial
  refine at_end ?_
  refine at_thn ?_
  refine at_ret ?_
  obtain rfl := Option.some.inj H
  refine at_done (vs := [.bool (decide (b3 ≥ 0))]) (obs := []) (.inl rfl) [.tmp 4] [] rfl (by kernel_rfl) (fun w hs => trivial) (fun w hs => ⟨_, _, [], rfl, ⟨rfl, rfl⟩, hle, hs⟩)

/-! ### loop.example/g00146/impl.PointsRight: function 45 -/
def impl_PointsRight (k : Nat) (p54 : List Int) : Option Bool := if (p54.length : Int) ≤ 300 then ((slices_ContainsFunc_int64_int64_at_63 k p54).bind fun b3 => (some (!b3))) else (some false)
set_option maxHeartbeats 4000000 in
set_option maxRecDepth 100000 in
theorem impl_PointsRight.calls {k : Nat} {p54 : List Int} {r : Bool} {I0 : Imm} {A55 : Option Addr} {c56 : Nat} (H : impl_PointsRight k p54 = some r) (hr57 : Rd (Kd.int .i64) I0 A55 c56 p54) :
    Meets Try.prog 45 ([.slice A55 p54.length c56] : List Value).toArray I0 [] (fun v J M => v = .bool r ∧ M = []) := by
  have hle := ImmLe.refl I0
  unfold impl_PointsRight at H
  refine fn_intro (fn := Try.f45) 11 Try.func45 rfl rfl rfl (fun E Fs => ?_)
  refine at_seq ?_
  refine at_reg [] [0] (L2 := [(0, .slice A55 p54.length c56)]) (obs := []) (by kernel_rfl) ?_ ?_
  · intro w hs; exact trivial
  refine at_thn ?_
  refine at_seq ?_
  refine at_ops [0, 1, 2, 3, 4, 5, 6, 7, 8] rfl ?_
  by_cases h58 : (p54.length : Int) ≤ 300
  · rw [if_pos h58] at H
    refine at_seg [0, 1, 2, 3, 4] [5, 6, 7, 8] rfl [(3, .bool true)] [6, 7] (L2 := [(6, .bool true), (7, .slice A55 p54.length c56)]) (obs := [fun _ => (.bool (decide ((p54.length : Int) ≤ 300)) : Value) = .bool true]) (by kernel_rfl) ?_ ?_
    · intro w hs; exact congrArg Value.bool (decide_eq_true h58)
    refine at_eff rfl rfl ?_
    obtain ⟨b3, H59, H⟩ := bind_some H
    have hm_ := slices_ContainsFunc_int64_int64_at_63.calls (I0 := I0) H59 hr57
    refine eff_call rfl rfl ok62 rfl rfl (show Meets Try.prog 62 ([.slice A55 p54.length c56, .func (.func 63) #[] #[]] : List Value).toArray _ [] _ from hm_) (Mr := (Fs)) (List.Perm.refl _) (fun v60 J61 M62 hq63 hJ64 => ?_)
    replace hle := hle.trans hJ64
    replace hr57 := hr57.mono hJ64
    obtain ⟨rfl, rfl⟩ := hq63
    refine at_seg [6, 7, 8] [] rfl [] [2] (L2 := [(2, .bool (!b3))]) (obs := []) (by kernel_rfl) ?_ ?_
    · intro w hs; exact trivial
    refine at_end ?_
    refine at_thn ?_
    refine at_ret ?_
    obtain rfl := Option.some.inj H
    refine at_done (vs := [.bool (!b3)]) (obs := []) (.inl rfl) [.tmp 2] [] rfl (by kernel_rfl) (fun w hs => trivial) (fun w hs => ⟨_, _, [], rfl, ⟨rfl, rfl⟩, hle, hs⟩)
  · rw [if_neg h58] at H
    refine at_seg [0, 1, 2, 3, 4] [5, 6, 7, 8] rfl [(3, .bool false)] [6, 7] (L2 := [(6, .bool false), (7, undef)]) (obs := [fun _ => (.bool (decide ((p54.length : Int) ≤ 300)) : Value) = .bool false]) (by kernel_rfl) ?_ ?_
    · intro w hs; exact congrArg Value.bool (decide_eq_false h58)
    refine at_seg [5, 6, 7, 8] [] rfl [] [2] (L2 := [(2, .bool false)]) (obs := []) (by kernel_rfl) ?_ ?_
    · intro w hs; exact trivial
    refine at_end ?_
    refine at_thn ?_
    refine at_ret ?_
    obtain rfl := Option.some.inj H
    refine at_done (vs := [.bool false]) (obs := []) (.inl rfl) [.tmp 2] [] rfl (by kernel_rfl) (fun w hs => trivial) (fun w hs => ⟨_, _, [], rfl, ⟨rfl, rfl⟩, hle, hs⟩)

/-! ### loop.example/g00146/impl.size[int64]: function 54 -/
def impl_size_int64 (p79 : List Int) : Option Int := some (p79.length : Int)
set_option maxHeartbeats 4000000 in
set_option maxRecDepth 100000 in
theorem impl_size_int64.calls {p79 : List Int} {r : Int} {I0 : Imm} {A80 : Option Addr} {c81 : Nat} (H : impl_size_int64 p79 = some r) (hr82 : Rd (Kd.int .i64) I0 A80 c81 p79) :
    Meets Try.prog 54 ([.slice A80 p79.length c81] : List Value).toArray I0 [] (fun v J M => v = .int .i64 r ∧ M = []) := by
  have hle := ImmLe.refl I0
  unfold impl_size_int64 at H
  refine fn_intro (fn := Try.f54) 5 Try.func54 rfl rfl rfl (fun E Fs => ?_)
  refine at_seq ?_
  refine at_reg [] [0] (L2 := [(0, .slice A80 p79.length c81)]) (obs := []) (by kernel_rfl) ?_ ?_
  · intro w hs; exact trivial
  refine at_thn ?_
  refine at_seq ?_
  refine at_reg [] [2] (L2 := [(2, .int .i64 (p79.length : Int))]) (obs := []) (by kernel_rfl) ?_ ?_
  · intro w hs; exact trivial
  refine at_thn ?_
  refine at_ret ?_
  obtain rfl := Option.some.inj H
  refine at_done (vs := [.int .i64 (p79.length : Int)]) (obs := []) (.inl rfl) [.tmp 2] [] rfl (by kernel_rfl) (fun w hs => trivial) (fun w hs => ⟨_, _, [], rfl, ⟨rfl, rfl⟩, hle, hs⟩)

/-! ### (*loop.example/g00146/impl.Buf).isPlace: function 28 -/
def impl_Buf_isPlace (p74 : T_impl_Buf) (p78 : Int) : Option Bool := (impl_size_int64 p74.Points).bind fun b5 => ((impl_within p78 0 b5).bind fun b6 => (some b6))
set_option maxHeartbeats 4000000 in
set_option maxRecDepth 100000 in
theorem impl_Buf_isPlace.calls {p74 : T_impl_Buf} {p78 : Int} {r : Bool} {I0 : Imm} {g73 : Nat} {A75 : Option Addr} {c76 : Nat} (H : impl_Buf_isPlace p74 p78 = some r) (hr77 : Rd (Kd.int .i64) I0 A75 c76 p74.Points) :
    Meets Try.prog 28 ([.pointer (some ⟨g73, 0, none⟩), .int .i64 p78] : List Value).toArray I0 [[(g73, .cells #[.slice A75 p74.Points.length c76, .int .i64 p74.Cursor, .int .i64 p74.Mark] 25 (0, 0))]] (fun v J M => v = .bool r ∧ M = [[(g73, .cells #[.slice A75 p74.Points.length c76, .int .i64 p74.Cursor, .int .i64 p74.Mark] 25 (0, 0))]]) := by
  have hle := ImmLe.refl I0
  unfold impl_Buf_isPlace at H
  refine fn_intro (fn := Try.f28) 12 Try.func28 rfl rfl rfl (fun E Fs => ?_)
  refine at_seq ?_
  refine at_reg [] [0, 1] (L2 := [(0, .pointer (some ⟨g73, 0, none⟩)), (1, .int .i64 p78)]) (obs := []) (by kernel_rfl) ?_ ?_
  · intro w hs; exact trivial
  refine at_thn ?_
  refine at_seq ?_
  refine at_ops [0, 1, 2, 3, 4, 5, 6, 7] rfl ?_
  refine at_seg [0, 1, 2, 3, 4] [5, 6, 7] rfl [(4, .slice A75 p74.Points.length c76)] [5, 9] (L2 := [(5, .int .i64 p78), (9, .slice A75 p74.Points.length c76)]) (obs := [fun w => w.cell? ⟨g73, 0, none⟩ = some (.slice A75 p74.Points.length c76)]) (by kernel_rfl) ?_ ?_
  · intro w hs; exact hs.var (k := 0) rfl 0 rfl
  refine at_eff rfl rfl ?_
  obtain ⟨b5, H79, H⟩ := bind_some H
  have hm_ := impl_size_int64.calls (I0 := I0) H79 hr77
  refine eff_call rfl rfl ok54 rfl rfl (show Meets Try.prog 54 ([.slice A75 p74.Points.length c76] : List Value).toArray _ [] _ from hm_) (Mr := ([(g73, .cells #[.slice A75 p74.Points.length c76, .int .i64 p74.Cursor, .int .i64 p74.Mark] 25 (0, 0))] :: Fs)) (List.Perm.refl _) (fun v80 J81 M82 hq83 hJ84 => ?_)
  replace hle := hle.trans hJ84
  replace hr77 := hr77.mono hJ84
  obtain ⟨rfl, rfl⟩ := hq83
  refine at_eff rfl rfl ?_
  obtain ⟨b6, H85, H⟩ := bind_some H
  have hm_ := impl_within.calls (I0 := J81) H85
  refine eff_call rfl rfl ok36 rfl rfl (show Meets Try.prog 36 ([.int .i64 p78, .int .i64 0, .int .i64 b5] : List Value).toArray _ [] _ from hm_) (Mr := ([(g73, .cells #[.slice A75 p74.Points.length c76, .int .i64 p74.Cursor, .int .i64 p74.Mark] 25 (0, 0))] :: Fs)) (List.Perm.refl _) (fun v86 J87 M88 hq89 hJ90 => ?_)
  replace hle := hle.trans hJ90
  replace hr77 := hr77.mono hJ90
  obtain ⟨rfl, rfl⟩ := hq89
  refine at_seg [7] [] rfl [] [4] (L2 := [(4, .bool b6)]) (obs := []) (by kernel_rfl) ?_ ?_
  · intro w hs; exact trivial
  refine at_end ?_
  refine at_thn ?_
  refine at_ret ?_
  obtain rfl := Option.some.inj H
  refine at_done (vs := [.bool b6]) (obs := []) (.inl rfl) [.tmp 4] [] rfl (by kernel_rfl) (fun w hs => trivial) (fun w hs => ⟨_, _, [[(g73, .cells #[.slice A75 p74.Points.length c76, .int .i64 p74.Cursor, .int .i64 p74.Mark] 25 (0, 0))]], rfl, ⟨rfl, rfl⟩, hle, hs⟩)

/-! ### loop.example/g00146/impl.BufRight: function 46 -/
def impl_BufRight (k : Nat) (p61 : T_impl_Buf) : Option Bool := (impl_PointsRight k p61.Points).bind fun b4 => (if b4 = true then ((impl_Buf_isPlace p61 p61.Cursor).bind fun b5 => (if b5 = true then ((impl_Buf_isPlace p61 p61.Mark).bind fun b6 => (some b6)) else (some false))) else (some false))
set_option maxHeartbeats 4000000 in
set_option maxRecDepth 100000 in
theorem impl_BufRight.calls {k : Nat} {p61 : T_impl_Buf} {r : Bool} {I0 : Imm} {A62 : Option Addr} {c63 : Nat} (H : impl_BufRight k p61 = some r) (hr64 : Rd (Kd.int .i64) I0 A62 c63 p61.Points) :
    Meets Try.prog 46 ([.agg #[.slice A62 p61.Points.length c63, .int .i64 p61.Cursor, .int .i64 p61.Mark]] : List Value).toArray I0 [] (fun v J M => v = .bool r ∧ M = []) := by
  have hle := ImmLe.refl I0
  unfold impl_BufRight at H
  refine fn_intro (fn := Try.f46) 16 Try.func46 rfl rfl rfl (fun E Fs => ?_)
  refine at_seq ?_
  refine at_ops [0, 1] rfl ?_
  refine at_eff rfl rfl ?_
  refine eff_box rfl rfl rfl #[.slice A62 p61.Points.length c63, .int .i64 p61.Cursor, .int .i64 p61.Mark] rfl (fun g65 => ?_)
  refine at_seg [1] [] rfl [] [1] (L2 := [(1, .pointer (some ⟨g65, 0, none⟩))]) (obs := []) (by kernel_rfl) ?_ ?_
  · intro w hs; exact trivial
  refine at_end ?_
  refine at_thn ?_
  refine at_seq ?_
  refine at_ops [0, 1, 2, 3, 4, 5, 6, 7, 8, 9, 10, 11, 12, 13] rfl ?_
  refine at_seg [0, 1] [2, 3, 4, 5, 6, 7, 8, 9, 10, 11, 12, 13] rfl [(1, .slice A62 p61.Points.length c63)] [1, 4] (L2 := [(1, .pointer (some ⟨g65, 0, none⟩)), (4, .slice A62 p61.Points.length c63)]) (obs := [fun w => w.cell? ⟨g65, 0, none⟩ = some (.slice A62 p61.Points.length c63)]) (by kernel_rfl) ?_ ?_
  · intro w hs; exact hs.var (k := 0) rfl 0 rfl
  refine at_eff rfl rfl ?_
  obtain ⟨b4, H66, H⟩ := bind_some H
  have hm_ := impl_PointsRight.calls (I0 := I0) H66 hr64
  refine eff_call rfl rfl ok45 rfl rfl (show Meets Try.prog 45 ([.slice A62 p61.Points.length c63] : List Value).toArray _ [] _ from hm_) (Mr := ([(g65, .cells #[.slice A62 p61.Points.length c63, .int .i64 p61.Cursor, .int .i64 p61.Mark] 25 (0, 0))] :: Fs)) (List.Perm.refl _) (fun v67 J68 M69 hq70 hJ71 => ?_)
  replace hle := hle.trans hJ71
  replace hr64 := hr64.mono hJ71
  obtain ⟨rfl, rfl⟩ := hq70
  by_cases h72 : b4 = true
  · rw [if_pos h72] at H
    refine at_seg [3, 4, 5] [6, 7, 8, 9, 10, 11, 12, 13] rfl [(3, .bool true), (5, .int .i64 p61.Cursor)] [1, 6, 8] (L2 := [(1, .pointer (some ⟨g65, 0, none⟩)), (6, .bool true), (8, .int .i64 p61.Cursor)]) (obs := [fun _ => (.bool b4 : Value) = .bool true, fun w => w.cell? ⟨g65, 1, none⟩ = some (.int .i64 p61.Cursor)]) (by kernel_rfl) ?_ ?_
    · intro w hs; exact ⟨congrArg Value.bool (h72), hs.var (k := 0) rfl 1 rfl⟩
    refine at_eff rfl rfl ?_
    obtain ⟨b5, H73, H⟩ := bind_some H
    refine eff_call rfl rfl ok28 rfl rfl (show Meets Try.prog 28 ([.pointer (some ⟨g65, 0, none⟩), .int .i64 p61.Cursor] : List Value).toArray _ [[(g65, .cells #[.slice A62 p61.Points.length c63, .int .i64 p61.Cursor, .int .i64 p61.Mark] 25 (0, 0))]] _ from impl_Buf_isPlace.calls H73 hr64) (Mr := (Fs)) (List.Perm.refl _) (fun v74 J75 M76 hq77 hJ78 => ?_)
    replace hle := hle.trans hJ78
    replace hr64 := hr64.mono hJ78
    obtain ⟨rfl, rfl⟩ := hq77
    by_cases h79 : b5 = true
    · rw [if_pos h79] at H
      refine at_seg [7, 8, 9, 10] [11, 12, 13] rfl [(8, .bool true), (10, .int .i64 p61.Mark)] [1, 11, 13] (L2 := [(1, .pointer (some ⟨g65, 0, none⟩)), (11, .bool true), (13, .int .i64 p61.Mark)]) (obs := [fun _ => (.bool b5 : Value) = .bool true, fun w => w.cell? ⟨g65, 2, none⟩ = some (.int .i64 p61.Mark)]) (by kernel_rfl) ?_ ?_
      · intro w hs; exact ⟨congrArg Value.bool (h79), hs.var (k := 0) rfl 2 rfl⟩
      refine at_eff rfl rfl ?_
      obtain ⟨b6, H80, H⟩ := bind_some H
      refine eff_call rfl rfl ok28 rfl rfl (show Meets Try.prog 28 ([.pointer (some ⟨g65, 0, none⟩), .int .i64 p61.Mark] : List Value).toArray _ [[(g65, .cells #[.slice A62 p61.Points.length c63, .int .i64 p61.Cursor, .int .i64 p61.Mark] 25 (0, 0))]] _ from impl_Buf_isPlace.calls H80 hr64) (Mr := (Fs)) (List.Perm.refl _) (fun v81 J82 M83 hq84 hJ85 => ?_)
      replace hle := hle.trans hJ85
      replace hr64 := hr64.mono hJ85
      obtain ⟨rfl, rfl⟩ := hq84
      refine at_seg [12, 13] [] rfl [] [2] (L2 := [(2, .bool b6)]) (obs := []) (by kernel_rfl) ?_ ?_
      · intro w hs; exact trivial
      refine at_end ?_
      refine at_thn ?_
      refine at_ret ?_
      obtain rfl := Option.some.inj H
      refine at_drop (k := 0) rfl rfl ?_
      refine at_eqM (M1 := (Fs)) (M2 := (Fs)) rfl rfl ?_
      refine at_done (vs := [.bool b6]) (obs := []) (.inl rfl) [.tmp 2] [] rfl (by kernel_rfl) (fun w hs => trivial) (fun w hs => ⟨_, _, [], rfl, ⟨rfl, rfl⟩, hle, hs⟩)
    · rw [if_neg h79] at H
      refine at_seg [7, 8, 9, 10] [11, 12, 13] rfl [(8, .bool false)] [1, 11, 13] (L2 := [(1, .pointer (some ⟨g65, 0, none⟩)), (11, .bool false), (13, undef)]) (obs := [fun _ => (.bool b5 : Value) = .bool false]) (by kernel_rfl) ?_ ?_
      · intro w hs; exact congrArg Value.bool (ff_of h79)
      refine at_seg [11, 12, 13] [] rfl [] [2] (L2 := [(2, .bool false)]) (obs := []) (by kernel_rfl) ?_ ?_
      · intro w hs; exact trivial
      refine at_end ?_
      refine at_thn ?_
      refine at_ret ?_
      obtain rfl := Option.some.inj H
      refine at_drop (k := 0) rfl rfl ?_
      refine at_eqM (M1 := (Fs)) (M2 := (Fs)) rfl rfl ?_
      refine at_done (vs := [.bool false]) (obs := []) (.inl rfl) [.tmp 2] [] rfl (by kernel_rfl) (fun w hs => trivial) (fun w hs => ⟨_, _, [], rfl, ⟨rfl, rfl⟩, hle, hs⟩)
  · rw [if_neg h72] at H
    refine at_seg [3, 4, 5] [6, 7, 8, 9, 10, 11, 12, 13] rfl [(3, .bool false)] [1, 6, 8] (L2 := [(1, .pointer (some ⟨g65, 0, none⟩)), (6, .bool false), (8, undef)]) (obs := [fun _ => (.bool b4 : Value) = .bool false]) (by kernel_rfl) ?_ ?_
    · intro w hs; exact congrArg Value.bool (ff_of h72)
    refine at_seg [6, 7, 8, 9, 10] [11, 12, 13] rfl [] [1, 11, 13] (L2 := [(1, .pointer (some ⟨g65, 0, none⟩)), (11, .bool false), (13, undef)]) (obs := []) (by kernel_rfl) ?_ ?_
    · intro w hs; exact trivial
    refine at_seg [11, 12, 13] [] rfl [] [2] (L2 := [(2, .bool false)]) (obs := []) (by kernel_rfl) ?_ ?_
    · intro w hs; exact trivial
    refine at_end ?_
    refine at_thn ?_
    refine at_ret ?_
    obtain rfl := Option.some.inj H
    refine at_drop (k := 0) rfl rfl ?_
    refine at_eqM (M1 := (Fs)) (M2 := (Fs)) rfl rfl ?_
    refine at_done (vs := [.bool false]) (obs := []) (.inl rfl) [.tmp 2] [] rfl (by kernel_rfl) (fun w hs => trivial) (fun w hs => ⟨_, _, [], rfl, ⟨rfl, rfl⟩, hle, hs⟩)

/-! ### loop.example/g00146/impl.isCols: function 38 -/
def impl_isCols (p68 : Int) : Option Bool := (impl_within p68 2 80).bind fun b5 => (some b5)
set_option maxHeartbeats 4000000 in
set_option maxRecDepth 100000 in
theorem impl_isCols.calls {p68 : Int} {r : Bool} {I0 : Imm} (H : impl_isCols p68 = some r) :
    Meets Try.prog 38 ([.int .i64 p68] : List Value).toArray I0 [] (fun v J M => v = .bool r ∧ M = []) := by
  have hle := ImmLe.refl I0
  unfold impl_isCols at H
  refine fn_intro (fn := Try.f38) 5 Try.func38 rfl rfl rfl (fun E Fs => ?_)
  refine at_seq ?_
  refine at_reg [] [0] (L2 := [(0, .int .i64 p68)]) (obs := []) (by kernel_rfl) ?_ ?_
  · intro w hs; exact trivial
  refine at_thn ?_
  refine at_seq ?_
  refine at_ops [0, 1, 2] rfl ?_
  refine at_seg [0] [1, 2] rfl [] [3] (L2 := [(3, .int .i64 p68)]) (obs := []) (by kernel_rfl) ?_ ?_
  · intro w hs; exact trivial
  refine at_eff rfl rfl ?_
  obtain ⟨b5, H69, H⟩ := bind_some H
  have hm_ := impl_within.calls (I0 := I0) H69
  refine eff_call rfl rfl ok36 rfl rfl (show Meets Try.prog 36 ([.int .i64 p68, .int .i64 2, .int .i64 80] : List Value).toArray _ [] _ from hm_) (Mr := (Fs)) (List.Perm.refl _) (fun v70 J71 M72 hq73 hJ74 => ?_)
  replace hle := hle.trans hJ74
  obtain ⟨rfl, rfl⟩ := hq73
  refine at_seg [2] [] rfl [] [2] (L2 := [(2, .bool b5)]) (obs := []) (by kernel_rfl) ?_ ?_
  · intro w hs; exact trivial
  refine at_end ?_
  refine at_thn ?_
  refine at_ret ?_
  obtain rfl := Option.some.inj H
  refine at_done (vs := [.bool b5]) (obs := []) (.inl rfl) [.tmp 2] [] rfl (by kernel_rfl) (fun w hs => trivial) (fun w hs => ⟨_, _, [], rfl, ⟨rfl, rfl⟩, hle, hs⟩)

/-! ### loop.example/g00146/impl.isViewed: function 21 -/
def impl_isViewed (k : Nat) (p44 : List Int) (p48 : T_impl_Buf) (p52 : Int) : Option Bool := (impl_PointsRight k p44).bind fun b3 => (if b3 = true then ((impl_BufRight k p48).bind fun b4 => (if b4 = true then ((impl_isCols p52).bind fun b5 => (some b5)) else (some false))) else (some false))
set_option maxHeartbeats 4000000 in
set_option maxRecDepth 100000 in
theorem impl_isViewed.calls {k : Nat} {p44 : List Int} {p48 : T_impl_Buf} {p52 : Int} {r : Bool} {I0 : Imm} {A45 : Option Addr} {c46 : Nat} {A49 : Option Addr} {c50 : Nat} (H : impl_isViewed k p44 p48 p52 = some r) (hr47 : Rd (Kd.int .i64) I0 A45 c46 p44) (hr51 : Rd (Kd.int .i64) I0 A49 c50 p48.Points) :
    Meets Try.prog 21 ([.slice A45 p44.length c46, .agg #[.slice A49 p48.Points.length c50, .int .i64 p48.Cursor, .int .i64 p48.Mark], .int .i64 p52] : List Value).toArray I0 [] (fun v J M => v = .bool r ∧ M = []) := by
  have hle := ImmLe.refl I0
  unfold impl_isViewed at H
  refine fn_intro (fn := Try.f21) 17 Try.func21 rfl rfl rfl (fun E Fs => ?_)
  refine at_seq ?_
  refine at_ops [0, 1] rfl ?_
  refine at_eff rfl rfl ?_
  refine eff_box rfl rfl rfl #[.slice A49 p48.Points.length c50, .int .i64 p48.Cursor, .int .i64 p48.Mark] rfl (fun g53 => ?_)
  refine at_seg [1] [] rfl [] [0, 2, 4] (L2 := [(0, .slice A45 p44.length c46), (2, .int .i64 p52), (4, .pointer (some ⟨g53, 0, none⟩))]) (obs := []) (by kernel_rfl) ?_ ?_
  · intro w hs; exact trivial
  refine at_end ?_
  refine at_thn ?_
  refine at_seq ?_
  refine at_ops [0, 1, 2, 3, 4, 5, 6, 7, 8, 9, 10] rfl ?_
  refine at_seg [0] [1, 2, 3, 4, 5, 6, 7, 8, 9, 10] rfl [] [2, 4, 7] (L2 := [(2, .int .i64 p52), (4, .pointer (some ⟨g53, 0, none⟩)), (7, .slice A45 p44.length c46)]) (obs := []) (by kernel_rfl) ?_ ?_
  · intro w hs; exact trivial
  refine at_eff rfl rfl ?_
  obtain ⟨b3, H54, H⟩ := bind_some H
  have hm_ := impl_PointsRight.calls (I0 := I0) H54 hr47
  refine eff_call rfl rfl ok45 rfl rfl (show Meets Try.prog 45 ([.slice A45 p44.length c46] : List Value).toArray _ [] _ from hm_) (Mr := ([(g53, .cells #[.slice A49 p48.Points.length c50, .int .i64 p48.Cursor, .int .i64 p48.Mark] 25 (0, 0))] :: Fs)) (List.Perm.refl _) (fun v55 J56 M57 hq58 hJ59 => ?_)
  replace hle := hle.trans hJ59
  replace hr47 := hr47.mono hJ59
  replace hr51 := hr51.mono hJ59
  obtain ⟨rfl, rfl⟩ := hq58
  by_cases h60 : b3 = true
  · rw [if_pos h60] at H
    refine at_seg [2, 3] [4, 5, 6, 7, 8, 9, 10] rfl [(2, .bool true), (3, .agg #[.slice A49 p48.Points.length c50, .int .i64 p48.Cursor, .int .i64 p48.Mark])] [2, 9, 10] (L2 := [(2, .int .i64 p52), (9, .bool true), (10, .agg #[.slice A49 p48.Points.length c50, .int .i64 p48.Cursor, .int .i64 p48.Mark])]) (obs := [fun _ => (.bool b3 : Value) = .bool true, fun w => CellsAt w ⟨g53, 0, none⟩ [.slice A49 p48.Points.length c50, .int .i64 p48.Cursor, .int .i64 p48.Mark] 0]) (by kernel_rfl) ?_ ?_
    · intro w hs; exact ⟨congrArg Value.bool (h60), cellsV (k := 0) hs rfl _ 0 (Nat.le_of_ble_eq_true (by kernel_rfl)) rfl⟩
    refine at_eff rfl rfl ?_
    obtain ⟨b4, H61, H⟩ := bind_some H
    have hm_ := impl_BufRight.calls (I0 := J56) H61 hr51
    refine eff_call rfl rfl ok46 rfl rfl (show Meets Try.prog 46 ([.agg #[.slice A49 p48.Points.length c50, .int .i64 p48.Cursor, .int .i64 p48.Mark]] : List Value).toArray _ [] _ from hm_) (Mr := ([(g53, .cells #[.slice A49 p48.Points.length c50, .int .i64 p48.Cursor, .int .i64 p48.Mark] 25 (0, 0))] :: Fs)) (List.Perm.refl _) (fun v62 J63 M64 hq65 hJ66 => ?_)
    replace hle := hle.trans hJ66
    replace hr51 := hr51.mono hJ66
    obtain ⟨rfl, rfl⟩ := hq65
    by_cases h67 : b4 = true
    · rw [if_pos h67] at H
      refine at_seg [5, 6, 7] [8, 9, 10] rfl [(6, .bool true)] [13, 14] (L2 := [(13, .bool true), (14, .int .i64 p52)]) (obs := [fun _ => (.bool b4 : Value) = .bool true]) (by kernel_rfl) ?_ ?_
      · intro w hs; exact congrArg Value.bool (h67)
      refine at_eff rfl rfl ?_
      obtain ⟨b5, H68, H⟩ := bind_some H
      have hm_ := impl_isCols.calls (I0 := J63) H68
      refine eff_call rfl rfl ok38 rfl rfl (show Meets Try.prog 38 ([.int .i64 p52] : List Value).toArray _ [] _ from hm_) (Mr := ([(g53, .cells #[.slice A49 p48.Points.length c50, .int .i64 p48.Cursor, .int .i64 p48.Mark] 25 (0, 0))] :: Fs)) (List.Perm.refl _) (fun v69 J70 M71 hq72 hJ73 => ?_)
      replace hle := hle.trans hJ73
      replace hr51 := hr51.mono hJ73
      obtain ⟨rfl, rfl⟩ := hq72
      refine at_seg [9, 10] [] rfl [] [6] (L2 := [(6, .bool b5)]) (obs := []) (by kernel_rfl) ?_ ?_
      · intro w hs; exact trivial
      refine at_end ?_
      refine at_thn ?_
      refine at_ret ?_
      obtain rfl := Option.some.inj H
      refine at_drop (k := 0) rfl rfl ?_
      refine at_eqM (M1 := (Fs)) (M2 := (Fs)) rfl rfl ?_
      refine at_done (vs := [.bool b5]) (obs := []) (.inl rfl) [.tmp 6] [] rfl (by kernel_rfl) (fun w hs => trivial) (fun w hs => ⟨_, _, [], rfl, ⟨rfl, rfl⟩, hle, hs⟩)
    · rw [if_neg h67] at H
      refine at_seg [5, 6, 7] [8, 9, 10] rfl [(6, .bool false)] [13, 14] (L2 := [(13, .bool false), (14, undef)]) (obs := [fun _ => (.bool b4 : Value) = .bool false]) (by kernel_rfl) ?_ ?_
      · intro w hs; exact congrArg Value.bool (ff_of h67)
      refine at_seg [8, 9, 10] [] rfl [] [6] (L2 := [(6, .bool false)]) (obs := []) (by kernel_rfl) ?_ ?_
      · intro w hs; exact trivial
      refine at_end ?_
      refine at_thn ?_
      refine at_ret ?_
      obtain rfl := Option.some.inj H
      refine at_drop (k := 0) rfl rfl ?_
      refine at_eqM (M1 := (Fs)) (M2 := (Fs)) rfl rfl ?_
      refine at_done (vs := [.bool false]) (obs := []) (.inl rfl) [.tmp 6] [] rfl (by kernel_rfl) (fun w hs => trivial) (fun w hs => ⟨_, _, [], rfl, ⟨rfl, rfl⟩, hle, hs⟩)
  · rw [if_neg h60] at H
    refine at_seg [2, 3] [4, 5, 6, 7, 8, 9, 10] rfl [(2, .bool false)] [2, 9, 10] (L2 := [(2, .int .i64 p52), (9, .bool false), (10, undef)]) (obs := [fun _ => (.bool b3 : Value) = .bool false]) (by kernel_rfl) ?_ ?_
    · intro w hs; exact congrArg Value.bool (ff_of h60)
    refine at_seg [4, 5, 6, 7] [8, 9, 10] rfl [] [13, 14] (L2 := [(13, .bool false), (14, undef)]) (obs := []) (by kernel_rfl) ?_ ?_
    · intro w hs; exact trivial
    refine at_seg [8, 9, 10] [] rfl [] [6] (L2 := [(6, .bool false)]) (obs := []) (by kernel_rfl) ?_ ?_
    · intro w hs; exact trivial
    refine at_end ?_
    refine at_thn ?_
    refine at_ret ?_
    obtain rfl := Option.some.inj H
    refine at_drop (k := 0) rfl rfl ?_
    refine at_eqM (M1 := (Fs)) (M2 := (Fs)) rfl rfl ?_
    refine at_done (vs := [.bool false]) (obs := []) (.inl rfl) [.tmp 6] [] rfl (by kernel_rfl) (fun w hs => trivial) (fun w hs => ⟨_, _, [], rfl, ⟨rfl, rfl⟩, hle, hs⟩)

/-! ### (*loop.example/g00146/impl.layout).next: function 64 -/
def impl_layout_next (p79 : T_impl_layout) : Option T_impl_layout := some (⟨p79.cols, IntKind.i64.wrap (p79.row + 1), 0, p79.cells, false, p79.spots⟩ : T_impl_layout)
set_option maxHeartbeats 4000000 in
set_option maxRecDepth 100000 in
theorem impl_layout_next.calls {p79 : T_impl_layout} {r : T_impl_layout} {I0 : Imm} {g78 : Nat} {A80 : Option Addr} {c81 : Nat} {s82 : Seg} {A84 : Option Addr} {c85 : Nat} {s86 : Seg} (H : impl_layout_next p79 = some r) (ho83 : DOwn d_impl_seen 74 I0 A80 c81 p79.cells s82) (ho87 : Own k_impl_Spot 31 I0 A84 c85 p79.spots s86) :
    Meets Try.prog 64 ([.pointer (some ⟨g78, 0, none⟩)] : List Value).toArray I0 [[(g78, .cells #[.int .i64 p79.cols, .int .i64 p79.row, .int .i64 p79.col, .slice A80 p79.cells.length c81, .bool p79.inRow, .slice A84 p79.spots.length c85] 63 (0, 0))], s82, s86] (fun v J M => ∃ (A_1 : Option Addr) (c_2 : Nat) (s_3 : Seg) (A_4 : Option Addr) (c_5 : Nat) (s_6 : Seg), v = .tuple #[] ∧ M = [[(g78, .cells #[.int .i64 r.cols, .int .i64 r.row, .int .i64 r.col, .slice A_1 r.cells.length c_2, .bool r.inRow, .slice A_4 r.spots.length c_5] 63 (0, 0))], s_3, s_6] ∧ DOwn d_impl_seen 74 J A_1 c_2 r.cells s_3 ∧ Own k_impl_Spot 31 J A_4 c_5 r.spots s_6) := by
  have hle := ImmLe.refl I0
  unfold impl_layout_next at H
  refine fn_intro (fn := Try.f64) 15 Try.func64 rfl rfl rfl (fun E Fs => ?_)
  refine at_seq ?_
  refine at_ops [0, 1, 2, 3, 4, 5, 6, 7] rfl ?_
  refine at_seg [0, 1, 2, 3, 4, 5, 6] [7] rfl [(3, .int .i64 p79.row)] [0, 6, 8] (L2 := [(0, .pointer (some ⟨g78, 0, none⟩)), (6, .int .i64 (IntKind.i64.wrap (p79.row + 1))), (8, .pointer (some ⟨g78, 1, none⟩))]) (obs := [fun w => w.cell? ⟨g78, 1, none⟩ = some (.int .i64 p79.row)]) (by kernel_rfl) ?_ ?_
  · intro w hs; exact hs.var (k := 0) rfl 1 rfl
  refine at_eff rfl rfl ?_
  refine eff_store 0 rfl rfl rfl rfl rfl rfl (.inl (Nat.le_refl _)) rfl (Nat.le_of_ble_eq_true (by kernel_rfl)) rfl ?_
  refine at_eqM (M1 := ([(g78, .cells #[.int .i64 p79.cols, .int .i64 (IntKind.i64.wrap (p79.row + 1)), .int .i64 p79.col, .slice A80 p79.cells.length c81, .bool p79.inRow, .slice A84 p79.spots.length c85] 63 (0, 0))] :: s82 :: s86 :: Fs)) (M2 := ([(g78, .cells #[.int .i64 p79.cols, .int .i64 (IntKind.i64.wrap (p79.row + 1)), .int .i64 p79.col, .slice A80 p79.cells.length c81, .bool p79.inRow, .slice A84 p79.spots.length c85] 63 (0, 0))] :: s82 :: s86 :: Fs)) rfl rfl ?_
  refine at_end ?_
  refine at_thn ?_
  refine at_ops [0, 1, 2, 3, 4, 5, 6, 7] rfl ?_
  refine at_seg [0, 1, 2, 3] [4, 5, 6, 7] rfl [] [10, 12] (L2 := [(10, .pointer (some ⟨g78, 0, none⟩)), (12, .pointer (some ⟨g78, 2, none⟩))]) (obs := []) (by kernel_rfl) ?_ ?_
  · intro w hs; exact trivial
  refine at_eff rfl rfl ?_
  refine eff_store 0 rfl rfl rfl rfl rfl rfl (.inl (Nat.le_refl _)) rfl (Nat.le_of_ble_eq_true (by kernel_rfl)) rfl ?_
  refine at_eqM (M1 := ([(g78, .cells #[.int .i64 p79.cols, .int .i64 (IntKind.i64.wrap (p79.row + 1)), .int .i64 0, .slice A80 p79.cells.length c81, .bool p79.inRow, .slice A84 p79.spots.length c85] 63 (0, 0))] :: s82 :: s86 :: Fs)) (M2 := ([(g78, .cells #[.int .i64 p79.cols, .int .i64 (IntKind.i64.wrap (p79.row + 1)), .int .i64 0, .slice A80 p79.cells.length c81, .bool p79.inRow, .slice A84 p79.spots.length c85] 63 (0, 0))] :: s82 :: s86 :: Fs)) rfl rfl ?_
  refine at_seg [5, 6] [7] rfl [] [14] (L2 := [(14, .pointer (some ⟨g78, 4, none⟩))]) (obs := []) (by kernel_rfl) ?_ ?_
  · intro w hs; exact trivial
  refine at_eff rfl rfl ?_
  refine eff_store 0 rfl rfl rfl rfl rfl rfl (.inl (Nat.le_refl _)) rfl (Nat.le_of_ble_eq_true (by kernel_rfl)) rfl ?_
  refine at_eqM (M1 := ([(g78, .cells #[.int .i64 p79.cols, .int .i64 (IntKind.i64.wrap (p79.row + 1)), .int .i64 0, .slice A80 p79.cells.length c81, .bool false, .slice A84 p79.spots.length c85] 63 (0, 0))] :: s82 :: s86 :: Fs)) (M2 := ([(g78, .cells #[.int .i64 p79.cols, .int .i64 (IntKind.i64.wrap (p79.row + 1)), .int .i64 0, .slice A80 p79.cells.length c81, .bool false, .slice A84 p79.spots.length c85] 63 (0, 0))] :: s82 :: s86 :: Fs)) rfl rfl ?_
  refine at_end ?_
  obtain rfl := Option.some.inj H
  refine at_done (vs := []) (obs := []) (.inr rfl) [] [] rfl (by kernel_rfl) (fun w hs => trivial) (fun w hs => ⟨_, _, [[(g78, .cells #[.int .i64 p79.cols, .int .i64 (IntKind.i64.wrap (p79.row + 1)), .int .i64 0, .slice A80 p79.cells.length c81, .bool false, .slice A84 p79.spots.length c85] 63 (0, 0))], s82, s86], rfl, ⟨A80, c81, s82, A84, c85, s86, rfl, rfl, ho83, ho87⟩, hle, hs⟩)

/-! ### loop.example/g00146/impl.isControl: function 57 -/
def impl_isControl (p93 : Int) : Option Bool := if p93 < 32 then (some true) else (some (p93 == 127))
set_option maxHeartbeats 4000000 in
set_option maxRecDepth 100000 in
theorem impl_isControl.calls {p93 : Int} {r : Bool} {I0 : Imm} (H : impl_isControl p93 = some r) :
    Meets Try.prog 57 ([.int .i64 p93] : List Value).toArray I0 [] (fun v J M => v = .bool r ∧ M = []) := by
  have hle := ImmLe.refl I0
  unfold impl_isControl at H
  refine fn_intro (fn := Try.f57) 9 Try.func57 rfl rfl rfl (fun E Fs => ?_)
  refine at_seq ?_
  refine at_reg [] [0] (L2 := [(0, .int .i64 p93)]) (obs := []) (by kernel_rfl) ?_ ?_
  · intro w hs; exact trivial
  refine at_thn ?_
  refine at_seq ?_
  by_cases h94 : p93 < 32
  · rw [if_pos h94] at H
    refine at_reg [(2, .bool true)] [2] (L2 := [(2, .bool true)]) (obs := [fun _ => (.bool (decide (p93 < 32)) : Value) = .bool true]) (by kernel_rfl) ?_ ?_
    · intro w hs; exact congrArg Value.bool (decide_eq_true h94)
    refine at_thn ?_
    refine at_ret ?_
    obtain rfl := Option.some.inj H
    refine at_done (vs := [.bool true]) (obs := []) (.inl rfl) [.tmp 2] [] rfl (by kernel_rfl) (fun w hs => trivial) (fun w hs => ⟨_, _, [], rfl, ⟨rfl, rfl⟩, hle, hs⟩)
  · rw [if_neg h94] at H
    refine at_reg [(2, .bool false)] [2] (L2 := [(2, .bool (p93 == 127))]) (obs := [fun _ => (.bool (decide (p93 < 32)) : Value) = .bool false]) (by kernel_rfl) ?_ ?_
    · intro w hs; exact congrArg Value.bool (decide_eq_false h94)
    refine at_thn ?_
    refine at_ret ?_
    obtain rfl := Option.some.inj H
    refine at_done (vs := [.bool (p93 == 127)]) (obs := []) (.inl rfl) [.tmp 2] [] rfl (by kernel_rfl) (fun w hs => trivial) (fun w hs => ⟨_, _, [], rfl, ⟨rfl, rfl⟩, hle, hs⟩)
end Go.Proofs.Ytnhnipdanpcbeaa
