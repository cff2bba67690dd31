import Derived.Test.YtocfakbgefdgkaaG2
namespace Go.Proofs.Ytocfakbgefdgkaa
open Go Eng
set_option linter.unusedVariables false
set_option linter.unusedSimpArgs false
/-! ### (*loop.example/g00146/spec.l01Src).l09Cols: function 33 -/
def spec_l01Src_l09Cols (k : Nat) (p49 : T_spec_l01Src) : Option (Int × T_spec_l01Src) := (spec_l01Src_one k p49 15).bind fun b4 => (if b4.1 = true then ((spec_l01Src_n k b4.2 4).bind fun b5 => (if 0 ≤ b5.1 then (if b5.1 < (([1, 2, 80, 81] : List Int).length : Int) then (some (rdA 0 ([1, 2, 80, 81] : List Int) b5.1, b5.2)) else none) else none)) else ((spec_l01Src_n k b4.2 12).bind fun b6 => (some (IntKind.i64.wrap (2 + b6.1), b6.2))))
set_option maxHeartbeats 4000000 in
set_option maxRecDepth 100000 in
theorem spec_l01Src_l09Cols.calls {k : Nat} {p49 : T_spec_l01Src} {r : Int × T_spec_l01Src} {I0 : Imm} {g48 : Nat} {A50 : Option Addr} {c51 : Nat} (H : spec_l01Src_l09Cols k p49 = some r) (hr52 : Rd (Kd.int .u8) I0 A50 c51 p49.b) :
    Meets Try.prog 33 ([.pointer (some ⟨g48, 0, none⟩)] : List Value).toArray I0 [[(g48, .cells #[.slice A50 p49.b.length c51, .int .i64 p49.at_, .int .u64 p49.mix, .int .i64 p49.size] 82 (0, 0))]] (fun v J M => ∃ (A_1 : Option Addr) (c_2 : Nat), v = .int .i64 r.1 ∧ M = [[(g48, .cells #[.slice A_1 r.2.b.length c_2, .int .i64 r.2.at_, .int .u64 r.2.mix, .int .i64 r.2.size] 82 (0, 0))]] ∧ Rd (Kd.int .u8) J A_1 c_2 r.2.b) := by
  have hle := ImmLe.refl I0
  unfold spec_l01Src_l09Cols at H
  refine fn_intro (fn := Try.f33) 13 Try.func33 rfl rfl rfl (fun E Fs => ?_)
  refine at_seq ?_
  refine at_reg [] [0] (L2 := [(0, .pointer (some ⟨g48, 0, none⟩))]) (obs := []) (by kernel_rfl) ?_ ?_
  · intro w hs; exact trivial
  refine at_thn ?_
  refine at_seq ?_
  refine at_seq ?_
  refine at_ops [0, 1] rfl ?_
  refine at_seg [0] [1] rfl [] [0, 3] (L2 := [(0, .pointer (some ⟨g48, 0, none⟩)), (3, .pointer (some ⟨g48, 0, none⟩))]) (obs := []) (by kernel_rfl) ?_ ?_
  · intro w hs; exact trivial
  refine at_eff rfl rfl ?_
  obtain ⟨b4, H53, H⟩ := bind_some H
  refine eff_call rfl rfl ok64 rfl rfl (show Meets Try.prog 64 ([.pointer (some ⟨g48, 0, none⟩), .int .i64 15] : List Value).toArray _ [[(g48, .cells #[.slice A50 p49.b.length c51, .int .i64 p49.at_, .int .u64 p49.mix, .int .i64 p49.size] 82 (0, 0))]] _ from spec_l01Src_one.calls H53 hr52) (Mr := (Fs)) (List.Perm.refl _) (fun v54 J55 M56 hq57 hJ58 => ?_)
  replace hle := hle.trans hJ58
  replace hr52 := hr52.mono hJ58
  obtain ⟨A59, c60, rfl, rfl, hr61⟩ := hq57
  refine at_end ?_
  refine at_thn ?_
  by_cases h62 : b4.1 = true
  · rw [if_pos h62] at H
    refine at_cond_t rfl (h62) ?_
    refine at_seq ?_
    refine at_ops [0, 1, 2, 3, 4, 5] rfl ?_
    refine at_eff rfl rfl ?_
    refine eff_buildSlice (e := 2) (cells := #[.int .i64 1, .int .i64 2, .int .i64 80, .int .i64 81]) ([1, 2, 80, 81] : List Int).length rfl rfl rfl (by kernel_rfl) (fun g63 => ?_)
    have ho64 := own_lit (K := (Kd.int .i64)) (e := 2) (I := J55) (xs := ([1, 2, 80, 81] : List Int)) (css := [[.int .i64 1], [.int .i64 2], [.int .i64 80], [.int .i64 81]]) (cells := #[.int .i64 1, .int .i64 2, .int .i64 80, .int .i64 81]) (b := g63) ⟨rfl, ⟨rfl, ⟨rfl, ⟨rfl, trivial⟩⟩⟩⟩ rfl
    refine at_seg [1] [2, 3, 4, 5] rfl [] [5, 6] (L2 := [(5, .slice (some ⟨g63, 0, none⟩ : Option Addr) ([1, 2, 80, 81] : List Int).length (([1, 2, 80, 81] : List Int).length)), (6, .pointer (some ⟨g48, 0, none⟩))]) (obs := []) (by kernel_rfl) ?_ ?_
    · intro w hs; exact trivial
    refine at_eff rfl rfl ?_
    obtain ⟨b5, H65, H⟩ := bind_some H
    refine eff_call rfl rfl ok63 rfl rfl (show Meets Try.prog 63 ([.pointer (some ⟨g48, 0, none⟩), .int .i64 4] : List Value).toArray _ [[(g48, .cells #[.slice A59 b4.2.b.length c60, .int .i64 b4.2.at_, .int .u64 b4.2.mix, .int .i64 b4.2.size] 82 (0, 0))]] _ from spec_l01Src_n.calls H65 hr61) (Mr := ([(g63, .cells #[.int .i64 1, .int .i64 2, .int .i64 80, .int .i64 81] 2 (0, 0))] :: Fs)) ((perm_at (k := 1) rfl).trans ((List.Perm.refl _).cons _)) (fun v66 J67 M68 hq69 hJ70 => ?_)
    replace hle := hle.trans hJ70
    replace ho64 := ho64.mono hJ70
    replace hr61 := hr61.mono hJ70
    obtain ⟨A71, c72, rfl, rfl, hr73⟩ := hq69
    obtain ⟨h74, H⟩ := ite_some H
    obtain ⟨h75, H⟩ := ite_some H
    refine at_seg [3, 4, 5] [] rfl [(4, .int .i64 (rdA 0 ([1, 2, 80, 81] : List Int) b5.1))] [2] (L2 := [(2, .int .i64 (rdA 0 ([1, 2, 80, 81] : List Int) b5.1))]) (obs := [fun _ => (some ⟨g63, 0, none⟩ : Option Addr).isSome = true ∧ 0 ≤ b5.1 ∧ b5.1 < ((([1, 2, 80, 81] : List Int).length : Nat) : Int), fun w => w.cell? (((some ⟨g63, 0, none⟩ : Option Addr).getD ad0).add (b5.1.toNat * 1)) = some (.int .i64 (rdA 0 ([1, 2, 80, 81] : List Int) b5.1))]) (by kernel_rfl) ?_ ?_
    · intro w hs; exact ⟨⟨ho64.ne b5.1 h74 h75, h74, h75⟩, ho64.one 0 b5.1 h74 h75 hs (k := 1) rfl⟩
    refine at_end ?_
    refine at_thn ?_
    refine at_ret ?_
    refine at_then_ret ?_
    obtain rfl := Option.some.inj H
    refine at_drop (k := 1) rfl rfl ?_
    refine at_done (vs := [.int .i64 (rdA 0 ([1, 2, 80, 81] : List Int) b5.1)]) (obs := []) (.inl rfl) [.tmp 2] [] rfl (by kernel_rfl) (fun w hs => trivial) (fun w hs => ⟨_, _, [[(g48, .cells #[.slice A71 b5.2.b.length c72, .int .i64 b5.2.at_, .int .u64 b5.2.mix, .int .i64 b5.2.size] 82 (0, 0))]], rfl, ⟨A71, c72, rfl, rfl, hr73⟩, hle, hs⟩)
  · rw [if_neg h62] at H
    refine at_cond_f rfl (ff_of h62) ?_
    refine at_skip ?_
    refine at_thn ?_
    refine at_seq ?_
    refine at_ops [0, 1, 2, 3] rfl ?_
    refine at_seg [0] [1, 2, 3] rfl [] [10] (L2 := [(10, .pointer (some ⟨g48, 0, none⟩))]) (obs := []) (by kernel_rfl) ?_ ?_
    · intro w hs; exact trivial
    refine at_eff rfl rfl ?_
    obtain ⟨b6, H76, H⟩ := bind_some H
    refine eff_call rfl rfl ok63 rfl rfl (show Meets Try.prog 63 ([.pointer (some ⟨g48, 0, none⟩), .int .i64 12] : List Value).toArray _ [[(g48, .cells #[.slice A59 b4.2.b.length c60, .int .i64 b4.2.at_, .int .u64 b4.2.mix, .int .i64 b4.2.size] 82 (0, 0))]] _ from spec_l01Src_n.calls H76 hr61) (Mr := (Fs)) (List.Perm.refl _) (fun v77 J78 M79 hq80 hJ81 => ?_)
    replace hle := hle.trans hJ81
    replace hr61 := hr61.mono hJ81
    obtain ⟨A82, c83, rfl, rfl, hr84⟩ := hq80
    refine at_seg [2, 3] [] rfl [] [2] (L2 := [(2, .int .i64 (IntKind.i64.wrap (2 + b6.1)))]) (obs := []) (by kernel_rfl) ?_ ?_
    · intro w hs; exact trivial
    refine at_end ?_
    refine at_thn ?_
    refine at_ret ?_
    obtain rfl := Option.some.inj H
    refine at_done (vs := [.int .i64 (IntKind.i64.wrap (2 + b6.1))]) (obs := []) (.inl rfl) [.tmp 2] [] rfl (by kernel_rfl) (fun w hs => trivial) (fun w hs => ⟨_, _, [[(g48, .cells #[.slice A82 b6.2.b.length c83, .int .i64 b6.2.at_, .int .u64 b6.2.mix, .int .i64 b6.2.size] 82 (0, 0))]], rfl, ⟨A82, c83, rfl, rfl, hr84⟩, hle, hs⟩)

/-! ### loop.example/g00146/spec.DrawViewRows: function 6 -/
def spec_DrawViewRows (k : Nat) (p6 : List Int) : Option ((List Int) × T_impl_Buf × Int) := (spec_l01Source k p6).bind fun b1 => ((spec_l01Src_l09Prompt k b1).bind fun b2 => ((spec_l01Src_l02Buf k b2.2).bind fun b3 => ((spec_l01Src_l09Cols k b3.2).bind fun b4 => (some (b2.1, b3.1, b4.1)))))
set_option maxHeartbeats 4000000 in
set_option maxRecDepth 100000 in
theorem spec_DrawViewRows.calls {k : Nat} {p6 : List Int} {r : (List Int) × T_impl_Buf × Int} {I0 : Imm} {A7 : Option Addr} {c8 : Nat} (H : spec_DrawViewRows k p6 = some r) (hr9 : Rd (Kd.int .u8) I0 A7 c8 p6) :
    Meets Try.prog 6 ([.slice A7 p6.length c8] : List Value).toArray I0 [] (fun v J M => ∃ (A_1 : Option Addr) (c_2 : Nat) (s_3 : Seg) (A_4 : Option Addr) (c_5 : Nat) (s_6 : Seg), v = .tuple #[.slice A_1 r.1.length c_2, .agg #[.slice A_4 r.2.1.Points.length c_5, .int .i64 r.2.1.Cursor, .int .i64 r.2.1.Mark], .int .i64 r.2.2] ∧ M = [s_3, s_6] ∧ Own (Kd.int .i64) 2 J A_1 c_2 r.1 s_3 ∧ Own (Kd.int .i64) 2 J A_4 c_5 r.2.1.Points s_6) := by
  have hle := ImmLe.refl I0
  unfold spec_DrawViewRows at H
  refine fn_intro (fn := Try.f6) 18 Try.func6 rfl rfl rfl (fun E Fs => ?_)
  refine at_seq ?_
  refine at_ops [0, 1, 2] rfl ?_
  refine at_seg [0] [1, 2] rfl [] [0] (L2 := [(0, .slice A7 p6.length c8)]) (obs := []) (by kernel_rfl) ?_ ?_
  · intro w hs; exact trivial
  refine at_eff rfl rfl ?_
  obtain ⟨i_, hi_, hz_, _, _⟩ := info25
  refine eff_alloc rfl rfl hi_ hz_ #[.slice none ([] : List Int).length 0, .int .i64 0, .int .i64 0] rfl (fun g10 => ?_)
  refine at_seg [2] [] rfl [] [0, 3] (L2 := [(0, .slice A7 p6.length c8), (3, .pointer (some ⟨g10, 0, none⟩))]) (obs := []) (by kernel_rfl) ?_ ?_
  · intro w hs; exact trivial
  refine at_end ?_
  refine at_thn ?_
  refine at_seq ?_
  refine at_ops [0, 1, 2] rfl ?_
  refine at_seg [0] [1, 2] rfl [] [3, 8] (L2 := [(3, .pointer (some ⟨g10, 0, none⟩)), (8, .slice A7 p6.length c8)]) (obs := []) (by kernel_rfl) ?_ ?_
  · intro w hs; exact trivial
  refine at_eff rfl rfl ?_
  obtain ⟨b1, H11, H⟩ := bind_some H
  have hm_ := spec_l01Source.calls (I0 := I0) H11 hr9
  refine eff_call rfl rfl ok30 rfl rfl (show Meets Try.prog 30 ([.slice A7 p6.length c8] : List Value).toArray _ [] _ from hm_) (Mr := ([(g10, .cells #[.slice none ([] : List Int).length 0, .int .i64 0, .int .i64 0] 25 (0, 0))] :: Fs)) (List.Perm.refl _) (fun v12 J13 M14 hq15 hJ16 => ?_)
  replace hle := hle.trans hJ16
  replace hr9 := hr9.mono hJ16
  obtain ⟨g17, A18, c19, rfl, rfl, hr20⟩ := hq15
  refine at_seg [2] [] rfl [] [3, 5] (L2 := [(3, .pointer (some ⟨g10, 0, none⟩)), (5, .pointer (some ⟨g17, 0, none⟩))]) (obs := []) (by kernel_rfl) ?_ ?_
  · intro w hs; exact trivial
  refine at_end ?_
  refine at_thn ?_
  refine at_seq ?_
  refine at_ops [0, 1, 2] rfl ?_
  refine at_seg [0] [1, 2] rfl [] [3, 5, 10] (L2 := [(3, .pointer (some ⟨g10, 0, none⟩)), (5, .pointer (some ⟨g17, 0, none⟩)), (10, .pointer (some ⟨g17, 0, none⟩))]) (obs := []) (by kernel_rfl) ?_ ?_
  · intro w hs; exact trivial
  refine at_eff rfl rfl ?_
  obtain ⟨b2, H21, H⟩ := bind_some H
  refine eff_call rfl rfl ok31 rfl rfl (show Meets Try.prog 31 ([.pointer (some ⟨g17, 0, none⟩)] : List Value).toArray _ [[(g17, .cells #[.slice A18 b1.b.length c19, .int .i64 b1.at_, .int .u64 b1.mix, .int .i64 b1.size] 82 (0, 0))]] _ from spec_l01Src_l09Prompt.calls H21 hr20) (Mr := ([(g10, .cells #[.slice none ([] : List Int).length 0, .int .i64 0, .int .i64 0] 25 (0, 0))] :: Fs)) (List.Perm.refl _) (fun v22 J23 M24 hq25 hJ26 => ?_)
  replace hle := hle.trans hJ26
  replace hr20 := hr20.mono hJ26
  obtain ⟨A27, c28, s29, A31, c32, rfl, rfl, ho30, hr33⟩ := hq25
  refine at_seg [2] [] rfl [] [3, 5, 6] (L2 := [(3, .pointer (some ⟨g10, 0, none⟩)), (5, .pointer (some ⟨g17, 0, none⟩)), (6, .slice A27 b2.1.length c28)]) (obs := []) (by kernel_rfl) ?_ ?_
  · intro w hs; exact trivial
  refine at_end ?_
  refine at_thn ?_
  refine at_seq ?_
  refine at_ops [0, 1, 2, 3] rfl ?_
  refine at_seg [0] [1, 2, 3] rfl [] [3, 5, 6, 12] (L2 := [(3, .pointer (some ⟨g10, 0, none⟩)), (5, .pointer (some ⟨g17, 0, none⟩)), (6, .slice A27 b2.1.length c28), (12, .pointer (some ⟨g17, 0, none⟩))]) (obs := []) (by kernel_rfl) ?_ ?_
  · intro w hs; exact trivial
  refine at_eff rfl rfl ?_
  obtain ⟨b3, H34, H⟩ := bind_some H
  refine eff_call rfl rfl ok32 rfl rfl (show Meets Try.prog 32 ([.pointer (some ⟨g17, 0, none⟩)] : List Value).toArray _ [[(g17, .cells #[.slice A31 b2.2.b.length c32, .int .i64 b2.2.at_, .int .u64 b2.2.mix, .int .i64 b2.2.size] 82 (0, 0))]] _ from spec_l01Src_l02Buf.calls H34 hr33) (Mr := (s29 :: [(g10, .cells #[.slice none ([] : List Int).length 0, .int .i64 0, .int .i64 0] 25 (0, 0))] :: Fs)) ((perm_at (k := 1) rfl).trans ((List.Perm.refl _).cons _)) (fun v35 J36 M37 hq38 hJ39 => ?_)
  replace hle := hle.trans hJ39
  replace ho30 := ho30.mono hJ39
  replace hr33 := hr33.mono hJ39
  obtain ⟨A40, c41, s42, A44, c45, rfl, rfl, ho43, hr46⟩ := hq38
  refine at_eff rfl rfl ?_
  obtain ⟨i_, hi_, hz_, _, _⟩ := info25
  refine eff_alloc rfl rfl hi_ hz_ #[.slice none ([] : List Int).length 0, .int .i64 0, .int .i64 0] rfl (fun g47 => ?_)
  refine at_eff rfl rfl ?_
  refine eff_store 0 rfl rfl rfl rfl rfl rfl (.inl (Nat.le_refl _)) rfl (Nat.le_of_ble_eq_true (by kernel_rfl)) rfl ?_
  refine at_end ?_
  refine at_thn ?_
  refine at_seq ?_
  refine at_x hmo (fun w => CellsAt w ⟨g47, 0, none⟩ [.slice A40 b3.1.Points.length c41, .int .i64 b3.1.Cursor, .int .i64 b3.1.Mark] 0) [5] ?_
  refine at_xseg [0, 1, 2] 4 (#[true, true, true, false, false, false, false]) rfl (by kernel_rfl) [(1, .agg #[.slice A40 b3.1.Points.length c41, .int .i64 b3.1.Cursor, .int .i64 b3.1.Mark])] [3, 14, 15, 16] (L2 := [(3, .pointer (some ⟨g10, 0, none⟩)), (14, .slice A27 b2.1.length c28), (15, .agg #[.slice A40 b3.1.Points.length c41, .int .i64 b3.1.Cursor, .int .i64 b3.1.Mark]), (16, .pointer (some ⟨g17, 0, none⟩))]) (obs := [fun w => CellsAt w ⟨g47, 0, none⟩ [.slice A40 b3.1.Points.length c41, .int .i64 b3.1.Cursor, .int .i64 b3.1.Mark] 0]) (by kernel_rfl) (by kernel_rfl) (by kernel_rfl) (.inr fun w hs => cellsV (k := 0) hs rfl _ 0 (Nat.le_of_ble_eq_true (by kernel_rfl)) rfl) (fun w hS => hS) (fun w hs => cellsV (k := 0) hs rfl _ 0 (Nat.le_of_ble_eq_true (by kernel_rfl)) rfl) ?_
  refine at_x1 3 3 (#[true, true, true, true, false, false, false]) rfl (by kernel_rfl) (by kernel_rfl) rfl rfl ?_
  obtain ⟨b4, H48, H⟩ := bind_some H
  refine eff_call rfl rfl ok33 rfl rfl (show Meets Try.prog 33 ([.pointer (some ⟨g17, 0, none⟩)] : List Value).toArray _ [[(g17, .cells #[.slice A44 b3.2.b.length c45, .int .i64 b3.2.at_, .int .u64 b3.2.mix, .int .i64 b3.2.size] 82 (0, 0))]] _ from spec_l01Src_l09Cols.calls H48 hr46) (Mr := ([(g47, .cells #[.slice A40 b3.1.Points.length c41, .int .i64 b3.1.Cursor, .int .i64 b3.1.Mark] 25 (0, 0))] :: s42 :: s29 :: [(g10, .cells #[.slice none ([] : List Int).length 0, .int .i64 0, .int .i64 0] 25 (0, 0))] :: Fs)) ((perm_at (k := 2) rfl).trans ((List.Perm.refl _).cons _)) (fun v49 J50 M51 hq52 hJ53 => ?_)
  replace hle := hle.trans hJ53
  replace ho30 := ho30.mono hJ53
  replace ho43 := ho43.mono hJ53
  replace hr46 := hr46.mono hJ53
  obtain ⟨A54, c55, rfl, rfl, hr56⟩ := hq52
  refine at_xS (fun w hs => cellsV (k := 1) hs rfl _ 0 (Nat.le_of_ble_eq_true (by kernel_rfl)) rfl) ?_
  refine at_xseg [4] 2 (#[true, true, true, true, true, false, false]) rfl (by kernel_rfl) [] [2, 3, 15, 17] (L2 := [(2, .slice A27 b2.1.length c28), (3, .pointer (some ⟨g10, 0, none⟩)), (15, .agg #[.slice A40 b3.1.Points.length c41, .int .i64 b3.1.Cursor, .int .i64 b3.1.Mark]), (17, .int .i64 b4.1)]) (obs := []) (by kernel_rfl) (by kernel_rfl) (by kernel_rfl) (.inr fun w hs => cellsV (k := 1) hs rfl _ 0 (Nat.le_of_ble_eq_true (by kernel_rfl)) rfl) (fun w hS => trivial) (fun w hs => trivial) ?_
  refine at_x1 1 5 (#[true, true, true, true, true, true, false]) rfl (by kernel_rfl) (by kernel_rfl) rfl rfl ?_
  refine eff_store 4 rfl rfl rfl rfl rfl rfl (.inl (Nat.le_refl _)) rfl (Nat.le_of_ble_eq_true (by kernel_rfl)) rfl ?_
  refine at_xX (by kernel_rfl) ?_
  refine at_xseg [6] 0 (#[true, true, true, true, true, true, true]) rfl (by kernel_rfl) [] [2, 3, 4] (L2 := [(2, .slice A27 b2.1.length c28), (3, .pointer (some ⟨g10, 0, none⟩)), (4, .int .i64 b4.1)]) (obs := []) (by kernel_rfl) (by kernel_rfl) (by kernel_rfl) (.inl (by kernel_rfl)) (fun w hS => trivial) (fun w hs => trivial) ?_
  refine at_xend (by kernel_rfl) ?_
  refine at_thn ?_
  refine at_ret ?_
  obtain rfl := Option.some.inj H
  refine at_drop (k := 0) rfl rfl ?_
  refine at_drop (k := 0) rfl rfl ?_
  refine at_perm ((perm_at (k := 1) rfl).trans ((List.Perm.refl _).cons _)) ?_
  refine at_done (vs := [.slice A27 b2.1.length c28, .agg #[.slice A40 b3.1.Points.length c41, .int .i64 b3.1.Cursor, .int .i64 b3.1.Mark], .int .i64 b4.1]) (obs := [fun w => CellsAt w ⟨g10, 0, none⟩ [.slice A40 b3.1.Points.length c41, .int .i64 b3.1.Cursor, .int .i64 b3.1.Mark] 0]) (.inl rfl) [.tmp 2, .cell 3 25, .tmp 4] [(3, .agg #[.slice A40 b3.1.Points.length c41, .int .i64 b3.1.Cursor, .int .i64 b3.1.Mark])] rfl (by kernel_rfl) (fun w hs => cellsV (k := 2) hs rfl _ 0 (Nat.le_of_ble_eq_true (by kernel_rfl)) rfl) (fun w hs => ⟨_, _, [s29, s42], rfl, ⟨A27, c28, s29, A40, c41, s42, rfl, rfl, ho30, ho43⟩, hle, (hs.tail (perm_at (k := 2) rfl))⟩)

/-! ### loop.example/g00146/laws.lwCopy: function 8 -/
def laws_lwCopy (p21 : List Int) : Option (List Int) := if ([] : List Int).length + p21.length ≤ 17592186044416 then (some (([] : List Int) ++ p21)) else none
set_option maxHeartbeats 4000000 in
set_option maxRecDepth 100000 in
theorem laws_lwCopy.calls {p21 : List Int} {r : (List Int)} {I0 : Imm} {A22 : Option Addr} {c23 : Nat} (H : laws_lwCopy p21 = some r) (hr24 : Rd (Kd.int .i64) I0 A22 c23 p21) :
    Meets Try.prog 8 ([.slice A22 p21.length c23] : List Value).toArray I0 [] (fun v J M => ∃ (A_1 : Option Addr) (c_2 : Nat) (s_3 : Seg), v = .slice A_1 r.length c_2 ∧ M = [s_3] ∧ Own (Kd.int .i64) 2 J A_1 c_2 r s_3) := by
  have hle := ImmLe.refl I0
  unfold laws_lwCopy at H
  refine fn_intro (fn := Try.f8) 6 Try.func8 rfl rfl rfl (fun E Fs => ?_)
  refine at_seq ?_
  refine at_reg [] [0] (L2 := [(0, .slice A22 p21.length c23)]) (obs := []) (by kernel_rfl) ?_ ?_
  · intro w hs; exact trivial
  refine at_thn ?_
  refine at_seq ?_
  refine at_ops [0, 1, 2, 3] rfl ?_
  refine at_eff rfl rfl ?_
  refine eff_buildSlice (e := 2) (cells := #[]) ([] : List Int).length rfl rfl rfl (by kernel_rfl) (fun g25 => ?_)
  have ho26 := own_lit (K := (Kd.int .i64)) (e := 2) (I := I0) (xs := ([] : List Int)) (css := []) (cells := #[]) (b := g25) trivial rfl
  refine at_seg [1] [2, 3] rfl [] [3, 4] (L2 := [(3, .slice (some ⟨g25, 0, none⟩ : Option Addr) ([] : List Int).length (([] : List Int).length)), (4, .slice A22 p21.length c23)]) (obs := []) (by kernel_rfl) ?_ ?_
  · intro w hs; exact trivial
  refine at_eff rfl rfl ?_
  obtain ⟨h27, H⟩ := ite_some H
  obtain ⟨i_, hi_, hz_, hs_, hb_⟩ := info2
  refine eff_append (K := (Kd.int .i64)) (xs := ([] : List Int)) (ys := p21) 0 rfl rfl rfl rfl rfl und23 und23 hi_ hz_ hs_ rfl rfl rfl ho26 rfl (fun w hs => hr24.rowAt hs) (by rw [hb_]; omega) (by omega) (fun A28 c29 s30 ho31 => ?_)
  refine at_seg [3] [] rfl [] [2] (L2 := [(2, .slice A28 (([] : List Int) ++ p21).length c29)]) (obs := []) (by kernel_rfl) ?_ ?_
  · intro w hs; exact trivial
  refine at_end ?_
  refine at_thn ?_
  refine at_ret ?_
  obtain rfl := Option.some.inj H
  refine at_done (vs := [.slice A28 (([] : List Int) ++ p21).length c29]) (obs := []) (.inl rfl) [.tmp 2] [] rfl (by kernel_rfl) (fun w hs => trivial) (fun w hs => ⟨_, _, [s30], rfl, ⟨A28, c29, s30, rfl, rfl, ho31⟩, hle, hs⟩)

/-! ### loop.example/g00146/impl.within: function 59 -/
def impl_within (p72 : Int) (p73 : Int) (p74 : Int) : Option Bool := if p73 ≤ p72 then (some (decide (p72 ≤ p74))) else (some false)
set_option maxHeartbeats 4000000 in
set_option maxRecDepth 100000 in
theorem impl_within.calls {p72 : Int} {p73 : Int} {p74 : Int} {r : Bool} {I0 : Imm} (H : impl_within p72 p73 p74 = some r) :
    Meets Try.prog 59 ([.int .i64 p72, .int .i64 p73, .int .i64 p74] : List Value).toArray I0 [] (fun v J M => v = .bool r ∧ M = []) := by
  have hle := ImmLe.refl I0
  unfold impl_within at H
  refine fn_intro (fn := Try.f59) 15 Try.func59 rfl rfl rfl (fun E Fs => ?_)
  refine at_seq ?_
  refine at_reg [] [0, 1, 2] (L2 := [(0, .int .i64 p72), (1, .int .i64 p73), (2, .int .i64 p74)]) (obs := []) (by kernel_rfl) ?_ ?_
  · intro w hs; exact trivial
  refine at_thn ?_
  refine at_seq ?_
  by_cases h75 : p73 ≤ p72
  · rw [if_pos h75] at H
    refine at_reg [(3, .bool true)] [6] (L2 := [(6, .bool (decide (p72 ≤ p74)))]) (obs := [fun _ => (.bool (decide (p73 ≤ p72)) : Value) = .bool true]) (by kernel_rfl) ?_ ?_
    · intro w hs; exact congrArg Value.bool (decide_eq_true h75)
    refine at_thn ?_
    refine at_ret ?_
    obtain rfl := Option.some.inj H
    refine at_done (vs := [.bool (decide (p72 ≤ p74))]) (obs := []) (.inl rfl) [.tmp 6] [] rfl (by kernel_rfl) (fun w hs => trivial) (fun w hs => ⟨_, _, [], rfl, ⟨rfl, rfl⟩, hle, hs⟩)
  · rw [if_neg h75] at H
    refine at_reg [(3, .bool false)] [6] (L2 := [(6, .bool false)]) (obs := [fun _ => (.bool (decide (p73 ≤ p72)) : Value) = .bool false]) (by kernel_rfl) ?_ ?_
    · intro w hs; exact congrArg Value.bool (decide_eq_false h75)
    refine at_thn ?_
    refine at_ret ?_
    obtain rfl := Option.some.inj H
    refine at_done (vs := [.bool false]) (obs := []) (.inl rfl) [.tmp 6] [] rfl (by kernel_rfl) (fun w hs => trivial) (fun w hs => ⟨_, _, [], rfl, ⟨rfl, rfl⟩, hle, hs⟩)

/-! ### loop.example/g00146/impl.isPoint: function 85 -/
def impl_isPoint (p71 : Int) : Option Bool := (impl_within p71 0 1114111).bind fun b3 => (if b3 = true then ((impl_within p71 55296 57343).bind fun b4 => (some (!b4))) else (some false))
set_option maxHeartbeats 4000000 in
set_option maxRecDepth 100000 in
theorem impl_isPoint.calls {p71 : Int} {r : Bool} {I0 : Imm} (H : impl_isPoint p71 = some r) :
    Meets Try.prog 85 ([.int .i64 p71] : List Value).toArray I0 [] (fun v J M => v = .bool r ∧ M = []) := by
  have hle := ImmLe.refl I0
  unfold impl_isPoint at H
  refine fn_intro (fn := Try.f85) 10 Try.func85 rfl rfl rfl (fun E Fs => ?_)
  refine at_seq ?_
  refine at_reg [] [0] (L2 := [(0, .int .i64 p71)]) (obs := []) (by kernel_rfl) ?_ ?_
  · intro w hs; exact trivial
  refine at_thn ?_
  refine at_seq ?_
  refine at_ops [0, 1, 2, 3, 4, 5, 6, 7] rfl ?_
  refine at_seg [0] [1, 2, 3, 4, 5, 6, 7] rfl [] [0, 3] (L2 := [(0, .int .i64 p71), (3, .int .i64 p71)]) (obs := []) (by kernel_rfl) ?_ ?_
  · intro w hs; exact trivial
  refine at_eff rfl rfl ?_
  obtain ⟨b3, H72, H⟩ := bind_some H
  have hm_ := impl_within.calls (I0 := I0) H72
  refine eff_call rfl rfl ok59 rfl rfl (show Meets Try.prog 59 ([.int .i64 p71, .int .i64 0, .int .i64 1114111] : List Value).toArray _ [] _ from hm_) (Mr := (Fs)) (List.Perm.refl _) (fun v73 J74 M75 hq76 hJ77 => ?_)
  replace hle := hle.trans hJ77
  obtain ⟨rfl, rfl⟩ := hq76
  by_cases h78 : b3 = true
  · rw [if_pos h78] at H
    refine at_seg [2, 3] [4, 5, 6, 7] rfl [(2, .bool true)] [5, 6] (L2 := [(5, .bool true), (6, .int .i64 p71)]) (obs := [fun _ => (.bool b3 : Value) = .bool true]) (by kernel_rfl) ?_ ?_
    · intro w hs; exact congrArg Value.bool (h78)
    refine at_eff rfl rfl ?_
    obtain ⟨b4, H79, H⟩ := bind_some H
    have hm_ := impl_within.calls (I0 := J74) H79
    refine eff_call rfl rfl ok59 rfl rfl (show Meets Try.prog 59 ([.int .i64 p71, .int .i64 55296, .int .i64 57343] : List Value).toArray _ [] _ from hm_) (Mr := (Fs)) (List.Perm.refl _) (fun v80 J81 M82 hq83 hJ84 => ?_)
    replace hle := hle.trans hJ84
    obtain ⟨rfl, rfl⟩ := hq83
    refine at_seg [5, 6, 7] [] rfl [] [2] (L2 := [(2, .bool (!b4))]) (obs := []) (by kernel_rfl) ?_ ?_
    · intro w hs; exact trivial
    refine at_end ?_
    refine at_thn ?_
    refine at_ret ?_
    obtain rfl := Option.some.inj H
    refine at_done (vs := [.bool (!b4)]) (obs := []) (.inl rfl) [.tmp 2] [] rfl (by kernel_rfl) (fun w hs => trivial) (fun w hs => ⟨_, _, [], rfl, ⟨rfl, rfl⟩, hle, hs⟩)
  · rw [if_neg h78] at H
    refine at_seg [2, 3] [4, 5, 6, 7] rfl [(2, .bool false)] [5, 6] (L2 := [(5, .bool false), (6, undef)]) (obs := [fun _ => (.bool b3 : Value) = .bool false]) (by kernel_rfl) ?_ ?_
    · intro w hs; exact congrArg Value.bool (ff_of h78)
    refine at_seg [4, 5, 6, 7] [] rfl [] [2] (L2 := [(2, .bool false)]) (obs := []) (by kernel_rfl) ?_ ?_
    · intro w hs; exact trivial
    refine at_end ?_
    refine at_thn ?_
    refine at_ret ?_
    obtain rfl := Option.some.inj H
    refine at_done (vs := [.bool false]) (obs := []) (.inl rfl) [.tmp 2] [] rfl (by kernel_rfl) (fun w hs => trivial) (fun w hs => ⟨_, _, [], rfl, ⟨rfl, rfl⟩, hle, hs⟩)

/-! ### loop.example/g00146/impl.PointsRight$1: function 84 -/
def impl_PointsRight_1 (p70 : Int) : Option Bool := (impl_isPoint p70).bind fun b3 => (some (!b3))
set_option maxHeartbeats 4000000 in
set_option maxRecDepth 100000 in
theorem impl_PointsRight_1.calls {p70 : Int} {r : Bool} {I0 : Imm} (H : impl_PointsRight_1 p70 = some r) :
    Meets Try.prog 84 ([.int .i64 p70] : List Value).toArray I0 [] (fun v J M => v = .bool r ∧ M = []) := by
  have hle := ImmLe.refl I0
  unfold impl_PointsRight_1 at H
  refine fn_intro (fn := Try.f84) 6 Try.func84 rfl rfl rfl (fun E Fs => ?_)
  refine at_seq ?_
  refine at_reg [] [0] (L2 := [(0, .int .i64 p70)]) (obs := []) (by kernel_rfl) ?_ ?_
  · intro w hs; exact trivial
  refine at_thn ?_
  refine at_seq ?_
  refine at_ops [0, 1, 2, 3] rfl ?_
  refine at_seg [0] [1, 2, 3] rfl [] [3] (L2 := [(3, .int .i64 p70)]) (obs := []) (by kernel_rfl) ?_ ?_
  · intro w hs; exact trivial
  refine at_eff rfl rfl ?_
  obtain ⟨b3, H71, H⟩ := bind_some H
  have hm_ := impl_isPoint.calls (I0 := I0) H71
  refine eff_call rfl rfl ok85 rfl rfl (show Meets Try.prog 85 ([.int .i64 p70] : List Value).toArray _ [] _ from hm_) (Mr := (Fs)) (List.Perm.refl _) (fun v72 J73 M74 hq75 hJ76 => ?_)
  replace hle := hle.trans hJ76
  obtain ⟨rfl, rfl⟩ := hq75
  refine at_seg [2, 3] [] rfl [] [2] (L2 := [(2, .bool (!b3))]) (obs := []) (by kernel_rfl) ?_ ?_
  · intro w hs; exact trivial
  refine at_end ?_
  refine at_thn ?_
  refine at_ret ?_
  obtain rfl := Option.some.inj H
  refine at_done (vs := [.bool (!b3)]) (obs := []) (.inl rfl) [.tmp 2] [] rfl (by kernel_rfl) (fun w hs => trivial) (fun w hs => ⟨_, _, [], rfl, ⟨rfl, rfl⟩, hle, hs⟩)

/-! ### slices.IndexFunc[[]int64,int64]: function 94 -/
def slices_IndexFunc_int64_int64_at_84_l0 : Nat → Int → (List Int) → Option Int
  | 0, _, _ => none
  | k + 1, x68, p64 => if x68 < (p64.length : Int) then (if 0 ≤ x68 then ((impl_PointsRight_1 (rdA 0 p64 x68)).bind fun b3 => (if b3 = true then (some x68) else (slices_IndexFunc_int64_int64_at_84_l0 k (IntKind.i64.wrap (x68 + 1)) p64))) else none) else (some (-1))
def slices_IndexFunc_int64_int64_at_84 (k : Nat) (p64 : List Int) : Option Int := slices_IndexFunc_int64_int64_at_84_l0 k 0 p64
set_option maxHeartbeats 4000000 in
set_option maxRecDepth 100000 in
theorem slices_IndexFunc_int64_int64_at_84.calls {k : Nat} {p64 : List Int} {r : Int} {I0 : Imm} {A65 : Option Addr} {c66 : Nat} (H : slices_IndexFunc_int64_int64_at_84 k p64 = some r) (hr67 : Rd (Kd.int .i64) I0 A65 c66 p64) :
    Meets Try.prog 94 ([.slice A65 p64.length c66, .func (.func 84) #[] #[]] : List Value).toArray I0 [] (fun v J M => v = .int .i64 r ∧ M = []) := by
  have hle := ImmLe.refl I0
  unfold slices_IndexFunc_int64_int64_at_84 at H
  refine fn_intro (fn := Try.f94) 19 Try.func94 rfl rfl rfl (fun E Fs => ?_)
  refine at_seq ?_
  refine at_reg [] [0, 1] (L2 := [(0, .slice A65 p64.length c66), (1, .func (.func 84) #[] #[])]) (obs := []) (by kernel_rfl) ?_ ?_
  · intro w hs; exact trivial
  refine at_thn ?_
  refine at_seq ?_
  refine at_seq ?_
  refine at_reg [] [0, 1, 7, 8] (L2 := [(0, .slice A65 p64.length c66), (1, .func (.func 84) #[] #[]), (7, .int .i64 (p64.length : Int)), (8, .int .i64 0)]) (obs := []) (by kernel_rfl) ?_ ?_
  · intro w hs; exact trivial
  refine at_thn ?_
  refine at_block ?_
  refine at_keep [0, 1, 7, 8] (L2 := [(0, .slice A65 p64.length c66), (1, .func (.func 84) #[] #[]), (7, .int .i64 (p64.length : Int)), (8, .int .i64 0)]) rfl ?_
  refine at_loop (fun k69 L I Ms => ∃ (x68 : Int), L = [(0, .slice A65 p64.length c66), (1, .func (.func 84) #[] #[]), (7, .int .i64 (p64.length : Int)), (8, .int .i64 x68)] ∧ Ms = ([] ++ Fs) ∧ slices_IndexFunc_int64_int64_at_84_l0 k69 x68 p64 = some r ∧ ImmLe I0 I ∧ k69 ≤ k ∧ Rd (Kd.int .i64) I A65 c66 p64) ?_ ?_ k ⟨0, rfl, rfl, H, hle, Nat.le_refl _, hr67⟩
  · rintro L I Ms ⟨_, rfl, rfl, H, _⟩; exact no_none H
  · clear H hle hr67
    intro k69 ih70 L I Ms h_; obtain ⟨x68, hL_, hM_, H, hle, hk71, hr67⟩ := h_; rw [hL_, hM_]; clear hL_ hM_ L Ms
    rw [slices_IndexFunc_int64_int64_at_84_l0] at H
    refine at_seq ?_
    refine at_reg [] [0, 1, 7, 8, 9] (L2 := [(0, .slice A65 p64.length c66), (1, .func (.func 84) #[] #[]), (7, .int .i64 (p64.length : Int)), (8, .int .i64 x68), (9, .bool (decide (x68 < (p64.length : Int))))]) (obs := []) (by kernel_rfl) ?_ ?_
    · intro w hs; exact trivial
    refine at_thn ?_
    refine at_seq ?_
    by_cases h72 : x68 < (p64.length : Int)
    · rw [if_pos h72] at H
      refine at_cond_t rfl (decide_eq_true h72) ?_
      refine at_skip ?_
      refine at_thn ?_
      refine at_seq ?_
      refine at_block ?_
      refine at_seq ?_
      refine at_reg [] [0, 1, 5, 7, 8] (L2 := [(0, .slice A65 p64.length c66), (1, .func (.func 84) #[] #[]), (5, .int .i64 x68), (7, .int .i64 (p64.length : Int)), (8, .int .i64 x68)]) (obs := []) (by kernel_rfl) ?_ ?_
      · intro w hs; exact trivial
      refine at_thn ?_
      refine at_seq ?_
      refine at_ops [0, 1, 2, 3, 4, 5] rfl ?_
      obtain ⟨h73, H⟩ := ite_some H
      refine at_seg [0, 1, 2, 3, 4] [5] rfl [(4, .int .i64 (rdA 0 p64 x68))] [0, 1, 5, 7, 8, 11, 15] (L2 := [(0, .slice A65 p64.length c66), (1, .func (.func 84) #[] #[]), (5, .int .i64 x68), (7, .int .i64 (p64.length : Int)), (8, .int .i64 x68), (11, .func (.func 84) #[] #[]), (15, .int .i64 (rdA 0 p64 x68))]) (obs := [fun _ => A65.isSome = true ∧ 0 ≤ x68 ∧ x68 < ((p64.length : Nat) : Int), fun w => w.cell? ((A65.getD ad0).add (x68.toNat * 1)) = some (.int .i64 (rdA 0 p64 x68))]) (by kernel_rfl) ?_ ?_
      · intro w hs; exact ⟨⟨hr67.ne x68 h73 h72, h73, h72⟩, hr67.one 0 x68 h73 h72 hs⟩
      refine at_eff rfl rfl ?_
      obtain ⟨b3, H74, H⟩ := bind_some H
      have hm_ := impl_PointsRight_1.calls (I0 := I) H74
      refine eff_callv (first := []) (captured := []) rfl rfl rfl ok84 rfl rfl (hm_) (Mr := (Fs)) (List.Perm.refl _) (fun v75 J76 M77 hq78 hJ79 => ?_)
      replace hle := hle.trans hJ79
      replace hr67 := hr67.mono hJ79
      obtain ⟨rfl, rfl⟩ := hq78
      refine at_end ?_
      refine at_thn ?_
      by_cases h80 : b3 = true
      · rw [if_pos h80] at H
        refine at_cond_t rfl (h80) ?_
        refine at_seq ?_
        refine at_reg [] [4] (L2 := [(4, .int .i64 x68)]) (obs := []) (by kernel_rfl) ?_ ?_
        · intro w hs; exact trivial
        refine at_thn ?_
        refine at_ret ?_
        refine at_in_ret ?_
        refine at_then_ret ?_
        refine at_then_ret ?_
        refine at_in_ret ?_
        refine at_then_ret ?_
        obtain rfl := Option.some.inj H
        refine at_done (vs := [.int .i64 x68]) (obs := []) (.inl rfl) [.tmp 4] [] rfl (by kernel_rfl) (fun w hs => trivial) (fun w hs => ⟨_, _, [], rfl, ⟨rfl, rfl⟩, hle, hs⟩)
      · rw [if_neg h80] at H
        refine at_cond_f rfl (ff_of h80) ?_
        refine at_skip ?_
        refine at_in_norm ?_
        refine at_thn ?_
        refine at_reg [] [0, 1, 7, 8] (L2 := [(0, .slice A65 p64.length c66), (1, .func (.func 84) #[] #[]), (7, .int .i64 (p64.length : Int)), (8, .int .i64 (IntKind.i64.wrap (x68 + 1)))]) (obs := []) (by kernel_rfl) ?_ ?_
        · intro w hs; exact trivial
        refine at_thn ?_
        refine at_keep [0, 1, 7, 8] (L2 := [(0, .slice A65 p64.length c66), (1, .func (.func 84) #[] #[]), (7, .int .i64 (p64.length : Int)), (8, .int .i64 (IntKind.i64.wrap (x68 + 1)))]) rfl ?_
        exact ih70 _ (by omega) _ _ _ ⟨IntKind.i64.wrap (x68 + 1), rfl, rfl, H, hle, by omega, hr67⟩
    · rw [if_neg h72] at H
      refine at_cond_f rfl (decide_eq_false h72) ?_
      refine at_exit ?_
      refine at_then_exit ?_
      refine at_then_exit ?_
      refine at_in_hit ?_
      refine at_thn ?_
      refine at_seq ?_
      refine at_reg [] [4] (L2 := [(4, .int .i64 (-1))]) (obs := []) (by kernel_rfl) ?_ ?_
      · intro w hs; exact trivial
      refine at_thn ?_
      refine at_ret ?_
      obtain rfl := Option.some.inj H
      refine at_done (vs := [.int .i64 (-1)]) (obs := []) (.inl rfl) [.tmp 4] [] rfl (by kernel_rfl) (fun w hs => trivial) (fun w hs => ⟨_, _, [], rfl, ⟨rfl, rfl⟩, hle, hs⟩)

/-! ### slices.ContainsFunc[[]int64,int64]: function 83 -/
def slices_ContainsFunc_int64_int64_at_84 (k : Nat) (p60 : List Int) : Option Bool := (slices_IndexFunc_int64_int64_at_84 k p60).bind fun b3 => (some (decide (b3 ≥ 0)))
set_option maxHeartbeats 4000000 in
set_option maxRecDepth 100000 in
theorem slices_ContainsFunc_int64_int64_at_84.calls {k : Nat} {p60 : List Int} {r : Bool} {I0 : Imm} {A61 : Option Addr} {c62 : Nat} (H : slices_ContainsFunc_int64_int64_at_84 k p60 = some r) (hr63 : Rd (Kd.int .i64) I0 A61 c62 p60) :
    Meets Try.prog 83 ([.slice A61 p60.length c62, .func (.func 84) #[] #[]] : List Value).toArray I0 [] (fun v J M => v = .bool r ∧ M = []) := by
  have hle := ImmLe.refl I0
  unfold slices_ContainsFunc_int64_int64_at_84 at H
  refine fn_intro (fn := Try.f83) 9 Try.func83 rfl rfl rfl (fun E Fs => ?_)
  refine at_seq ?_
  refine at_reg [] [0, 1] (L2 := [(0, .slice A61 p60.length c62), (1, .func (.func 84) #[] #[])]) (obs := []) (by kernel_rfl) ?_ ?_
  · intro w hs; exact trivial
  refine at_thn ?_
  refine at_seq ?_
  refine at_ops [0, 1, 2, 3, 4] rfl ?_
  refine at_seg [0, 1] [2, 3, 4] rfl [] [5, 6] (L2 := [(5, .slice A61 p60.length c62), (6, .func (.func 84) #[] #[])]) (obs := []) (by kernel_rfl) ?_ ?_
  · intro w hs; exact trivial
  refine at_eff rfl rfl ?_
  obtain ⟨b3, H64, H⟩ := bind_some H
  have hm_ := slices_IndexFunc_int64_int64_at_84.calls (I0 := I0) H64 hr63
  refine eff_call rfl rfl ok94 rfl rfl (show Meets Try.prog 94 ([.slice A61 p60.length c62, .func (.func 84) #[] #[]] : List Value).toArray _ [] _ from hm_) (Mr := (Fs)) (List.Perm.refl _) (fun v65 J66 M67 hq68 hJ69 => ?_)
  replace hle := hle.trans hJ69
  replace hr63 := hr63.mono hJ69
  obtain ⟨rfl, rfl⟩ := hq68
  refine at_seg [3, 4] [] rfl [] [4] (L2 := [(4, .bool (decide (b3 ≥ 0)))]) (obs := []) (by kernel_rfl) ?_ ?_
  · intro w hs; exact trivial
  refine at_end ?_
  refine at_thn ?_
  refine at_ret ?_
  obtain rfl := Option.some.inj H
  refine at_done (vs := [.bool (decide (b3 ≥ 0))]) (obs := []) (.inl rfl) [.tmp 4] [] rfl (by kernel_rfl) (fun w hs => trivial) (fun w hs => ⟨_, _, [], rfl, ⟨rfl, rfl⟩, hle, hs⟩)

/-! ### loop.example/g00146/impl.PointsRight: function 65 -/
def impl_PointsRight (k : Nat) (p55 : List Int) : Option Bool := if (p55.length : Int) ≤ 300 then ((slices_ContainsFunc_int64_int64_at_84 k p55).bind fun b3 => (some (!b3))) else (some false)
set_option maxHeartbeats 4000000 in
set_option maxRecDepth 100000 in
theorem impl_PointsRight.calls {k : Nat} {p55 : List Int} {r : Bool} {I0 : Imm} {A56 : Option Addr} {c57 : Nat} (H : impl_PointsRight k p55 = some r) (hr58 : Rd (Kd.int .i64) I0 A56 c57 p55) :
    Meets Try.prog 65 ([.slice A56 p55.length c57] : List Value).toArray I0 [] (fun v J M => v = .bool r ∧ M = []) := by
  have hle := ImmLe.refl I0
  unfold impl_PointsRight at H
  refine fn_intro (fn := Try.f65) 11 Try.func65 rfl rfl rfl (fun E Fs => ?_)
  refine at_seq ?_
  refine at_reg [] [0] (L2 := [(0, .slice A56 p55.length c57)]) (obs := []) (by kernel_rfl) ?_ ?_
  · intro w hs; exact trivial
  refine at_thn ?_
  refine at_seq ?_
  refine at_ops [0, 1, 2, 3, 4, 5, 6, 7, 8] rfl ?_
  by_cases h59 : (p55.length : Int) ≤ 300
  · rw [if_pos h59] at H
    refine at_seg [0, 1, 2, 3, 4] [5, 6, 7, 8] rfl [(3, .bool true)] [6, 7] (L2 := [(6, .bool true), (7, .slice A56 p55.length c57)]) (obs := [fun _ => (.bool (decide ((p55.length : Int) ≤ 300)) : Value) = .bool true]) (by kernel_rfl) ?_ ?_
    · intro w hs; exact congrArg Value.bool (decide_eq_true h59)
    refine at_eff rfl rfl ?_
    obtain ⟨b3, H60, H⟩ := bind_some H
    have hm_ := slices_ContainsFunc_int64_int64_at_84.calls (I0 := I0) H60 hr58
    refine eff_call rfl rfl ok83 rfl rfl (show Meets Try.prog 83 ([.slice A56 p55.length c57, .func (.func 84) #[] #[]] : List Value).toArray _ [] _ from hm_) (Mr := (Fs)) (List.Perm.refl _) (fun v61 J62 M63 hq64 hJ65 => ?_)
    replace hle := hle.trans hJ65
    replace hr58 := hr58.mono hJ65
    obtain ⟨rfl, rfl⟩ := hq64
    refine at_seg [6, 7, 8] [] rfl [] [2] (L2 := [(2, .bool (!b3))]) (obs := []) (by kernel_rfl) ?_ ?_
    · intro w hs; exact trivial
    refine at_end ?_
    refine at_thn ?_
    refine at_ret ?_
    obtain rfl := Option.some.inj H
    refine at_done (vs := [.bool (!b3)]) (obs := []) (.inl rfl) [.tmp 2] [] rfl (by kernel_rfl) (fun w hs => trivial) (fun w hs => ⟨_, _, [], rfl, ⟨rfl, rfl⟩, hle, hs⟩)
  · rw [if_neg h59] at H
    refine at_seg [0, 1, 2, 3, 4] [5, 6, 7, 8] rfl [(3, .bool false)] [6, 7] (L2 := [(6, .bool false), (7, undef)]) (obs := [fun _ => (.bool (decide ((p55.length : Int) ≤ 300)) : Value) = .bool false]) (by kernel_rfl) ?_ ?_
    · intro w hs; exact congrArg Value.bool (decide_eq_false h59)
    refine at_seg [5, 6, 7, 8] [] rfl [] [2] (L2 := [(2, .bool false)]) (obs := []) (by kernel_rfl) ?_ ?_
    · intro w hs; exact trivial
    refine at_end ?_
    refine at_thn ?_
    refine at_ret ?_
    obtain rfl := Option.some.inj H
    refine at_done (vs := [.bool false]) (obs := []) (.inl rfl) [.tmp 2] [] rfl (by kernel_rfl) (fun w hs => trivial) (fun w hs => ⟨_, _, [], rfl, ⟨rfl, rfl⟩, hle, hs⟩)

/-! ### loop.example/g00146/impl.size[int64]: function 75 -/
def impl_size_int64 (p80 : List Int) : Option Int := some (p80.length : Int)
set_option maxHeartbeats 4000000 in
set_option maxRecDepth 100000 in
theorem impl_size_int64.calls {p80 : List Int} {r : Int} {I0 : Imm} {A81 : Option Addr} {c82 : Nat} (H : impl_size_int64 p80 = some r) (hr83 : Rd (Kd.int .i64) I0 A81 c82 p80) :
    Meets Try.prog 75 ([.slice A81 p80.length c82] : List Value).toArray I0 [] (fun v J M => v = .int .i64 r ∧ M = []) := by
  have hle := ImmLe.refl I0
  unfold impl_size_int64 at H
  refine fn_intro (fn := Try.f75) 5 Try.func75 rfl rfl rfl (fun E Fs => ?_)
  refine at_seq ?_
  refine at_reg [] [0] (L2 := [(0, .slice A81 p80.length c82)]) (obs := []) (by kernel_rfl) ?_ ?_
  · intro w hs; exact trivial
  refine at_thn ?_
  refine at_seq ?_
  refine at_reg [] [2] (L2 := [(2, .int .i64 (p80.length : Int))]) (obs := []) (by kernel_rfl) ?_ ?_
  · intro w hs; exact trivial
  refine at_thn ?_
  refine at_ret ?_
  obtain rfl := Option.some.inj H
  refine at_done (vs := [.int .i64 (p80.length : Int)]) (obs := []) (.inl rfl) [.tmp 2] [] rfl (by kernel_rfl) (fun w hs => trivial) (fun w hs => ⟨_, _, [], rfl, ⟨rfl, rfl⟩, hle, hs⟩)

/-! ### (*loop.example/g00146/impl.Buf).isPlace: function 40 -/
def impl_Buf_isPlace (p75 : T_impl_Buf) (p79 : Int) : Option (Bool × T_impl_Buf) := (impl_size_int64 p75.Points).bind fun b5 => ((impl_within p79 0 b5).bind fun b6 => (some (b6, p75)))
set_option maxHeartbeats 4000000 in
set_option maxRecDepth 100000 in
theorem impl_Buf_isPlace.calls {p75 : T_impl_Buf} {p79 : Int} {r : Bool × T_impl_Buf} {I0 : Imm} {g74 : Nat} {A76 : Option Addr} {c77 : Nat} (H : impl_Buf_isPlace p75 p79 = some r) (hr78 : Rd (Kd.int .i64) I0 A76 c77 p75.Points) :
    Meets Try.prog 40 ([.pointer (some ⟨g74, 0, none⟩), .int .i64 p79] : List Value).toArray I0 [[(g74, .cells #[.slice A76 p75.Points.length c77, .int .i64 p75.Cursor, .int .i64 p75.Mark] 25 (0, 0))]] (fun v J M => ∃ (A_1 : Option Addr) (c_2 : Nat), v = .bool r.1 ∧ M = [[(g74, .cells #[.slice A_1 r.2.Points.length c_2, .int .i64 r.2.Cursor, .int .i64 r.2.Mark] 25 (0, 0))]] ∧ Rd (Kd.int .i64) J A_1 c_2 r.2.Points) := by
  have hle := ImmLe.refl I0
  unfold impl_Buf_isPlace at H
  refine fn_intro (fn := Try.f40) 12 Try.func40 rfl rfl rfl (fun E Fs => ?_)
  refine at_seq ?_
  refine at_reg [] [0, 1] (L2 := [(0, .pointer (some ⟨g74, 0, none⟩)), (1, .int .i64 p79)]) (obs := []) (by kernel_rfl) ?_ ?_
  · intro w hs; exact trivial
  refine at_thn ?_
  refine at_seq ?_
  refine at_ops [0, 1, 2, 3, 4, 5, 6, 7] rfl ?_
  refine at_seg [0, 1, 2, 3, 4] [5, 6, 7] rfl [(4, .slice A76 p75.Points.length c77)] [5, 9] (L2 := [(5, .int .i64 p79), (9, .slice A76 p75.Points.length c77)]) (obs := [fun w => w.cell? ⟨g74, 0, none⟩ = some (.slice A76 p75.Points.length c77)]) (by kernel_rfl) ?_ ?_
  · intro w hs; exact hs.var (k := 0) rfl 0 rfl
  refine at_eff rfl rfl ?_
  obtain ⟨b5, H80, H⟩ := bind_some H
  have hm_ := impl_size_int64.calls (I0 := I0) H80 hr78
  refine eff_call rfl rfl ok75 rfl rfl (show Meets Try.prog 75 ([.slice A76 p75.Points.length c77] : List Value).toArray _ [] _ from hm_) (Mr := ([(g74, .cells #[.slice A76 p75.Points.length c77, .int .i64 p75.Cursor, .int .i64 p75.Mark] 25 (0, 0))] :: Fs)) (List.Perm.refl _) (fun v81 J82 M83 hq84 hJ85 => ?_)
  replace hle := hle.trans hJ85
  replace hr78 := hr78.mono hJ85
  obtain ⟨rfl, rfl⟩ := hq84
  refine at_eff rfl rfl ?_
  obtain ⟨b6, H86, H⟩ := bind_some H
  have hm_ := impl_within.calls (I0 := J82) H86
  refine eff_call rfl rfl ok59 rfl rfl (show Meets Try.prog 59 ([.int .i64 p79, .int .i64 0, .int .i64 b5] : List Value).toArray _ [] _ from hm_) (Mr := ([(g74, .cells #[.slice A76 p75.Points.length c77, .int .i64 p75.Cursor, .int .i64 p75.Mark] 25 (0, 0))] :: Fs)) (List.Perm.refl _) (fun v87 J88 M89 hq90 hJ91 => ?_)
  replace hle := hle.trans hJ91
  replace hr78 := hr78.mono hJ91
  obtain ⟨rfl, rfl⟩ := hq90
  refine at_seg [7] [] rfl [] [4] (L2 := [(4, .bool b6)]) (obs := []) (by kernel_rfl) ?_ ?_
  · intro w hs; exact trivial
  refine at_end ?_
  refine at_thn ?_
  refine at_ret ?_
  obtain rfl := Option.some.inj H
  refine at_done (vs := [.bool b6]) (obs := []) (.inl rfl) [.tmp 4] [] rfl (by kernel_rfl) (fun w hs => trivial) (fun w hs => ⟨_, _, [[(g74, .cells #[.slice A76 p75.Points.length c77, .int .i64 p75.Cursor, .int .i64 p75.Mark] 25 (0, 0))]], rfl, ⟨A76, c77, rfl, rfl, hr78⟩, hle, hs⟩)

/-! ### loop.example/g00146/impl.BufRight: function 66 -/
def impl_BufRight (k : Nat) (p62 : T_impl_Buf) : Option Bool := (impl_PointsRight k p62.Points).bind fun b4 => (if b4 = true then ((impl_Buf_isPlace p62 p62.Cursor).bind fun b5 => (if b5.1 = true then ((impl_Buf_isPlace b5.2 b5.2.Mark).bind fun b6 => (some b6.1)) else (some false))) else (some false))
set_option maxHeartbeats 4000000 in
set_option maxRecDepth 100000 in
theorem impl_BufRight.calls {k : Nat} {p62 : T_impl_Buf} {r : Bool} {I0 : Imm} {A63 : Option Addr} {c64 : Nat} (H : impl_BufRight k p62 = some r) (hr65 : Rd (Kd.int .i64) I0 A63 c64 p62.Points) :
    Meets Try.prog 66 ([.agg #[.slice A63 p62.Points.length c64, .int .i64 p62.Cursor, .int .i64 p62.Mark]] : List Value).toArray I0 [] (fun v J M => v = .bool r ∧ M = []) := by
  have hle := ImmLe.refl I0
  unfold impl_BufRight at H
  refine fn_intro (fn := Try.f66) 16 Try.func66 rfl rfl rfl (fun E Fs => ?_)
  refine at_seq ?_
  refine at_ops [0, 1] rfl ?_
  refine at_eff rfl rfl ?_
  refine eff_box rfl rfl rfl #[.slice A63 p62.Points.length c64, .int .i64 p62.Cursor, .int .i64 p62.Mark] rfl (fun g66 => ?_)
  refine at_seg [1] [] rfl [] [1] (L2 := [(1, .pointer (some ⟨g66, 0, none⟩))]) (obs := []) (by kernel_rfl) ?_ ?_
  · intro w hs; exact trivial
  refine at_end ?_
  refine at_thn ?_
  refine at_seq ?_
  refine at_ops [0, 1, 2, 3, 4, 5, 6, 7, 8, 9, 10, 11, 12, 13] rfl ?_
  refine at_seg [0, 1] [2, 3, 4, 5, 6, 7, 8, 9, 10, 11, 12, 13] rfl [(1, .slice A63 p62.Points.length c64)] [1, 4] (L2 := [(1, .pointer (some ⟨g66, 0, none⟩)), (4, .slice A63 p62.Points.length c64)]) (obs := [fun w => w.cell? ⟨g66, 0, none⟩ = some (.slice A63 p62.Points.length c64)]) (by kernel_rfl) ?_ ?_
  · intro w hs; exact hs.var (k := 0) rfl 0 rfl
  refine at_eff rfl rfl ?_
  obtain ⟨b4, H67, H⟩ := bind_some H
  have hm_ := impl_PointsRight.calls (I0 := I0) H67 hr65
  refine eff_call rfl rfl ok65 rfl rfl (show Meets Try.prog 65 ([.slice A63 p62.Points.length c64] : List Value).toArray _ [] _ from hm_) (Mr := ([(g66, .cells #[.slice A63 p62.Points.length c64, .int .i64 p62.Cursor, .int .i64 p62.Mark] 25 (0, 0))] :: Fs)) (List.Perm.refl _) (fun v68 J69 M70 hq71 hJ72 => ?_)
  replace hle := hle.trans hJ72
  replace hr65 := hr65.mono hJ72
  obtain ⟨rfl, rfl⟩ := hq71
  by_cases h73 : b4 = true
  · rw [if_pos h73] at H
    refine at_seg [3, 4, 5] [6, 7, 8, 9, 10, 11, 12, 13] rfl [(3, .bool true), (5, .int .i64 p62.Cursor)] [1, 6, 8] (L2 := [(1, .pointer (some ⟨g66, 0, none⟩)), (6, .bool true), (8, .int .i64 p62.Cursor)]) (obs := [fun _ => (.bool b4 : Value) = .bool true, fun w => w.cell? ⟨g66, 1, none⟩ = some (.int .i64 p62.Cursor)]) (by kernel_rfl) ?_ ?_
    · intro w hs; exact ⟨congrArg Value.bool (h73), hs.var (k := 0) rfl 1 rfl⟩
    refine at_eff rfl rfl ?_
    obtain ⟨b5, H74, H⟩ := bind_some H
    refine eff_call rfl rfl ok40 rfl rfl (show Meets Try.prog 40 ([.pointer (some ⟨g66, 0, none⟩), .int .i64 p62.Cursor] : List Value).toArray _ [[(g66, .cells #[.slice A63 p62.Points.length c64, .int .i64 p62.Cursor, .int .i64 p62.Mark] 25 (0, 0))]] _ from impl_Buf_isPlace.calls H74 hr65) (Mr := (Fs)) (List.Perm.refl _) (fun v75 J76 M77 hq78 hJ79 => ?_)
    replace hle := hle.trans hJ79
    replace hr65 := hr65.mono hJ79
    obtain ⟨A80, c81, rfl, rfl, hr82⟩ := hq78
    by_cases h83 : b5.1 = true
    · rw [if_pos h83] at H
      refine at_seg [7, 8, 9, 10] [11, 12, 13] rfl [(8, .bool true), (10, .int .i64 b5.2.Mark)] [1, 11, 13] (L2 := [(1, .pointer (some ⟨g66, 0, none⟩)), (11, .bool true), (13, .int .i64 b5.2.Mark)]) (obs := [fun _ => (.bool b5.1 : Value) = .bool true, fun w => w.cell? ⟨g66, 2, none⟩ = some (.int .i64 b5.2.Mark)]) (by kernel_rfl) ?_ ?_
      · intro w hs; exact ⟨congrArg Value.bool (h83), hs.var (k := 0) rfl 2 rfl⟩
      refine at_eff rfl rfl ?_
      obtain ⟨b6, H84, H⟩ := bind_some H
      refine eff_call rfl rfl ok40 rfl rfl (show Meets Try.prog 40 ([.pointer (some ⟨g66, 0, none⟩), .int .i64 b5.2.Mark] : List Value).toArray _ [[(g66, .cells #[.slice A80 b5.2.Points.length c81, .int .i64 b5.2.Cursor, .int .i64 b5.2.Mark] 25 (0, 0))]] _ from impl_Buf_isPlace.calls H84 hr82) (Mr := (Fs)) (List.Perm.refl _) (fun v85 J86 M87 hq88 hJ89 => ?_)
      replace hle := hle.trans hJ89
      replace hr82 := hr82.mono hJ89
      obtain ⟨A90, c91, rfl, rfl, hr92⟩ := hq88
      refine at_seg [12, 13] [] rfl [] [2] (L2 := [(2, .bool b6.1)]) (obs := []) (by kernel_rfl) ?_ ?_
      · intro w hs; exact trivial
      refine at_end ?_
      refine at_thn ?_
      refine at_ret ?_
      obtain rfl := Option.some.inj H
      refine at_drop (k := 0) rfl rfl ?_
      refine at_done (vs := [.bool b6.1]) (obs := []) (.inl rfl) [.tmp 2] [] rfl (by kernel_rfl) (fun w hs => trivial) (fun w hs => ⟨_, _, [], rfl, ⟨rfl, rfl⟩, hle, hs⟩)
    · rw [if_neg h83] at H
      refine at_seg [7, 8, 9, 10] [11, 12, 13] rfl [(8, .bool false)] [1, 11, 13] (L2 := [(1, .pointer (some ⟨g66, 0, none⟩)), (11, .bool false), (13, undef)]) (obs := [fun _ => (.bool b5.1 : Value) = .bool false]) (by kernel_rfl) ?_ ?_
      · intro w hs; exact congrArg Value.bool (ff_of h83)
      refine at_seg [11, 12, 13] [] rfl [] [2] (L2 := [(2, .bool false)]) (obs := []) (by kernel_rfl) ?_ ?_
      · intro w hs; exact trivial
      refine at_end ?_
      refine at_thn ?_
      refine at_ret ?_
      obtain rfl := Option.some.inj H
      refine at_drop (k := 0) rfl rfl ?_
      refine at_done (vs := [.bool false]) (obs := []) (.inl rfl) [.tmp 2] [] rfl (by kernel_rfl) (fun w hs => trivial) (fun w hs => ⟨_, _, [], rfl, ⟨rfl, rfl⟩, hle, hs⟩)
  · rw [if_neg h73] at H
    refine at_seg [3, 4, 5] [6, 7, 8, 9, 10, 11, 12, 13] rfl [(3, .bool false)] [1, 6, 8] (L2 := [(1, .pointer (some ⟨g66, 0, none⟩)), (6, .bool false), (8, undef)]) (obs := [fun _ => (.bool b4 : Value) = .bool false]) (by kernel_rfl) ?_ ?_
    · intro w hs; exact congrArg Value.bool (ff_of h73)
    refine at_seg [6, 7, 8, 9, 10] [11, 12, 13] rfl [] [1, 11, 13] (L2 := [(1, .pointer (some ⟨g66, 0, none⟩)), (11, .bool false), (13, undef)]) (obs := []) (by kernel_rfl) ?_ ?_
    · intro w hs; exact trivial
    refine at_seg [11, 12, 13] [] rfl [] [2] (L2 := [(2, .bool false)]) (obs := []) (by kernel_rfl) ?_ ?_
    · intro w hs; exact trivial
    refine at_end ?_
    refine at_thn ?_
    refine at_ret ?_
    obtain rfl := Option.some.inj H
    refine at_drop (k := 0) rfl rfl ?_
    refine at_done (vs := [.bool false]) (obs := []) (.inl rfl) [.tmp 2] [] rfl (by kernel_rfl) (fun w hs => trivial) (fun w hs => ⟨_, _, [], rfl, ⟨rfl, rfl⟩, hle, hs⟩)

/-! ### loop.example/g00146/impl.isCols: function 67 -/
def impl_isCols (p69 : Int) : Option Bool := (impl_within p69 2 80).bind fun b5 => (some b5)
set_option maxHeartbeats 4000000 in
set_option maxRecDepth 100000 in
theorem impl_isCols.calls {p69 : Int} {r : Bool} {I0 : Imm} (H : impl_isCols p69 = some r) :
    Meets Try.prog 67 ([.int .i64 p69] : List Value).toArray I0 [] (fun v J M => v = .bool r ∧ M = []) := by
  have hle := ImmLe.refl I0
  unfold impl_isCols at H
  refine fn_intro (fn := Try.f67) 5 Try.func67 rfl rfl rfl (fun E Fs => ?_)
  refine at_seq ?_
  refine at_reg [] [0] (L2 := [(0, .int .i64 p69)]) (obs := []) (by kernel_rfl) ?_ ?_
  · intro w hs; exact trivial
  refine at_thn ?_
  refine at_seq ?_
  refine at_ops [0, 1, 2] rfl ?_
  refine at_seg [0] [1, 2] rfl [] [3] (L2 := [(3, .int .i64 p69)]) (obs := []) (by kernel_rfl) ?_ ?_
  · intro w hs; exact trivial
  refine at_eff rfl rfl ?_
  obtain ⟨b5, H70, H⟩ := bind_some H
  have hm_ := impl_within.calls (I0 := I0) H70
  refine eff_call rfl rfl ok59 rfl rfl (show Meets Try.prog 59 ([.int .i64 p69, .int .i64 2, .int .i64 80] : List Value).toArray _ [] _ from hm_) (Mr := (Fs)) (List.Perm.refl _) (fun v71 J72 M73 hq74 hJ75 => ?_)
  replace hle := hle.trans hJ75
  obtain ⟨rfl, rfl⟩ := hq74
  refine at_seg [2] [] rfl [] [2] (L2 := [(2, .bool b5)]) (obs := []) (by kernel_rfl) ?_ ?_
  · intro w hs; exact trivial
  refine at_end ?_
  refine at_thn ?_
  refine at_ret ?_
  obtain rfl := Option.some.inj H
  refine at_done (vs := [.bool b5]) (obs := []) (.inl rfl) [.tmp 2] [] rfl (by kernel_rfl) (fun w hs => trivial) (fun w hs => ⟨_, _, [], rfl, ⟨rfl, rfl⟩, hle, hs⟩)

/-! ### loop.example/g00146/impl.isViewed: function 34 -/
def impl_isViewed (k : Nat) (p45 : List Int) (p49 : T_impl_Buf) (p53 : Int) : Option Bool := (impl_PointsRight k p45).bind fun b3 => (if b3 = true then ((impl_BufRight k p49).bind fun b4 => (if b4 = true then ((impl_isCols p53).bind fun b5 => (some b5)) else (some false))) else (some false))
set_option maxHeartbeats 4000000 in
set_option maxRecDepth 100000 in
theorem impl_isViewed.calls {k : Nat} {p45 : List Int} {p49 : T_impl_Buf} {p53 : Int} {r : Bool} {I0 : Imm} {A46 : Option Addr} {c47 : Nat} {A50 : Option Addr} {c51 : Nat} (H : impl_isViewed k p45 p49 p53 = some r) (hr48 : Rd (Kd.int .i64) I0 A46 c47 p45) (hr52 : Rd (Kd.int .i64) I0 A50 c51 p49.Points) :
    Meets Try.prog 34 ([.slice A46 p45.length c47, .agg #[.slice A50 p49.Points.length c51, .int .i64 p49.Cursor, .int .i64 p49.Mark], .int .i64 p53] : List Value).toArray I0 [] (fun v J M => v = .bool r ∧ M = []) := by
  have hle := ImmLe.refl I0
  unfold impl_isViewed at H
  refine fn_intro (fn := Try.f34) 17 Try.func34 rfl rfl rfl (fun E Fs => ?_)
  refine at_seq ?_
  refine at_ops [0, 1] rfl ?_
  refine at_eff rfl rfl ?_
  refine eff_box rfl rfl rfl #[.slice A50 p49.Points.length c51, .int .i64 p49.Cursor, .int .i64 p49.Mark] rfl (fun g54 => ?_)
  refine at_seg [1] [] rfl [] [0, 2, 4] (L2 := [(0, .slice A46 p45.length c47), (2, .int .i64 p53), (4, .pointer (some ⟨g54, 0, none⟩))]) (obs := []) (by kernel_rfl) ?_ ?_
  · intro w hs; exact trivial
  refine at_end ?_
  refine at_thn ?_
  refine at_seq ?_
  refine at_ops [0, 1, 2, 3, 4, 5, 6, 7, 8, 9, 10] rfl ?_
  refine at_seg [0] [1, 2, 3, 4, 5, 6, 7, 8, 9, 10] rfl [] [2, 4, 7] (L2 := [(2, .int .i64 p53), (4, .pointer (some ⟨g54, 0, none⟩)), (7, .slice A46 p45.length c47)]) (obs := []) (by kernel_rfl) ?_ ?_
  · intro w hs; exact trivial
  refine at_eff rfl rfl ?_
  obtain ⟨b3, H55, H⟩ := bind_some H
  have hm_ := impl_PointsRight.calls (I0 := I0) H55 hr48
  refine eff_call rfl rfl ok65 rfl rfl (show Meets Try.prog 65 ([.slice A46 p45.length c47] : List Value).toArray _ [] _ from hm_) (Mr := ([(g54, .cells #[.slice A50 p49.Points.length c51, .int .i64 p49.Cursor, .int .i64 p49.Mark] 25 (0, 0))] :: Fs)) (List.Perm.refl _) (fun v56 J57 M58 hq59 hJ60 => ?_)
  replace hle := hle.trans hJ60
  replace hr48 := hr48.mono hJ60
  replace hr52 := hr52.mono hJ60
  obtain ⟨rfl, rfl⟩ := hq59
  by_cases h61 : b3 = true
  · rw [if_pos h61] at H
    refine at_seg [2, 3] [4, 5, 6, 7, 8, 9, 10] rfl [(2, .bool true), (3, .agg #[.slice A50 p49.Points.length c51, .int .i64 p49.Cursor, .int .i64 p49.Mark])] [2, 9, 10] (L2 := [(2, .int .i64 p53), (9, .bool true), (10, .agg #[.slice A50 p49.Points.length c51, .int .i64 p49.Cursor, .int .i64 p49.Mark])]) (obs := [fun _ => (.bool b3 : Value) = .bool true, fun w => CellsAt w ⟨g54, 0, none⟩ [.slice A50 p49.Points.length c51, .int .i64 p49.Cursor, .int .i64 p49.Mark] 0]) (by kernel_rfl) ?_ ?_
    · intro w hs; exact ⟨congrArg Value.bool (h61), cellsV (k := 0) hs rfl _ 0 (Nat.le_of_ble_eq_true (by kernel_rfl)) rfl⟩
    refine at_eff rfl rfl ?_
    obtain ⟨b4, H62, H⟩ := bind_some H
    have hm_ := impl_BufRight.calls (I0 := J57) H62 hr52
    refine eff_call rfl rfl ok66 rfl rfl (show Meets Try.prog 66 ([.agg #[.slice A50 p49.Points.length c51, .int .i64 p49.Cursor, .int .i64 p49.Mark]] : List Value).toArray _ [] _ from hm_) (Mr := ([(g54, .cells #[.slice A50 p49.Points.length c51, .int .i64 p49.Cursor, .int .i64 p49.Mark] 25 (0, 0))] :: Fs)) (List.Perm.refl _) (fun v63 J64 M65 hq66 hJ67 => ?_)
    replace hle := hle.trans hJ67
    replace hr52 := hr52.mono hJ67
    obtain ⟨rfl, rfl⟩ := hq66
    by_cases h68 : b4 = true
    · rw [if_pos h68] at H
      refine at_seg [5, 6, 7] [8, 9, 10] rfl [(6, .bool true)] [13, 14] (L2 := [(13, .bool true), (14, .int .i64 p53)]) (obs := [fun _ => (.bool b4 : Value) = .bool true]) (by kernel_rfl) ?_ ?_
      · intro w hs; exact congrArg Value.bool (h68)
      refine at_eff rfl rfl ?_
      obtain ⟨b5, H69, H⟩ := bind_some H
      have hm_ := impl_isCols.calls (I0 := J64) H69
      refine eff_call rfl rfl ok67 rfl rfl (show Meets Try.prog 67 ([.int .i64 p53] : List Value).toArray _ [] _ from hm_) (Mr := ([(g54, .cells #[.slice A50 p49.Points.length c51, .int .i64 p49.Cursor, .int .i64 p49.Mark] 25 (0, 0))] :: Fs)) (List.Perm.refl _) (fun v70 J71 M72 hq73 hJ74 => ?_)
      replace hle := hle.trans hJ74
      replace hr52 := hr52.mono hJ74
      obtain ⟨rfl, rfl⟩ := hq73
      refine at_seg [9, 10] [] rfl [] [6] (L2 := [(6, .bool b5)]) (obs := []) (by kernel_rfl) ?_ ?_
      · intro w hs; exact trivial
      refine at_end ?_
      refine at_thn ?_
      refine at_ret ?_
      obtain rfl := Option.some.inj H
      refine at_drop (k := 0) rfl rfl ?_
      refine at_done (vs := [.bool b5]) (obs := []) (.inl rfl) [.tmp 6] [] rfl (by kernel_rfl) (fun w hs => trivial) (fun w hs => ⟨_, _, [], rfl, ⟨rfl, rfl⟩, hle, hs⟩)
    · rw [if_neg h68] at H
      refine at_seg [5, 6, 7] [8, 9, 10] rfl [(6, .bool false)] [13, 14] (L2 := [(13, .bool false), (14, undef)]) (obs := [fun _ => (.bool b4 : Value) = .bool false]) (by kernel_rfl) ?_ ?_
      · intro w hs; exact congrArg Value.bool (ff_of h68)
      refine at_seg [8, 9, 10] [] rfl [] [6] (L2 := [(6, .bool false)]) (obs := []) (by kernel_rfl) ?_ ?_
      · intro w hs; exact trivial
      refine at_end ?_
      refine at_thn ?_
      refine at_ret ?_
      obtain rfl := Option.some.inj H
      refine at_drop (k := 0) rfl rfl ?_
      refine at_done (vs := [.bool false]) (obs := []) (.inl rfl) [.tmp 6] [] rfl (by kernel_rfl) (fun w hs => trivial) (fun w hs => ⟨_, _, [], rfl, ⟨rfl, rfl⟩, hle, hs⟩)
  · rw [if_neg h61] at H
    refine at_seg [2, 3] [4, 5, 6, 7, 8, 9, 10] rfl [(2, .bool false)] [2, 9, 10] (L2 := [(2, .int .i64 p53), (9, .bool false), (10, undef)]) (obs := [fun _ => (.bool b3 : Value) = .bool false]) (by kernel_rfl) ?_ ?_
    · intro w hs; exact congrArg Value.bool (ff_of h61)
    refine at_seg [4, 5, 6, 7] [8, 9, 10] rfl [] [13, 14] (L2 := [(13, .bool false), (14, undef)]) (obs := []) (by kernel_rfl) ?_ ?_
    · intro w hs; exact trivial
    refine at_seg [8, 9, 10] [] rfl [] [6] (L2 := [(6, .bool false)]) (obs := []) (by kernel_rfl) ?_ ?_
    · intro w hs; exact trivial
    refine at_end ?_
    refine at_thn ?_
    refine at_ret ?_
    obtain rfl := Option.some.inj H
    refine at_drop (k := 0) rfl rfl ?_
    refine at_done (vs := [.bool false]) (obs := []) (.inl rfl) [.tmp 6] [] rfl (by kernel_rfl) (fun w hs => trivial) (fun w hs => ⟨_, _, [], rfl, ⟨rfl, rfl⟩, hle, hs⟩)

/-! ### (*loop.example/g00146/impl.layout).next: function 86 -/
def impl_layout_next (p78 : T_impl_layout) : Option T_impl_layout := some (⟨p78.cols, IntKind.i64.wrap (p78.row + 1), 0, p78.cells, false, p78.spots⟩ : T_impl_layout)
set_option maxHeartbeats 4000000 in
set_option maxRecDepth 100000 in
theorem impl_layout_next.calls {p78 : T_impl_layout} {r : T_impl_layout} {I0 : Imm} {g77 : Nat} {A79 : Option Addr} {c80 : Nat} {A82 : Option Addr} {c83 : Nat} (H : impl_layout_next p78 = some r) (hr81 : Rd k_impl_seen I0 A79 c80 p78.cells) (hr84 : Rd k_impl_Spot I0 A82 c83 p78.spots) :
    Meets Try.prog 86 ([.pointer (some ⟨g77, 0, none⟩)] : List Value).toArray I0 [[(g77, .cells #[.int .i64 p78.cols, .int .i64 p78.row, .int .i64 p78.col, .slice A79 p78.cells.length c80, .bool p78.inRow, .slice A82 p78.spots.length c83] 70 (0, 0))]] (fun v J M => ∃ (A_1 : Option Addr) (c_2 : Nat) (A_3 : Option Addr) (c_4 : Nat), v = .tuple #[] ∧ M = [[(g77, .cells #[.int .i64 r.cols, .int .i64 r.row, .int .i64 r.col, .slice A_1 r.cells.length c_2, .bool r.inRow, .slice A_3 r.spots.length c_4] 70 (0, 0))]] ∧ Rd k_impl_seen J A_1 c_2 r.cells ∧ Rd k_impl_Spot J A_3 c_4 r.spots) := by
  have hle := ImmLe.refl I0
  unfold impl_layout_next at H
  refine fn_intro (fn := Try.f86) 15 Try.func86 rfl rfl rfl (fun E Fs => ?_)
  refine at_seq ?_
  refine at_ops [0, 1, 2, 3, 4, 5, 6, 7] rfl ?_
  refine at_seg [0, 1, 2, 3, 4, 5, 6] [7] rfl [(3, .int .i64 p78.row)] [0, 6, 8] (L2 := [(0, .pointer (some ⟨g77, 0, none⟩)), (6, .int .i64 (IntKind.i64.wrap (p78.row + 1))), (8, .pointer (some ⟨g77, 1, none⟩))]) (obs := [fun w => w.cell? ⟨g77, 1, none⟩ = some (.int .i64 p78.row)]) (by kernel_rfl) ?_ ?_
  · intro w hs; exact hs.var (k := 0) rfl 1 rfl
  refine at_eff rfl rfl ?_
  refine eff_store 0 rfl rfl rfl rfl rfl rfl (.inl (Nat.le_refl _)) rfl (Nat.le_of_ble_eq_true (by kernel_rfl)) rfl ?_
  refine at_end ?_
  refine at_thn ?_
  refine at_ops [0, 1, 2, 3, 4, 5, 6, 7] rfl ?_
  refine at_seg [0, 1, 2, 3] [4, 5, 6, 7] rfl [] [10, 12] (L2 := [(10, .pointer (some ⟨g77, 0, none⟩)), (12, .pointer (some ⟨g77, 2, none⟩))]) (obs := []) (by kernel_rfl) ?_ ?_
  · intro w hs; exact trivial
  refine at_eff rfl rfl ?_
  refine eff_store 0 rfl rfl rfl rfl rfl rfl (.inl (Nat.le_refl _)) rfl (Nat.le_of_ble_eq_true (by kernel_rfl)) rfl ?_
  refine at_seg [5, 6] [7] rfl [] [14] (L2 := [(14, .pointer (some ⟨g77, 4, none⟩))]) (obs := []) (by kernel_rfl) ?_ ?_
  · intro w hs; exact trivial
  refine at_eff rfl rfl ?_
  refine eff_store 0 rfl rfl rfl rfl rfl rfl (.inl (Nat.le_refl _)) rfl (Nat.le_of_ble_eq_true (by kernel_rfl)) rfl ?_
  refine at_end ?_
  obtain rfl := Option.some.inj H
  refine at_done (vs := []) (obs := []) (.inr rfl) [] [] rfl (by kernel_rfl) (fun w hs => trivial) (fun w hs => ⟨_, _, [[(g77, .cells #[.int .i64 p78.cols, .int .i64 (IntKind.i64.wrap (p78.row + 1)), .int .i64 0, .slice A79 p78.cells.length c80, .bool false, .slice A82 p78.spots.length c83] 70 (0, 0))]], rfl, ⟨A79, c80, A82, c83, rfl, rfl, hr81, hr84⟩, hle, hs⟩)
end Go.Proofs.Ytocfakbgefdgkaa
