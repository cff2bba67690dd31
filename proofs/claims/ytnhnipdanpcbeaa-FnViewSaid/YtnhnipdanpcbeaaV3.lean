import Derived.Test.YtnhnipdanpcbeaaV2
namespace Go.Proofs.Ytnhnipdanpcbeaa
open Go Eng
set_option linter.unusedVariables false
set_option linter.unusedSimpArgs false
/-! ### loop.example/g00146/spec.DrawViewOf: function 11 -/
def spec_DrawViewOf_j0 : Nat → Int → (List Int) → Int → Int → Int → ((List Int) × T_spec_l01Src) → (T_impl_Buf × T_spec_l01Src) → Option ((List Int) × T_impl_Buf × Bool × Int × Int)
  | 0, _, _, _, _, _, _, _ => none
  | k + 1, x180, x181, x185, x186, x187, b2, b3 => (spec_l01Src_one k (⟨x181, x185, x186, x187⟩ : T_spec_l01Src) 2).bind fun b7 => ((spec_l01Src_l09Cols k b7.2).bind fun b8 => (some (b2.1, b3.1, b7.1, x180, b8.1)))
def spec_DrawViewOf (k : Nat) (p6 : List Int) : Option ((List Int) × T_impl_Buf × Bool × Int × Int) := (spec_l01Source k p6).bind fun b1 => ((spec_l01Src_l09Prompt k b1).bind fun b2 => ((spec_l01Src_l02Buf k b2.2).bind fun b3 => ((spec_l01Src_n k b3.2 6).bind fun b4 => ((spec_l01Src_one k b4.2 15).bind fun b5 => (if b5.1 = true then ((spec_l01Src_n k b5.2 3).bind fun b6 => (if 0 ≤ b6.1 then (if b6.1 < (([0, 24, 25] : List Int).length : Int) then (spec_DrawViewOf_j0 k (rdA 0 ([0, 24, 25] : List Int) b6.1) b6.2.b b6.2.at_ b6.2.mix b6.2.size b2 b3) else none) else none)) else (spec_DrawViewOf_j0 k (IntKind.i64.wrap (1 + b4.1)) b5.2.b b5.2.at_ b5.2.mix b5.2.size b2 b3))))))
set_option maxHeartbeats 4000000 in
set_option maxRecDepth 100000 in
theorem spec_DrawViewOf.calls {k : Nat} {p6 : List Int} {r : (List Int) × T_impl_Buf × Bool × Int × Int} {I0 : Imm} {A7 : Option Addr} {c8 : Nat} (H : spec_DrawViewOf k p6 = some r) (hr9 : Rd (Kd.int .u8) I0 A7 c8 p6) :
    Meets Try.prog 11 ([.slice A7 p6.length c8] : List Value).toArray I0 [] (fun v J M => ∃ (A_1 : Option Addr) (c_2 : Nat) (s_3 : Seg) (A_4 : Option Addr) (c_5 : Nat) (s_6 : Seg), v = .tuple #[.slice A_1 r.1.length c_2, .agg #[.slice A_4 r.2.1.Points.length c_5, .int .i64 r.2.1.Cursor, .int .i64 r.2.1.Mark], .bool r.2.2.1, .int .i64 r.2.2.2.1, .int .i64 r.2.2.2.2] ∧ M = [s_3, s_6] ∧ Own (Kd.int .i64) 2 J A_1 c_2 r.1 s_3 ∧ Own (Kd.int .i64) 2 J A_4 c_5 r.2.1.Points s_6) := by
 have hle := ImmLe.refl I0
 unfold spec_DrawViewOf at H
 refine fn_intro (fn := Try.f11) 34 Try.func11 rfl rfl rfl (fun E Fs => ?_)
 refine at_seq (at_ops [0, 1, 2, 3, 4] rfl ?_)
 refine at_seg0 [0] [1, 2, 3, 4] [] [0] [(0, .slice A7 p6.length c8)] ?_
 refine at_eff rfl rfl ?_
 obtain ⟨i_, hi_, hz_, _, _⟩ := info25
 refine eff_alloc rfl rfl hi_ hz_ #[.slice none ([] : List Int).length 0, iV 0, iV 0] rfl (fun g10 => ?_)
 refine at_seg0 [2, 3, 4] [] [] [0, 3] [(0, .slice A7 p6.length c8), (3, .pointer (some ⟨g10, 0, none⟩))] ?_
 refine at_end (at_thn (at_seq (at_ops [0, 1, 2] rfl ?_)))
 refine at_seg0 [0] [1, 2] [] [3, 11] [(3, .pointer (some ⟨g10, 0, none⟩)), (11, .slice A7 p6.length c8)] ?_
 refine at_eff rfl rfl ?_
 obtain ⟨b1, H11, H⟩ := bind_some H
 have hm_ := spec_l01Source.calls (I0 := I0) H11 hr9
 refine eff_call rfl rfl ok17 rfl rfl (show Meets Try.prog 17 ([.slice A7 p6.length c8] : List Value).toArray _ [] _ from hm_) (Mr := ([(g10, .cells #[.slice none ([] : List Int).length 0, iV 0, iV 0] 25 (0, 0))] :: Fs)) (List.Perm.refl _) (fun v12 J13 M14 hq15 hJ16 => ?_)
 replace hle := hle.trans hJ16
 replace hr9 := hr9.mono hJ16
 obtain ⟨g17, A18, c19, rfl, rfl, hr20⟩ := hq15
 refine at_seg0 [2] [] [] [3, 7] [(3, .pointer (some ⟨g10, 0, none⟩)), (7, .pointer (some ⟨g17, 0, none⟩))] ?_
 refine at_end (at_thn (at_seq (at_ops [0, 1, 2] rfl ?_)))
 refine at_seg0 [0] [1, 2] [] [3, 7, 13] [(3, .pointer (some ⟨g10, 0, none⟩)), (7, .pointer (some ⟨g17, 0, none⟩)), (13, .pointer (some ⟨g17, 0, none⟩))] ?_
 refine at_eff rfl rfl ?_
 obtain ⟨b2, H21, H⟩ := bind_some H
 refine eff_call rfl rfl ok18 rfl rfl (show Meets Try.prog 18 ([.pointer (some ⟨g17, 0, none⟩)] : List Value).toArray _ [[(g17, .cells #[.slice A18 b1.b.length c19, iV b1.at_, .int .u64 b1.mix, iV b1.size] 83 (0, 0))]] _ from spec_l01Src_l09Prompt.calls H21 hr20) (Mr := ([(g10, .cells #[.slice none ([] : List Int).length 0, iV 0, iV 0] 25 (0, 0))] :: Fs)) (List.Perm.refl _) (fun v22 J23 M24 hq25 hJ26 => ?_)
 replace hle := hle.trans hJ26
 replace hr20 := hr20.mono hJ26
 obtain ⟨A27, c28, s29, A31, c32, rfl, rfl, ho30, hr33⟩ := hq25
 refine at_seg0 [2] [] [] [3, 7, 8] [(3, .pointer (some ⟨g10, 0, none⟩)), (7, .pointer (some ⟨g17, 0, none⟩)), (8, .slice A27 b2.1.length c28)] ?_
 refine at_end (at_thn (at_seq (at_ops [0, 1, 2, 3] rfl ?_)))
 refine at_seg0 [0] [1, 2, 3] [] [3, 7, 8, 15] [(3, .pointer (some ⟨g10, 0, none⟩)), (7, .pointer (some ⟨g17, 0, none⟩)), (8, .slice A27 b2.1.length c28), (15, .pointer (some ⟨g17, 0, none⟩))] ?_
 refine at_eff rfl rfl ?_
 obtain ⟨b3, H34, H⟩ := bind_some H
 refine eff_call rfl rfl ok19 rfl rfl (show Meets Try.prog 19 ([.pointer (some ⟨g17, 0, none⟩)] : List Value).toArray _ [[(g17, .cells #[.slice A31 b2.2.b.length c32, iV b2.2.at_, .int .u64 b2.2.mix, iV b2.2.size] 83 (0, 0))]] _ from spec_l01Src_l02Buf.calls H34 hr33) (Mr := (s29 :: [(g10, .cells #[.slice none ([] : List Int).length 0, iV 0, iV 0] 25 (0, 0))] :: Fs)) ((perm_at (k := 1) rfl).trans ((List.Perm.refl _).cons _)) (fun v35 J36 M37 hq38 hJ39 => ?_)
 replace hle := hle.trans hJ39
 replace ho30 := ho30.mono hJ39
 replace hr33 := hr33.mono hJ39
 obtain ⟨A40, c41, s42, A44, c45, rfl, rfl, ho43, hr46⟩ := hq38
 refine at_eff rfl rfl ?_
 obtain ⟨i_, hi_, hz_, _, _⟩ := info25
 refine eff_alloc rfl rfl hi_ hz_ #[.slice none ([] : List Int).length 0, iV 0, iV 0] rfl (fun g47 => ?_)
 refine at_eff rfl rfl ?_
 refine eff_store 0 rfl rfl rfl rfl rfl rfl (.inl (Nat.le_refl _)) rfl (Nat.le_of_ble_eq_true (by kernel_rfl)) rfl ?_
 refine at_sg ([(g47, .cells #[.slice A40 b3.1.Points.length c41, iV b3.1.Cursor, iV b3.1.Mark] 25 (0, 0))] :: s42 :: [(g17, .cells #[.slice A44 b3.2.b.length c45, iV b3.2.at_, .int .u64 b3.2.mix, iV b3.2.size] 83 (0, 0))] :: s29 :: [(g10, .cells #[.slice none ([] : List Int).length 0, iV 0, iV 0] 25 (0, 0))] :: Fs) ?_
 refine at_end (at_thn (at_seq (at_ops [0, 1, 2, 3] rfl ?_)))
 refine at_seg0 [0] [1, 2, 3] [] [3, 7, 8, 9, 17] [(3, .pointer (some ⟨g10, 0, none⟩)), (7, .pointer (some ⟨g17, 0, none⟩)), (8, .slice A27 b2.1.length c28), (9, .pointer (some ⟨g47, 0, none⟩)), (17, .pointer (some ⟨g17, 0, none⟩))] ?_
 refine at_eff rfl rfl ?_
 obtain ⟨b4, H48, H⟩ := bind_some H
 refine eff_call rfl rfl ok29 rfl rfl (show Meets Try.prog 29 ([.pointer (some ⟨g17, 0, none⟩), iV 6] : List Value).toArray _ [[(g17, .cells #[.slice A44 b3.2.b.length c45, iV b3.2.at_, .int .u64 b3.2.mix, iV b3.2.size] 83 (0, 0))]] _ from spec_l01Src_n.calls H48 hr46) (Mr := ([(g47, .cells #[.slice A40 b3.1.Points.length c41, iV b3.1.Cursor, iV b3.1.Mark] 25 (0, 0))] :: s42 :: s29 :: [(g10, .cells #[.slice none ([] : List Int).length 0, iV 0, iV 0] 25 (0, 0))] :: Fs)) ((perm_at (k := 2) rfl).trans ((List.Perm.refl _).cons _)) (fun v49 J50 M51 hq52 hJ53 => ?_)
 replace hle := hle.trans hJ53
 replace ho30 := ho30.mono hJ53
 replace ho43 := ho43.mono hJ53
 replace hr46 := hr46.mono hJ53
 obtain ⟨A54, c55, rfl, rfl, hr56⟩ := hq52
 refine at_seg0 [2, 3] [] [] [3, 7, 8, 9, 10] [(3, .pointer (some ⟨g10, 0, none⟩)), (7, .pointer (some ⟨g17, 0, none⟩)), (8, .slice A27 b2.1.length c28), (9, .pointer (some ⟨g47, 0, none⟩)), (10, iV (IntKind.i64.wrap (1 + b4.1)))] ?_
 refine at_end (at_thn (at_join (fun L I Ms => ∃ (k188 : Nat), ∃ (x180 : Int) (x181 : List Int) (A182 : Option Addr) (c183 : Nat) (x185 : Int) (x186 : Int) (x187 : Int), L = [(3, .pointer (some ⟨g10, 0, none⟩)), (7, .pointer (some ⟨g17, 0, none⟩)), (8, .slice A27 b2.1.length c28), (9, .pointer (some ⟨g47, 0, none⟩)), (10, iV x180)] ∧ Ms = ([(g10, .cells #[.slice none ([] : List Int).length 0, iV 0, iV 0] 25 (0, 0))] :: [(g17, .cells #[.slice A182 x181.length c183, iV x185, .int .u64 x186, iV x187] 83 (0, 0))] :: [(g47, .cells #[.slice A40 b3.1.Points.length c41, iV b3.1.Cursor, iV b3.1.Mark] 25 (0, 0))] :: s29 :: s42 :: Fs) ∧ spec_DrawViewOf_j0 k188 x180 x181 x185 x186 x187 b2 b3 = some r ∧ ImmLe I0 I ∧ k188 ≤ k ∧ Own (Kd.int .i64) 2 I A27 c28 b2.1 s29 ∧ Own (Kd.int .i64) 2 I A40 c41 b3.1.Points s42 ∧ Rd (Kd.int .u8) I A182 c183 x181) ?_ ?_))
 ·
  clear H hle ho30 ho43 hr56
  intro L I Ms h_; obtain ⟨k188, x180, x181, A182, c183, x185, x186, x187, hL_, hM_, H, hle, hk189, ho30, ho43, hr184⟩ := h_; rw [hL_, hM_]; clear hL_ hM_ L Ms
  rcases k188 with _ | k188
  · exact (no_none H).elim
  rw [spec_DrawViewOf_j0] at H
  refine at_seq (at_x hmo (fun w => CellsAt w ⟨g47, 0, none⟩ [.slice A40 b3.1.Points.length c41, iV b3.1.Cursor, iV b3.1.Mark] 0) [8] ?_)
  refine at_xseg [0, 1, 2, 4, 5] 7 (#[true, true, true, false, true, true, false, false, false, false, false, false]) rfl (by kernel_rfl) [(1, .agg #[.slice A40 b3.1.Points.length c41, iV b3.1.Cursor, iV b3.1.Mark])] [3, 27, 28, 29, 31, 32] (L2 := [(3, .pointer (some ⟨g10, 0, none⟩)), (27, .slice A27 b2.1.length c28), (28, .agg #[.slice A40 b3.1.Points.length c41, iV b3.1.Cursor, iV b3.1.Mark]), (29, .pointer (some ⟨g17, 0, none⟩)), (31, iV x180), (32, .pointer (some ⟨g17, 0, none⟩))]) (obs := [fun w => CellsAt w ⟨g47, 0, none⟩ [.slice A40 b3.1.Points.length c41, iV b3.1.Cursor, iV b3.1.Mark] 0]) (by kernel_rfl) (by kernel_rfl) (by kernel_rfl) (.inr fun w hs => cellsV (k := 2) hs rfl _ 0 (Nat.le_of_ble_eq_true (by kernel_rfl)) rfl) (fun w hS => hS) (fun w hs => cellsV (k := 2) hs rfl _ 0 (Nat.le_of_ble_eq_true (by kernel_rfl)) rfl) ?_
  refine at_x1 6 3 (#[true, true, true, true, true, true, false, false, false, false, false, false]) rfl (by kernel_rfl) (by kernel_rfl) rfl rfl ?_
  obtain ⟨b7, H4190, H⟩ := bind_some H
  refine eff_call rfl rfl ok30 rfl rfl (show Meets Try.prog 30 ([.pointer (some ⟨g17, 0, none⟩), iV 2] : List Value).toArray _ [[(g17, .cells #[.slice A182 x181.length c183, iV x185, .int .u64 x186, iV x187] 83 (0, 0))]] _ from spec_l01Src_one.calls H4190 hr184) (Mr := ([(g10, .cells #[.slice none ([] : List Int).length 0, iV 0, iV 0] 25 (0, 0))] :: [(g47, .cells #[.slice A40 b3.1.Points.length c41, iV b3.1.Cursor, iV b3.1.Mark] 25 (0, 0))] :: s29 :: s42 :: Fs)) ((perm_at (k := 1) rfl).trans ((List.Perm.refl _).cons _)) (fun v4191 J4192 M4193 hq4194 hJ4195 => ?_)
  replace hle := hle.trans hJ4195
  replace ho30 := ho30.mono hJ4195
  replace ho43 := ho43.mono hJ4195
  replace hr184 := hr184.mono hJ4195
  obtain ⟨A4196, c4197, rfl, rfl, hr4198⟩ := hq4194
  refine at_xS (fun w hs => cellsV (k := 2) hs rfl _ 0 (Nat.le_of_ble_eq_true (by kernel_rfl)) rfl) ?_
  refine at_x1 5 6 (#[true, true, true, true, true, true, true, false, false, false, false, false]) rfl (by kernel_rfl) (by kernel_rfl) rfl rfl ?_
  obtain ⟨b8, H7190, H⟩ := bind_some H
  refine eff_call rfl rfl ok20 rfl rfl (show Meets Try.prog 20 ([.pointer (some ⟨g17, 0, none⟩)] : List Value).toArray _ [[(g17, .cells #[.slice A4196 b7.2.b.length c4197, iV b7.2.at_, .int .u64 b7.2.mix, iV b7.2.size] 83 (0, 0))]] _ from spec_l01Src_l09Cols.calls H7190 hr4198) (Mr := ([(g10, .cells #[.slice none ([] : List Int).length 0, iV 0, iV 0] 25 (0, 0))] :: [(g47, .cells #[.slice A40 b3.1.Points.length c41, iV b3.1.Cursor, iV b3.1.Mark] 25 (0, 0))] :: s29 :: s42 :: Fs)) (List.Perm.refl _) (fun v7191 J7192 M7193 hq7194 hJ7195 => ?_)
  replace hle := hle.trans hJ7195
  replace ho30 := ho30.mono hJ7195
  replace ho43 := ho43.mono hJ7195
  replace hr4198 := hr4198.mono hJ7195
  obtain ⟨A7196, c7197, rfl, rfl, hr7198⟩ := hq7194
  refine at_xS (fun w hs => cellsV (k := 2) hs rfl _ 0 (Nat.le_of_ble_eq_true (by kernel_rfl)) rfl) ?_
  refine at_xseg [7] 4 (#[true, true, true, true, true, true, true, true, false, false, false, false]) rfl (by kernel_rfl) [] [2, 3, 28, 30, 31, 33] (L2 := [(2, .slice A27 b2.1.length c28), (3, .pointer (some ⟨g10, 0, none⟩)), (28, .agg #[.slice A40 b3.1.Points.length c41, iV b3.1.Cursor, iV b3.1.Mark]), (30, .bool b7.1), (31, iV x180), (33, iV b8.1)]) (obs := []) (by kernel_rfl) (by kernel_rfl) (by kernel_rfl) (.inr fun w hs => cellsV (k := 2) hs rfl _ 0 (Nat.le_of_ble_eq_true (by kernel_rfl)) rfl) (fun w hS => trivial) (fun w hs => trivial) ?_
  refine at_x1 3 8 (#[true, true, true, true, true, true, true, true, true, false, false, false]) rfl (by kernel_rfl) (by kernel_rfl) rfl rfl ?_
  refine eff_store 1 rfl rfl rfl rfl rfl rfl (.inl (Nat.le_refl _)) rfl (Nat.le_of_ble_eq_true (by kernel_rfl)) rfl ?_
  refine at_sg ([(g17, .cells #[.slice A7196 b8.2.b.length c7197, iV b8.2.at_, .int .u64 b8.2.mix, iV b8.2.size] 83 (0, 0))] :: [(g10, .cells #[.slice A40 b3.1.Points.length c41, iV b3.1.Cursor, iV b3.1.Mark] 25 (0, 0))] :: [(g47, .cells #[.slice A40 b3.1.Points.length c41, iV b3.1.Cursor, iV b3.1.Mark] 25 (0, 0))] :: s29 :: s42 :: Fs) ?_
  refine at_xX (by kernel_rfl) ?_
  refine at_xseg [9, 10, 11] 0 (#[true, true, true, true, true, true, true, true, true, true, true, true]) rfl (by kernel_rfl) [] [2, 3, 4, 5, 6] (L2 := [(2, .slice A27 b2.1.length c28), (3, .pointer (some ⟨g10, 0, none⟩)), (4, .bool b7.1), (5, iV x180), (6, iV b8.1)]) (obs := []) (by kernel_rfl) (by kernel_rfl) (by kernel_rfl) (.inl (by kernel_rfl)) (fun w hS => trivial) (fun w hs => trivial) ?_
  refine at_xend (by kernel_rfl) ?_
  refine at_thn (at_ret ?_)
  obtain rfl := Option.some.inj H
  refine at_drop (k := 0) rfl rfl ?_
  refine at_drop (k := 1) rfl rfl ?_
  refine at_perm ((perm_at (k := 1) rfl).trans (((perm_at (k := 1) rfl).trans ((List.Perm.refl _).cons _)).cons _)) ?_
  refine at_done (vs := [.slice A27 b2.1.length c28, .agg #[.slice A40 b3.1.Points.length c41, iV b3.1.Cursor, iV b3.1.Mark], .bool b7.1, iV x180, iV b8.1]) (obs := [fun w => CellsAt w ⟨g10, 0, none⟩ [.slice A40 b3.1.Points.length c41, iV b3.1.Cursor, iV b3.1.Mark] 0]) (.inl rfl) [.tmp 2, .cell 3 25, .tmp 4, .tmp 5, .tmp 6] [(3, .agg #[.slice A40 b3.1.Points.length c41, iV b3.1.Cursor, iV b3.1.Mark])] rfl (by kernel_rfl) (fun w hs => cellsV (k := 2) hs rfl _ 0 (Nat.le_of_ble_eq_true (by kernel_rfl)) rfl) (fun w hs => ⟨_, _, [s29, s42], rfl, ⟨A27, c28, s29, A40, c41, s42, rfl, rfl, ho30, ho43⟩, hle, (hs.tail (perm_at (k := 2) rfl))⟩)
 ·
  intro Jn57
  refine at_seq (at_ops [0, 1] rfl ?_)
  refine at_seg0 [0] [1] [] [3, 7, 8, 9, 10, 20] [(3, .pointer (some ⟨g10, 0, none⟩)), (7, .pointer (some ⟨g17, 0, none⟩)), (8, .slice A27 b2.1.length c28), (9, .pointer (some ⟨g47, 0, none⟩)), (10, iV (IntKind.i64.wrap (1 + b4.1))), (20, .pointer (some ⟨g17, 0, none⟩))] ?_
  refine at_eff rfl rfl ?_
  obtain ⟨b5, H57, H⟩ := bind_some H
  refine eff_call rfl rfl ok30 rfl rfl (show Meets Try.prog 30 ([.pointer (some ⟨g17, 0, none⟩), iV 15] : List Value).toArray _ [[(g17, .cells #[.slice A54 b4.2.b.length c55, iV b4.2.at_, .int .u64 b4.2.mix, iV b4.2.size] 83 (0, 0))]] _ from spec_l01Src_one.calls H57 hr56) (Mr := ([(g47, .cells #[.slice A40 b3.1.Points.length c41, iV b3.1.Cursor, iV b3.1.Mark] 25 (0, 0))] :: s42 :: s29 :: [(g10, .cells #[.slice none ([] : List Int).length 0, iV 0, iV 0] 25 (0, 0))] :: Fs)) (List.Perm.refl _) (fun v58 J59 M60 hq61 hJ62 => ?_)
  replace hle := hle.trans hJ62
  replace ho30 := ho30.mono hJ62
  replace ho43 := ho43.mono hJ62
  replace hr56 := hr56.mono hJ62
  obtain ⟨A63, c64, rfl, rfl, hr65⟩ := hq61
  refine at_end (at_thn ?_)
  by_cases h66 : b5.1 = true
  ·
   rw [if_pos h66] at H
   refine at_cond_t rfl (h66) ?_
   refine at_ops [0, 1, 2, 3, 4, 5] rfl ?_
   refine at_eff rfl rfl ?_
   refine eff_buildSlice (e := 2) (cells := #[iV 0, iV 24, iV 25]) ([0, 24, 25] : List Int).length rfl rfl rfl (by kernel_rfl) (fun g67 => ?_)
   have ho68 := own_lit (K := (Kd.int .i64)) (e := 2) (I := J59) (xs := ([0, 24, 25] : List Int)) (css := [[iV 0], [iV 24], [iV 25]]) (cells := #[iV 0, iV 24, iV 25]) (b := g67) ⟨rfl, ⟨rfl, ⟨rfl, trivial⟩⟩⟩ rfl
   refine at_seg0 [1] [2, 3, 4, 5] [] [3, 7, 8, 9, 10, 22, 23] [(3, .pointer (some ⟨g10, 0, none⟩)), (7, .pointer (some ⟨g17, 0, none⟩)), (8, .slice A27 b2.1.length c28), (9, .pointer (some ⟨g47, 0, none⟩)), (10, iV (IntKind.i64.wrap (1 + b4.1))), (22, .slice (some ⟨g67, 0, none⟩ : Option Addr) ([0, 24, 25] : List Int).length (([0, 24, 25] : List Int).length)), (23, .pointer (some ⟨g17, 0, none⟩))] ?_
   refine at_eff rfl rfl ?_
   obtain ⟨b6, H69, H⟩ := bind_some H
   refine eff_call rfl rfl ok29 rfl rfl (show Meets Try.prog 29 ([.pointer (some ⟨g17, 0, none⟩), iV 3] : List Value).toArray _ [[(g17, .cells #[.slice A63 b5.2.b.length c64, iV b5.2.at_, .int .u64 b5.2.mix, iV b5.2.size] 83 (0, 0))]] _ from spec_l01Src_n.calls H69 hr65) (Mr := ([(g67, .cells #[iV 0, iV 24, iV 25] 2 (0, 0))] :: [(g47, .cells #[.slice A40 b3.1.Points.length c41, iV b3.1.Cursor, iV b3.1.Mark] 25 (0, 0))] :: s42 :: s29 :: [(g10, .cells #[.slice none ([] : List Int).length 0, iV 0, iV 0] 25 (0, 0))] :: Fs)) ((perm_at (k := 1) rfl).trans ((List.Perm.refl _).cons _)) (fun v70 J71 M72 hq73 hJ74 => ?_)
   replace hle := hle.trans hJ74
   replace ho30 := ho30.mono hJ74
   replace ho43 := ho43.mono hJ74
   replace ho68 := ho68.mono hJ74
   replace hr65 := hr65.mono hJ74
   obtain ⟨A75, c76, rfl, rfl, hr77⟩ := hq73
   obtain ⟨h78, H⟩ := ite_some H
   obtain ⟨h79, H⟩ := ite_some H
   refine at_seg1 [3, 4, 5] [] [(4, iV (rdA 0 ([0, 24, 25] : List Int) b6.1))] [3, 7, 8, 9, 10] [(3, .pointer (some ⟨g10, 0, none⟩)), (7, .pointer (some ⟨g17, 0, none⟩)), (8, .slice A27 b2.1.length c28), (9, .pointer (some ⟨g47, 0, none⟩)), (10, iV (rdA 0 ([0, 24, 25] : List Int) b6.1))] [fun _ => (some ⟨g67, 0, none⟩ : Option Addr).isSome = true ∧ 0 ≤ b6.1 ∧ b6.1 < ((([0, 24, 25] : List Int).length : Nat) : Int), fun w => w.cell? (((some ⟨g67, 0, none⟩ : Option Addr).getD ad0).add (b6.1.toNat * 1)) = some (iV (rdA 0 ([0, 24, 25] : List Int) b6.1))] (fun w hs => ⟨⟨ho68.ne b6.1 h78 h79, h78, h79⟩, ho68.one 0 b6.1 h78 h79 hs (k := 1) rfl⟩) ?_
   refine at_end (at_thn (at_drop (k := 1) rfl rfl ?_))
   refine at_sg ([(g17, .cells #[.slice A75 b6.2.b.length c76, iV b6.2.at_, .int .u64 b6.2.mix, iV b6.2.size] 83 (0, 0))] :: [(g47, .cells #[.slice A40 b3.1.Points.length c41, iV b3.1.Cursor, iV b3.1.Mark] 25 (0, 0))] :: s42 :: s29 :: [(g10, .cells #[.slice none ([] : List Int).length 0, iV 0, iV 0] 25 (0, 0))] :: Fs) ?_
   refine at_perm ((perm_at (k := 4) rfl).trans (((((perm_at (k := 1) rfl).trans ((List.Perm.refl _).cons _)).cons _).cons _).cons _)) ?_
   refine at_keep [3, 7, 8, 9, 10] (L2 := [(3, .pointer (some ⟨g10, 0, none⟩)), (7, .pointer (some ⟨g17, 0, none⟩)), (8, .slice A27 b2.1.length c28), (9, .pointer (some ⟨g47, 0, none⟩)), (10, iV (rdA 0 ([0, 24, 25] : List Int) b6.1))]) rfl ?_
   exact Jn57 _ _ _ ⟨_, rdA 0 ([0, 24, 25] : List Int) b6.1, b6.2.b, A75, c76, b6.2.at_, b6.2.mix, b6.2.size, rfl, rfl, H, hle, by omega, ho30, ho43, hr77⟩
  ·
   rw [if_neg h66] at H
   refine at_cond_f rfl (ff_of h66) ?_
   refine at_skip (at_thn (at_perm ((perm_at (k := 4) rfl).trans (((((perm_at (k := 1) rfl).trans ((List.Perm.refl _).cons _)).cons _).cons _).cons _)) ?_))
   refine at_keep [3, 7, 8, 9, 10] (L2 := [(3, .pointer (some ⟨g10, 0, none⟩)), (7, .pointer (some ⟨g17, 0, none⟩)), (8, .slice A27 b2.1.length c28), (9, .pointer (some ⟨g47, 0, none⟩)), (10, iV (IntKind.i64.wrap (1 + b4.1)))]) rfl ?_
   exact Jn57 _ _ _ ⟨_, IntKind.i64.wrap (1 + b4.1), b5.2.b, A63, c64, b5.2.at_, b5.2.mix, b5.2.size, rfl, rfl, H, hle, by omega, ho30, ho43, hr65⟩

/-! ### loop.example/g00146/spec.l01Point: function 49 -/
def spec_l01Point (p42 : Int) : Option Bool := if p42 ≥ 0 then (if p42 ≤ 1114111 then (if p42 ≥ 55296 then (some (!(decide (p42 ≤ 57343)))) else (some true)) else (some false)) else (some false)
set_option maxHeartbeats 4000000 in
set_option maxRecDepth 100000 in
theorem spec_l01Point.calls {p42 : Int} {r : Bool} {I0 : Imm} (H : spec_l01Point p42 = some r) :
    Meets Try.prog 49 ([.int .i64 p42] : List Value).toArray I0 [] (fun v J M => v = .bool r ∧ M = []) := by
 have hle := ImmLe.refl I0
 unfold spec_l01Point at H
 refine fn_intro (fn := Try.f49) 18 Try.func49 rfl rfl rfl (fun E Fs => ?_)
 refine at_seq (at_reg0 [] [0] [(0, iV p42)] ?_)
 refine at_thn (at_seq ?_)
 by_cases h43 : p42 ≥ 0
 ·
  rw [if_pos h43] at H
  by_cases h44 : p42 ≤ 1114111
  ·
   rw [if_pos h44] at H
   by_cases h45 : p42 ≥ 55296
   ·
    rw [if_pos h45] at H
    refine at_reg1 [(2, .bool true), (6, .bool true), (9, .bool true)] [2] [(2, .bool (!(decide (p42 ≤ 57343))))] [oT (p42 ≥ 0), oT (p42 ≤ 1114111), oT (p42 ≥ 55296)] (fun w hs => ⟨cT (h43), cT (h44), cT (h45)⟩) ?_
    refine at_thn (at_ret ?_)
    obtain rfl := Option.some.inj H
    exact at_done0 [.bool (!(decide (p42 ≤ 57343)))] (.inl rfl) [.tmp 2] fun w hs => ⟨_, _, [], rfl, ⟨rfl, rfl⟩, hle, hs⟩
   ·
    rw [if_neg h45] at H
    refine at_reg1 [(2, .bool true), (6, .bool true), (9, .bool false)] [2] [(2, .bool true)] [oT (p42 ≥ 0), oT (p42 ≤ 1114111), oF (p42 ≥ 55296)] (fun w hs => ⟨cT (h43), cT (h44), cF (h45)⟩) ?_
    refine at_thn (at_ret ?_)
    obtain rfl := Option.some.inj H
    exact at_done0 [.bool true] (.inl rfl) [.tmp 2] fun w hs => ⟨_, _, [], rfl, ⟨rfl, rfl⟩, hle, hs⟩
  ·
   rw [if_neg h44] at H
   refine at_reg1 [(2, .bool true), (6, .bool false)] [2] [(2, .bool false)] [oT (p42 ≥ 0), oF (p42 ≤ 1114111)] (fun w hs => ⟨cT (h43), cF (h44)⟩) ?_
   refine at_thn (at_ret ?_)
   obtain rfl := Option.some.inj H
   exact at_done0 [.bool false] (.inl rfl) [.tmp 2] fun w hs => ⟨_, _, [], rfl, ⟨rfl, rfl⟩, hle, hs⟩
 ·
  rw [if_neg h43] at H
  refine at_reg1 [(2, .bool false)] [2] [(2, .bool false)] [oF (p42 ≥ 0)] (fun w hs => cF (h43)) ?_
  refine at_thn (at_ret ?_)
  obtain rfl := Option.some.inj H
  exact at_done0 [.bool false] (.inl rfl) [.tmp 2] fun w hs => ⟨_, _, [], rfl, ⟨rfl, rfl⟩, hle, hs⟩

/-! ### loop.example/g00146/spec.PointsRight: function 24 -/
def spec_PointsRight_l0 : Nat → Int → (List Int) → Option Bool
  | 0, _, _ => none
  | k + 1, x40, p35 => if x40 < (p35.length : Int) then (if 0 ≤ x40 then ((spec_l01Point (rdA 0 p35 x40)).bind fun b2 => (if b2 = true then (spec_PointsRight_l0 k (IntKind.i64.wrap (x40 + 1)) p35) else (some false))) else none) else (some true)
def spec_PointsRight (k : Nat) (p35 : List Int) : Option Bool := if (p35.length : Int) > 300 then (some false) else (spec_PointsRight_l0 k 0 p35)
set_option maxHeartbeats 4000000 in
set_option maxRecDepth 100000 in
theorem spec_PointsRight.calls {k : Nat} {p35 : List Int} {r : Bool} {I0 : Imm} {A36 : Option Addr} {c37 : Nat} (H : spec_PointsRight k p35 = some r) (hr38 : Rd (Kd.int .i64) I0 A36 c37 p35) :
    Meets Try.prog 24 ([.slice A36 p35.length c37] : List Value).toArray I0 [] (fun v J M => v = .bool r ∧ M = []) := by
 have hle := ImmLe.refl I0
 unfold spec_PointsRight at H
 refine fn_intro (fn := Try.f24) 19 Try.func24 rfl rfl rfl (fun E Fs => ?_)
 refine at_seq (at_reg0 [] [0] [(0, .slice A36 p35.length c37)] ?_)
 refine at_thn (at_seq (at_seq (at_reg0 [] [0, 6] [(0, .slice A36 p35.length c37), (6, .bool (decide ((p35.length : Int) > 300)))] ?_)))
 refine at_thn ?_
 by_cases h39 : (p35.length : Int) > 300
 ·
  rw [if_pos h39] at H
  refine at_cond_t rfl (decide_eq_true h39) ?_
  refine at_seq (at_reg0 [] [2] [(2, .bool false)] ?_)
  refine at_thn (at_ret (at_then_ret ?_))
  obtain rfl := Option.some.inj H
  exact at_done0 [.bool false] (.inl rfl) [.tmp 2] fun w hs => ⟨_, _, [], rfl, ⟨rfl, rfl⟩, hle, hs⟩
 ·
  rw [if_neg h39] at H
  refine at_cond_f rfl (decide_eq_false h39) ?_
  refine at_skip (at_thn (at_seq (at_seq (at_reg0 [] [0, 3] [(0, .slice A36 p35.length c37), (3, iV 0)] ?_))))
  refine at_thn (at_block (at_keep [0, 3] (L2 := [(0, .slice A36 p35.length c37), (3, iV 0)]) rfl ?_))
  refine at_loop (fun k41 L I Ms => ∃ (x40 : Int), L = [(0, .slice A36 p35.length c37), (3, iV x40)] ∧ Ms = ([] ++ Fs) ∧ spec_PointsRight_l0 k41 x40 p35 = some r ∧ ImmLe I0 I ∧ k41 ≤ k ∧ Rd (Kd.int .i64) I A36 c37 p35) ?_ ?_ k ⟨0, rfl, rfl, H, hle, Nat.le_refl _, hr38⟩
  · rintro L I Ms ⟨_, rfl, rfl, H, _⟩; exact no_none H
  ·
   clear H hle hr38
   intro k41 ih42 L I Ms h_; obtain ⟨x40, hL_, hM_, H, hle, hk43, hr38⟩ := h_; rw [hL_, hM_]; clear hL_ hM_ L Ms
   rw [spec_PointsRight_l0] at H
   refine at_seq (at_seq (at_reg0 [] [0, 3, 10] [(0, .slice A36 p35.length c37), (3, iV x40), (10, .bool (decide (x40 < (p35.length : Int))))] ?_))
   refine at_thn ?_
   by_cases h44 : x40 < (p35.length : Int)
   ·
    rw [if_pos h44] at H
    refine at_cond_t rfl (decide_eq_true h44) ?_
    refine at_skip (at_thn (at_seq (at_block (at_seq (at_ops [0, 1, 2, 3, 4, 5] rfl ?_)))))
    obtain ⟨h45, H⟩ := ite_some H
    refine at_seg1 [0, 1, 2, 3] [4, 5] [(3, iV (rdA 0 p35 x40))] [0, 3, 16] [(0, .slice A36 p35.length c37), (3, iV x40), (16, iV (rdA 0 p35 x40))] [fun _ => A36.isSome = true ∧ 0 ≤ x40 ∧ x40 < ((p35.length : Nat) : Int), fun w => w.cell? ((A36.getD ad0).add (x40.toNat * 1)) = some (iV (rdA 0 p35 x40))] (fun w hs => ⟨⟨hr38.ne x40 h45 h44, h45, h44⟩, hr38.one 0 x40 h45 h44 hs⟩) ?_
    refine at_eff rfl rfl ?_
    obtain ⟨b2, H46, H⟩ := bind_some H
    have hm_ := spec_l01Point.calls (I0 := I) H46
    refine eff_call rfl rfl ok49 rfl rfl (show Meets Try.prog 49 ([iV (rdA 0 p35 x40)] : List Value).toArray _ [] _ from hm_) (Mr := (Fs)) (List.Perm.refl _) (fun v47 J48 M49 hq50 hJ51 => ?_)
    replace hle := hle.trans hJ51
    replace hr38 := hr38.mono hJ51
    obtain ⟨rfl, rfl⟩ := hq50
    refine at_seg0 [5] [] [] [0, 3, 18] [(0, .slice A36 p35.length c37), (3, iV x40), (18, .bool (!b2))] ?_
    refine at_end (at_thn ?_)
    by_cases h52 : b2 = true
    ·
     rw [if_pos h52] at H
     refine at_cond_f rfl (not_ff (h52)) ?_
     refine at_skip (at_in_norm (at_thn (at_reg0 [] [0, 3] [(0, .slice A36 p35.length c37), (3, iV (IntKind.i64.wrap (x40 + 1)))] ?_)))
     refine at_thn (at_keep [0, 3] (L2 := [(0, .slice A36 p35.length c37), (3, iV (IntKind.i64.wrap (x40 + 1)))]) rfl ?_)
     exact ih42 _ (by omega) _ _ _ ⟨IntKind.i64.wrap (x40 + 1), rfl, rfl, H, hle, by omega, hr38⟩
    ·
     rw [if_neg h52] at H
     refine at_cond_t rfl (not_tt (ff_of h52)) ?_
     refine at_seq (at_reg0 [] [2] [(2, .bool false)] ?_)
     refine at_thn (at_ret (at_in_ret (at_then_ret (at_then_ret (at_in_ret (at_then_ret ?_))))))
     obtain rfl := Option.some.inj H
     exact at_done0 [.bool false] (.inl rfl) [.tmp 2] fun w hs => ⟨_, _, [], rfl, ⟨rfl, rfl⟩, hle, hs⟩
   ·
    rw [if_neg h44] at H
    refine at_cond_f rfl (decide_eq_false h44) ?_
    refine at_exit (at_then_exit (at_then_exit (at_in_hit (at_thn (at_seq (at_reg0 [] [2] [(2, .bool true)] ?_))))))
    refine at_thn (at_ret ?_)
    obtain rfl := Option.some.inj H
    exact at_done0 [.bool true] (.inl rfl) [.tmp 2] fun w hs => ⟨_, _, [], rfl, ⟨rfl, rfl⟩, hle, hs⟩

/-! ### loop.example/g00146/spec.BufRight: function 25 -/
def spec_BufRight (k : Nat) (p42 : T_impl_Buf) : Option Bool := (spec_PointsRight k p42.Points).bind fun b3 => (if b3 = true then (if p42.Cursor ≥ 0 then (if p42.Cursor ≤ (p42.Points.length : Int) then (if p42.Mark ≥ 0 then (some (decide (p42.Mark ≤ (p42.Points.length : Int)))) else (some false)) else (some false)) else (some false)) else (some false))
set_option maxHeartbeats 4000000 in
set_option maxRecDepth 100000 in
theorem spec_BufRight.calls {k : Nat} {p42 : T_impl_Buf} {r : Bool} {I0 : Imm} {A43 : Option Addr} {c44 : Nat} (H : spec_BufRight k p42 = some r) (hr45 : Rd (Kd.int .i64) I0 A43 c44 p42.Points) :
    Meets Try.prog 25 ([.agg #[.slice A43 p42.Points.length c44, .int .i64 p42.Cursor, .int .i64 p42.Mark]] : List Value).toArray I0 [] (fun v J M => v = .bool r ∧ M = []) := by
 have hle := ImmLe.refl I0
 unfold spec_BufRight at H
 refine fn_intro (fn := Try.f25) 32 Try.func25 rfl rfl rfl (fun E Fs => ?_)
 refine at_seq (at_ops [0, 1] rfl ?_)
 refine at_eff rfl rfl ?_
 refine eff_box rfl rfl rfl #[.slice A43 p42.Points.length c44, iV p42.Cursor, iV p42.Mark] rfl (fun g46 => ?_)
 refine at_seg0 [1] [] [] [1] [(1, .pointer (some ⟨g46, 0, none⟩))] ?_
 refine at_end (at_thn (at_seq (at_reg1 [(1, .slice A43 p42.Points.length c44)] [1, 3] [(1, .pointer (some ⟨g46, 0, none⟩)), (3, iV (p42.Points.length : Int))] [fun w => w.cell? ⟨g46, 0, none⟩ = some (.slice A43 p42.Points.length c44)] (fun w hs => hs.var (k := 0) rfl 0 rfl) ?_)))
 refine at_thn (at_seq (at_ops [0, 1, 2, 3, 4, 5, 6, 7, 8, 9, 10, 11, 12, 13, 14, 15, 16, 17, 18, 19, 20, 21, 22, 23, 24, 25] rfl ?_))
 refine at_seg1 [0, 1] [2, 3, 4, 5, 6, 7, 8, 9, 10, 11, 12, 13, 14, 15, 16, 17, 18, 19, 20, 21, 22, 23, 24, 25] [(1, .slice A43 p42.Points.length c44)] [1, 3, 8] [(1, .pointer (some ⟨g46, 0, none⟩)), (3, iV (p42.Points.length : Int)), (8, .slice A43 p42.Points.length c44)] [fun w => w.cell? ⟨g46, 0, none⟩ = some (.slice A43 p42.Points.length c44)] (fun w hs => hs.var (k := 0) rfl 0 rfl) ?_
 refine at_eff rfl rfl ?_
 obtain ⟨b3, H47, H⟩ := bind_some H
 have hm_ := spec_PointsRight.calls (I0 := I0) H47 hr45
 refine eff_call rfl rfl ok24 rfl rfl (show Meets Try.prog 24 ([.slice A43 p42.Points.length c44] : List Value).toArray _ [] _ from hm_) (Mr := ([(g46, .cells #[.slice A43 p42.Points.length c44, iV p42.Cursor, iV p42.Mark] 25 (0, 0))] :: Fs)) (List.Perm.refl _) (fun v48 J49 M50 hq51 hJ52 => ?_)
 replace hle := hle.trans hJ52
 replace hr45 := hr45.mono hJ52
 obtain ⟨rfl, rfl⟩ := hq51
 by_cases h53 : b3 = true
 ·
  rw [if_pos h53] at H
  by_cases h54 : p42.Cursor ≥ 0
  ·
   rw [if_pos h54] at H
   by_cases h55 : p42.Cursor ≤ (p42.Points.length : Int)
   ·
    rw [if_pos h55] at H
    by_cases h56 : p42.Mark ≥ 0
    ·
     rw [if_pos h56] at H
     refine at_seg1 [3, 4, 5, 6, 7, 8, 9, 10, 11, 12, 13, 14, 15, 16, 17, 18, 19, 20, 21, 22, 23, 24, 25] [] [(3, .bool true), (5, iV p42.Cursor), (8, .bool true), (10, iV p42.Cursor), (14, .bool true), (16, iV p42.Mark), (19, .bool true), (21, iV p42.Mark)] [2] [(2, .bool (decide (p42.Mark ≤ (p42.Points.length : Int))))] [fun _ => (.bool b3 : Value) = .bool true, fun w => w.cell? ⟨g46, 1, none⟩ = some (iV p42.Cursor), oT (p42.Cursor ≥ 0), fun w => w.cell? ⟨g46, 1, none⟩ = some (iV p42.Cursor), oT (p42.Cursor ≤ (p42.Points.length : Int)), fun w => w.cell? ⟨g46, 2, none⟩ = some (iV p42.Mark), oT (p42.Mark ≥ 0), fun w => w.cell? ⟨g46, 2, none⟩ = some (iV p42.Mark)] (fun w hs => ⟨congrArg Value.bool (h53), hs.var (k := 0) rfl 1 rfl, cT (h54), hs.var (k := 0) rfl 1 rfl, cT (h55), hs.var (k := 0) rfl 2 rfl, cT (h56), hs.var (k := 0) rfl 2 rfl⟩) ?_
     refine at_end (at_thn (at_ret ?_))
     obtain rfl := Option.some.inj H
     refine at_drop (k := 0) rfl rfl ?_
     exact at_done0 [.bool (decide (p42.Mark ≤ (p42.Points.length : Int)))] (.inl rfl) [.tmp 2] fun w hs => ⟨_, _, [], rfl, ⟨rfl, rfl⟩, hle, hs⟩
    ·
     rw [if_neg h56] at H
     refine at_seg1 [3, 4, 5, 6, 7, 8, 9, 10, 11, 12, 13, 14, 15, 16, 17, 18, 19, 20, 21, 22, 23, 24, 25] [] [(3, .bool true), (5, iV p42.Cursor), (8, .bool true), (10, iV p42.Cursor), (14, .bool true), (16, iV p42.Mark), (19, .bool false)] [2] [(2, .bool false)] [fun _ => (.bool b3 : Value) = .bool true, fun w => w.cell? ⟨g46, 1, none⟩ = some (iV p42.Cursor), oT (p42.Cursor ≥ 0), fun w => w.cell? ⟨g46, 1, none⟩ = some (iV p42.Cursor), oT (p42.Cursor ≤ (p42.Points.length : Int)), fun w => w.cell? ⟨g46, 2, none⟩ = some (iV p42.Mark), oF (p42.Mark ≥ 0)] (fun w hs => ⟨congrArg Value.bool (h53), hs.var (k := 0) rfl 1 rfl, cT (h54), hs.var (k := 0) rfl 1 rfl, cT (h55), hs.var (k := 0) rfl 2 rfl, cF (h56)⟩) ?_
     refine at_end (at_thn (at_ret ?_))
     obtain rfl := Option.some.inj H
     refine at_drop (k := 0) rfl rfl ?_
     exact at_done0 [.bool false] (.inl rfl) [.tmp 2] fun w hs => ⟨_, _, [], rfl, ⟨rfl, rfl⟩, hle, hs⟩
   ·
    rw [if_neg h55] at H
    refine at_seg1 [3, 4, 5, 6, 7, 8, 9, 10, 11, 12, 13, 14, 15, 16, 17, 18, 19, 20, 21, 22, 23, 24, 25] [] [(3, .bool true), (5, iV p42.Cursor), (8, .bool true), (10, iV p42.Cursor), (14, .bool false)] [2] [(2, .bool false)] [fun _ => (.bool b3 : Value) = .bool true, fun w => w.cell? ⟨g46, 1, none⟩ = some (iV p42.Cursor), oT (p42.Cursor ≥ 0), fun w => w.cell? ⟨g46, 1, none⟩ = some (iV p42.Cursor), oF (p42.Cursor ≤ (p42.Points.length : Int))] (fun w hs => ⟨congrArg Value.bool (h53), hs.var (k := 0) rfl 1 rfl, cT (h54), hs.var (k := 0) rfl 1 rfl, cF (h55)⟩) ?_
    refine at_end (at_thn (at_ret ?_))
    obtain rfl := Option.some.inj H
    refine at_drop (k := 0) rfl rfl ?_
    exact at_done0 [.bool false] (.inl rfl) [.tmp 2] fun w hs => ⟨_, _, [], rfl, ⟨rfl, rfl⟩, hle, hs⟩
  ·
   rw [if_neg h54] at H
   refine at_seg1 [3, 4, 5, 6, 7, 8, 9, 10, 11, 12, 13, 14, 15, 16, 17, 18, 19, 20, 21, 22, 23, 24, 25] [] [(3, .bool true), (5, iV p42.Cursor), (8, .bool false)] [2] [(2, .bool false)] [fun _ => (.bool b3 : Value) = .bool true, fun w => w.cell? ⟨g46, 1, none⟩ = some (iV p42.Cursor), oF (p42.Cursor ≥ 0)] (fun w hs => ⟨congrArg Value.bool (h53), hs.var (k := 0) rfl 1 rfl, cF (h54)⟩) ?_
   refine at_end (at_thn (at_ret ?_))
   obtain rfl := Option.some.inj H
   refine at_drop (k := 0) rfl rfl ?_
   exact at_done0 [.bool false] (.inl rfl) [.tmp 2] fun w hs => ⟨_, _, [], rfl, ⟨rfl, rfl⟩, hle, hs⟩
 ·
  rw [if_neg h53] at H
  refine at_seg1 [3, 4, 5, 6, 7, 8, 9, 10, 11, 12, 13, 14, 15, 16, 17, 18, 19, 20, 21, 22, 23, 24, 25] [] [(3, .bool false)] [2] [(2, .bool false)] [fun _ => (.bool b3 : Value) = .bool false] (fun w hs => congrArg Value.bool (ff_of h53)) ?_
  refine at_end (at_thn (at_ret ?_))
  obtain rfl := Option.some.inj H
  refine at_drop (k := 0) rfl rfl ?_
  exact at_done0 [.bool false] (.inl rfl) [.tmp 2] fun w hs => ⟨_, _, [], rfl, ⟨rfl, rfl⟩, hle, hs⟩

/-! ### loop.example/g00146/spec.l08Size: function 26 -/
def spec_l08Size (p49 : Int) (p50 : Int) : Option Bool := if p49 ≥ 1 then (if p49 ≤ 24 then (if p50 ≥ 2 then (some (decide (p50 ≤ 80))) else (some false)) else (some false)) else (some false)
set_option maxHeartbeats 4000000 in
set_option maxRecDepth 100000 in
theorem spec_l08Size.calls {p49 : Int} {p50 : Int} {r : Bool} {I0 : Imm} (H : spec_l08Size p49 p50 = some r) :
    Meets Try.prog 26 ([.int .i64 p49, .int .i64 p50] : List Value).toArray I0 [] (fun v J M => v = .bool r ∧ M = []) := by
 have hle := ImmLe.refl I0
 unfold spec_l08Size at H
 refine fn_intro (fn := Try.f26) 19 Try.func26 rfl rfl rfl (fun E Fs => ?_)
 refine at_seq (at_reg0 [] [0, 1] [(0, iV p49), (1, iV p50)] ?_)
 refine at_thn (at_seq ?_)
 by_cases h51 : p49 ≥ 1
 ·
  rw [if_pos h51] at H
  by_cases h52 : p49 ≤ 24
  ·
   rw [if_pos h52] at H
   by_cases h53 : p50 ≥ 2
   ·
    rw [if_pos h53] at H
    refine at_reg1 [(2, .bool true), (6, .bool true), (10, .bool true)] [4] [(4, .bool (decide (p50 ≤ 80)))] [oT (p49 ≥ 1), oT (p49 ≤ 24), oT (p50 ≥ 2)] (fun w hs => ⟨cT (h51), cT (h52), cT (h53)⟩) ?_
    refine at_thn (at_ret ?_)
    obtain rfl := Option.some.inj H
    exact at_done0 [.bool (decide (p50 ≤ 80))] (.inl rfl) [.tmp 4] fun w hs => ⟨_, _, [], rfl, ⟨rfl, rfl⟩, hle, hs⟩
   ·
    rw [if_neg h53] at H
    refine at_reg1 [(2, .bool true), (6, .bool true), (10, .bool false)] [4] [(4, .bool false)] [oT (p49 ≥ 1), oT (p49 ≤ 24), oF (p50 ≥ 2)] (fun w hs => ⟨cT (h51), cT (h52), cF (h53)⟩) ?_
    refine at_thn (at_ret ?_)
    obtain rfl := Option.some.inj H
    exact at_done0 [.bool false] (.inl rfl) [.tmp 4] fun w hs => ⟨_, _, [], rfl, ⟨rfl, rfl⟩, hle, hs⟩
  ·
   rw [if_neg h52] at H
   refine at_reg1 [(2, .bool true), (6, .bool false)] [4] [(4, .bool false)] [oT (p49 ≥ 1), oF (p49 ≤ 24)] (fun w hs => ⟨cT (h51), cF (h52)⟩) ?_
   refine at_thn (at_ret ?_)
   obtain rfl := Option.some.inj H
   exact at_done0 [.bool false] (.inl rfl) [.tmp 4] fun w hs => ⟨_, _, [], rfl, ⟨rfl, rfl⟩, hle, hs⟩
 ·
  rw [if_neg h51] at H
  refine at_reg1 [(2, .bool false)] [4] [(4, .bool false)] [oF (p49 ≥ 1)] (fun w hs => cF (h51)) ?_
  refine at_thn (at_ret ?_)
  obtain rfl := Option.some.inj H
  exact at_done0 [.bool false] (.inl rfl) [.tmp 4] fun w hs => ⟨_, _, [], rfl, ⟨rfl, rfl⟩, hle, hs⟩

/-! ### (*loop.example/g00146/spec.l09Pen).next: function 50 -/
def spec_l09Pen_next (p172 : T_spec_l09Pen) : Option T_spec_l09Pen := if 0 ≤ p172.cols then (if p172.cols ≤ 8796093022208 then (if p172.rows.length + ([(List.replicate p172.cols.toNat z_impl_Cell : List T_impl_Cell)] : List (List T_impl_Cell)).length ≤ 5864062014805 then (some (⟨p172.cols, (p172.rows ++ ([(List.replicate p172.cols.toNat z_impl_Cell : List T_impl_Cell)] : List (List T_impl_Cell))), 0⟩ : T_spec_l09Pen)) else none) else none) else none
set_option maxHeartbeats 4000000 in
set_option maxRecDepth 100000 in
theorem spec_l09Pen_next.calls {p172 : T_spec_l09Pen} {r : T_spec_l09Pen} {I0 : Imm} {g171 : Nat} {A173 : Option Addr} {c174 : Nat} {s175 : Seg} (H : spec_l09Pen_next p172 = some r) (ho176 : DOwn (DK.sl k_impl_Cell 71) 36 I0 A173 c174 p172.rows s175) :
    Meets Try.prog 50 ([.pointer (some ⟨g171, 0, none⟩)] : List Value).toArray I0 [[(g171, .cells #[.int .i64 p172.cols, .slice A173 p172.rows.length c174, .int .i64 p172.col] 69 (0, 0))], s175] (fun v J M => ∃ (A_1 : Option Addr) (c_2 : Nat) (s_3 : Seg), v = .tuple #[] ∧ M = [[(g171, .cells #[.int .i64 r.cols, .slice A_1 r.rows.length c_2, .int .i64 r.col] 69 (0, 0))], s_3] ∧ DOwn (DK.sl k_impl_Cell 71) 36 J A_1 c_2 r.rows s_3) := by
 have hle := ImmLe.refl I0
 unfold spec_l09Pen_next at H
 refine fn_intro (fn := Try.f50) 19 Try.func50 rfl rfl rfl (fun E Fs => ?_)
 refine at_seq (at_x hmo (fun w => w.cell? ⟨g171, 1, none⟩ = some (.slice A173 p172.rows.length c174) ∧ w.cell? ⟨g171, 0, none⟩ = some (iV p172.cols)) [11, 14] ?_)
 refine at_xseg [0, 1, 2, 3, 4, 5, 6, 7, 8] 6 (#[true, true, true, true, true, true, true, true, true, false, false, false, false, false, false]) rfl (by kernel_rfl) [(4, .slice A173 p172.rows.length c174), (8, iV p172.cols)] [0, 2, 6, 10] (L2 := [(0, .pointer (some ⟨g171, 0, none⟩)), (2, .pointer (some ⟨g171, 0, none⟩)), (6, .slice A173 p172.rows.length c174), (10, iV p172.cols)]) (obs := [fun w => w.cell? ⟨g171, 1, none⟩ = some (.slice A173 p172.rows.length c174), fun w => w.cell? ⟨g171, 0, none⟩ = some (iV p172.cols)]) (by kernel_rfl) (by kernel_rfl) (by kernel_rfl) (.inr fun w hs => ⟨hs.var (k := 0) rfl 1 rfl, hs.var (k := 0) rfl 0 rfl⟩) (fun w hS => ⟨hS.1, hS.2⟩) (fun w hs => ⟨hs.var (k := 0) rfl 1 rfl, hs.var (k := 0) rfl 0 rfl⟩) ?_
 refine at_x1 5 9 (#[true, true, true, true, true, true, true, true, true, true, false, false, false, false, false]) rfl (by kernel_rfl) (by kernel_rfl) rfl rfl ?_
 obtain ⟨h10177, H⟩ := ite_some H
 obtain ⟨h10178, H⟩ := ite_some H
 obtain ⟨i_, hi_, hz_, hs_, hb_⟩ := info71
 refine eff_makeSlice (K := k_impl_Cell) (d := z_impl_Cell) rfl rfl rfl rfl und36 hi_ hz_ hs_ (fun _ => ⟨none, 0, rfl, Rd.nil _ _⟩) h10177 (by rw [hb_]; omega) (by omega) (fun g10179 s10180 ho10181 => ?_)
 refine at_xS (fun w hs => ⟨hs.var (k := 1) rfl 1 rfl, hs.var (k := 1) rfl 0 rfl⟩) ?_
 refine at_x1 4 10 (#[true, true, true, true, true, true, true, true, true, true, true, false, false, false, false]) rfl (by kernel_rfl) (by kernel_rfl) rfl rfl ?_
 refine eff_buildSlice (e := 36) (cells := #[.slice (some ⟨g10179, 0, none⟩ : Option Addr) (List.replicate p172.cols.toNat z_impl_Cell : List T_impl_Cell).length p172.cols.toNat]) ([(List.replicate p172.cols.toNat z_impl_Cell : List T_impl_Cell)] : List (List T_impl_Cell)).length rfl rfl rfl (by kernel_rfl) (fun g11177 => ?_)
 have hd11178 := own_lit (K := Kd.raw 1) (e := 36) (I := I0) (xs := ([[.slice (some ⟨g10179, 0, none⟩ : Option Addr) (List.replicate p172.cols.toNat z_impl_Cell : List T_impl_Cell).length p172.cols.toNat]] : List (List Value))) (css := ([[.slice (some ⟨g10179, 0, none⟩ : Option Addr) (List.replicate p172.cols.toNat z_impl_Cell : List T_impl_Cell).length p172.cols.toNat]] : List (List Value))) (cells := #[.slice (some ⟨g10179, 0, none⟩ : Option Addr) (List.replicate p172.cols.toNat z_impl_Cell : List T_impl_Cell).length p172.cols.toNat]) (b := g11177) ⟨⟨rfl, rfl, rfl⟩, trivial⟩ rfl
 refine at_merge 1 0 rfl rfl rfl ?_
 replace hd11178 : DOwn (DK.sl k_impl_Cell 71) 36 I0 (some ⟨g11177, 0, none⟩ : Option Addr) (([(List.replicate p172.cols.toNat z_impl_Cell : List T_impl_Cell)] : List (List T_impl_Cell)).length) ([(List.replicate p172.cols.toNat z_impl_Cell : List T_impl_Cell)] : List (List T_impl_Cell)) (s10180 ++ [(g11177, .cells #[.slice (some ⟨g10179, 0, none⟩ : Option Addr) (List.replicate p172.cols.toNat z_impl_Cell : List T_impl_Cell).length p172.cols.toNat] 36 (0, 0))]) := DOwn.lit (hs := [[.slice (some ⟨g10179, 0, none⟩ : Option Addr) (List.replicate p172.cols.toNat z_impl_Cell : List T_impl_Cell).length p172.cols.toNat]]) (sis := [s10180]) hd11178 ⟨⟨_, _, rfl, ho10181⟩, trivial⟩ (perm_lit1 _ _)
 refine at_xS (fun w hs => ⟨hs.var (k := 1) rfl 1 rfl, hs.var (k := 1) rfl 0 rfl⟩) ?_
 refine at_x1 3 11 (#[true, true, true, true, true, true, true, true, true, true, true, true, false, false, false]) rfl (by kernel_rfl) (by kernel_rfl) rfl rfl ?_
 obtain ⟨h12177, H⟩ := ite_some H
 obtain ⟨i_, hi_, hz_, hs_, hb_⟩ := info36
 refine eff_appendD (D := (DK.sl k_impl_Cell 71)) (xs := p172.rows) (ys := ([(List.replicate p172.cols.toNat z_impl_Cell : List T_impl_Cell)] : List (List T_impl_Cell))) 1 0 rfl rfl rfl rfl rfl und67 und67 hi_ hz_ hs_ rfl rfl rfl ho176 hd11178 rfl rfl (by rw [hb_]; omega) (by omega) (fun A12178 c12179 s12180 hd12181 => ?_)
 refine at_xX (by kernel_rfl) ?_
 refine at_xseg [12, 13] 1 (#[true, true, true, true, true, true, true, true, true, true, true, true, true, true, false]) rfl (by kernel_rfl) [] [0, 13, 15] (L2 := [(0, .pointer (some ⟨g171, 0, none⟩)), (13, .slice A12178 (p172.rows ++ ([(List.replicate p172.cols.toNat z_impl_Cell : List T_impl_Cell)] : List (List T_impl_Cell))).length c12179), (15, .pointer (some ⟨g171, 1, none⟩))]) (obs := []) (by kernel_rfl) (by kernel_rfl) (by kernel_rfl) (.inl (by kernel_rfl)) (fun w hS => trivial) (fun w hs => trivial) ?_
 refine at_x1 0 14 (#[true, true, true, true, true, true, true, true, true, true, true, true, true, true, true]) rfl (by kernel_rfl) (by kernel_rfl) rfl rfl ?_
 refine eff_store 0 rfl rfl rfl rfl rfl rfl (.inl (Nat.le_refl _)) rfl (Nat.le_of_ble_eq_true (by kernel_rfl)) rfl ?_
 refine at_sg ([(g171, .cells #[iV p172.cols, .slice A12178 (p172.rows ++ ([(List.replicate p172.cols.toNat z_impl_Cell : List T_impl_Cell)] : List (List T_impl_Cell))).length c12179, iV p172.col] 69 (0, 0))] :: s12180 :: Fs) ?_
 refine at_xX (by kernel_rfl) ?_
 refine at_xend (by kernel_rfl) ?_
 refine at_thn (at_ops [0, 1, 2, 3] rfl ?_)
 refine at_seg0 [0, 1, 2] [3] [] [18] [(18, .pointer (some ⟨g171, 2, none⟩))] ?_
 refine at_eff rfl rfl ?_
 refine eff_store 0 rfl rfl rfl rfl rfl rfl (.inl (Nat.le_refl _)) rfl (Nat.le_of_ble_eq_true (by kernel_rfl)) rfl ?_
 refine at_sg ([(g171, .cells #[iV p172.cols, .slice A12178 (p172.rows ++ ([(List.replicate p172.cols.toNat z_impl_Cell : List T_impl_Cell)] : List (List T_impl_Cell))).length c12179, iV 0] 69 (0, 0))] :: s12180 :: Fs) ?_
 refine at_end ?_
 obtain rfl := Option.some.inj H
 exact at_done0 [] (.inr rfl) [] fun w hs => ⟨_, _, [[(g171, .cells #[iV p172.cols, .slice A12178 (p172.rows ++ ([(List.replicate p172.cols.toNat z_impl_Cell : List T_impl_Cell)] : List (List T_impl_Cell))).length c12179, iV 0] 69 (0, 0))], s12180], rfl, ⟨A12178, c12179, s12180, rfl, rfl, hd12181⟩, hle, hs⟩

/-! ### loop.example/g00146/spec.l01Shown: function 66 -/
def spec_l01Shown_j0 : Nat → Bool → Int → Option (List Int)
  | 0, _, _ => none
  | k + 1, x305, p203 => if x305 = true then (some ([94, bitsV .xor .i64 p203 64] : List Int)) else (some ([p203] : List Int))
def spec_l01Shown (k : Nat) (p203 : Int) : Option (List Int) := if p203 < 32 then (spec_l01Shown_j0 k true p203) else (spec_l01Shown_j0 k (p203 == 127) p203)
set_option maxHeartbeats 4000000 in
set_option maxRecDepth 100000 in
theorem spec_l01Shown.calls {k : Nat} {p203 : Int} {r : (List Int)} {I0 : Imm} (H : spec_l01Shown k p203 = some r) :
    Meets Try.prog 66 ([.int .i64 p203] : List Value).toArray I0 [] (fun v J M => ∃ (A_1 : Option Addr) (c_2 : Nat) (s_3 : Seg), v = .slice A_1 r.length c_2 ∧ M = [s_3] ∧ Own (Kd.int .i64) 2 J A_1 c_2 r s_3) := by
 have hle := ImmLe.refl I0
 unfold spec_l01Shown at H
 refine fn_intro (fn := Try.f66) 14 Try.func66 rfl rfl rfl (fun E Fs => ?_)
 refine at_seq (at_reg0 [] [0] [(0, iV p203)] ?_)
 refine at_thn (at_seq (at_join (fun L I Ms => ∃ (k306 : Nat), ∃ (x305 : Bool), L = [(0, iV p203), (8, .bool x305)] ∧ Ms = ([] ++ Fs) ∧ spec_l01Shown_j0 k306 x305 p203 = some r ∧ ImmLe I0 I ∧ k306 ≤ k) ?_ ?_))
 ·
  clear H hle
  intro L I Ms h_; obtain ⟨k306, x305, hL_, hM_, H, hle, hk307⟩ := h_; rw [hL_, hM_]; clear hL_ hM_ L Ms
  rcases k306 with _ | k306
  · exact (no_none H).elim
  rw [spec_l01Shown_j0] at H
  by_cases h308 : x305 = true
  ·
   rw [if_pos h308] at H
   refine at_cond_t rfl (h308) ?_
   refine at_seq (at_ops [0, 1, 2, 3] rfl ?_)
   refine at_seg0 [0, 1] [2, 3] [] [10] [(10, iV (bitsV .xor .i64 p203 64))] ?_
   refine at_eff rfl rfl ?_
   refine eff_buildSlice (e := 2) (cells := #[iV 94, iV (bitsV .xor .i64 p203 64)]) ([94, bitsV .xor .i64 p203 64] : List Int).length rfl rfl rfl (by kernel_rfl) (fun g309 => ?_)
   have ho310 := own_lit (K := (Kd.int .i64)) (e := 2) (I := I) (xs := ([94, bitsV .xor .i64 p203 64] : List Int)) (css := [[iV 94], [iV (bitsV .xor .i64 p203 64)]]) (cells := #[iV 94, iV (bitsV .xor .i64 p203 64)]) (b := g309) ⟨rfl, ⟨rfl, trivial⟩⟩ rfl
   refine at_seg0 [3] [] [] [2] [(2, .slice (some ⟨g309, 0, none⟩ : Option Addr) ([94, bitsV .xor .i64 p203 64] : List Int).length (([94, bitsV .xor .i64 p203 64] : List Int).length))] ?_
   refine at_end (at_thn (at_ret (at_then_ret ?_)))
   obtain rfl := Option.some.inj H
   exact at_done0 [.slice (some ⟨g309, 0, none⟩ : Option Addr) ([94, bitsV .xor .i64 p203 64] : List Int).length (([94, bitsV .xor .i64 p203 64] : List Int).length)] (.inl rfl) [.tmp 2] fun w hs => ⟨_, _, [[(g309, .cells #[iV 94, iV (bitsV .xor .i64 p203 64)] 2 (0, 0))]], rfl, ⟨(some ⟨g309, 0, none⟩ : Option Addr), ([94, bitsV .xor .i64 p203 64] : List Int).length, [(g309, .cells #[iV 94, iV (bitsV .xor .i64 p203 64)] 2 (0, 0))], rfl, rfl, ho310⟩, hle, hs⟩
  ·
   rw [if_neg h308] at H
   refine at_cond_f rfl (ff_of h308) ?_
   refine at_skip (at_thn (at_seq (at_ops [0, 1, 2] rfl ?_)))
   refine at_seg0 [0] [1, 2] [] [12] [(12, iV p203)] ?_
   refine at_eff rfl rfl ?_
   refine eff_buildSlice (e := 2) (cells := #[iV p203]) ([p203] : List Int).length rfl rfl rfl (by kernel_rfl) (fun g311 => ?_)
   have ho312 := own_lit (K := (Kd.int .i64)) (e := 2) (I := I) (xs := ([p203] : List Int)) (css := [[iV p203]]) (cells := #[iV p203]) (b := g311) ⟨rfl, trivial⟩ rfl
   refine at_seg0 [2] [] [] [2] [(2, .slice (some ⟨g311, 0, none⟩ : Option Addr) ([p203] : List Int).length (([p203] : List Int).length))] ?_
   refine at_end (at_thn (at_ret ?_))
   obtain rfl := Option.some.inj H
   exact at_done0 [.slice (some ⟨g311, 0, none⟩ : Option Addr) ([p203] : List Int).length (([p203] : List Int).length)] (.inl rfl) [.tmp 2] fun w hs => ⟨_, _, [[(g311, .cells #[iV p203] 2 (0, 0))]], rfl, ⟨(some ⟨g311, 0, none⟩ : Option Addr), ([p203] : List Int).length, [(g311, .cells #[iV p203] 2 (0, 0))], rfl, rfl, ho312⟩, hle, hs⟩
 ·
  intro Jn204
  by_cases h204 : p203 < 32
  ·
   rw [if_pos h204] at H
   refine at_reg1 [(2, .bool true)] [0, 8] [(0, iV p203), (8, .bool true)] [oT (p203 < 32)] (fun w hs => cT (h204)) ?_
   refine at_thn (at_keep [0, 8] (L2 := [(0, iV p203), (8, .bool true)]) rfl ?_)
   exact Jn204 _ _ _ ⟨_, true, rfl, rfl, H, hle, by omega⟩
  ·
   rw [if_neg h204] at H
   refine at_reg1 [(2, .bool false)] [0, 8] [(0, iV p203), (8, .bool (p203 == 127))] [oF (p203 < 32)] (fun w hs => cF (h204)) ?_
   refine at_thn (at_keep [0, 8] (L2 := [(0, iV p203), (8, .bool (p203 == 127))]) rfl ?_)
   exact Jn204 _ _ _ ⟨_, (p203 == 127), rfl, rfl, H, hle, by omega⟩
end Go.Proofs.Ytnhnipdanpcbeaa
