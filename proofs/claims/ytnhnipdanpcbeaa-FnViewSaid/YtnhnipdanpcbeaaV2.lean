import Derived.Test.YtnhnipdanpcbeaaV1
namespace Go.Proofs.Ytnhnipdanpcbeaa
open Go Eng
set_option linter.unusedVariables false
set_option linter.unusedSimpArgs false
/-! ### (*loop.example/g00146/spec.l01Src).l09Prompt: function 18 -/
def spec_l01Src_l09Prompt (k : Nat) (p22 : T_spec_l01Src) : Option ((List Int) × T_spec_l01Src) := (spec_l01Src_n k p22 5).bind fun b2 => ((spec_l01Src_points k b2.2 b2.1).bind fun b3 => ((spec_l01Src_one k b3.2 30).bind fun b4 => (if b4.1 = true then (if b3.1.length + ([(-1)] : List Int).length ≤ 17592186044416 then (some ((b3.1 ++ ([(-1)] : List Int)), b4.2)) else none) else (some (b3.1, b4.2)))))
set_option maxHeartbeats 4000000 in
set_option maxRecDepth 100000 in
theorem spec_l01Src_l09Prompt.calls {k : Nat} {p22 : T_spec_l01Src} {r : (List Int) × T_spec_l01Src} {I0 : Imm} {g21 : Nat} {A23 : Option Addr} {c24 : Nat} (H : spec_l01Src_l09Prompt k p22 = some r) (hr25 : Rd (Kd.int .u8) I0 A23 c24 p22.b) :
    Meets Try.prog 18 ([.pointer (some ⟨g21, 0, none⟩)] : List Value).toArray I0 [[(g21, .cells #[.slice A23 p22.b.length c24, .int .i64 p22.at_, .int .u64 p22.mix, .int .i64 p22.size] 83 (0, 0))]] (fun v J M => ∃ (A_1 : Option Addr) (c_2 : Nat) (s_3 : Seg) (A_4 : Option Addr) (c_5 : Nat), v = .slice A_1 r.1.length c_2 ∧ M = [s_3, [(g21, .cells #[.slice A_4 r.2.b.length c_5, .int .i64 r.2.at_, .int .u64 r.2.mix, .int .i64 r.2.size] 83 (0, 0))]] ∧ Own (Kd.int .i64) 2 J A_1 c_2 r.1 s_3 ∧ Rd (Kd.int .u8) J A_4 c_5 r.2.b) := by
 have hle := ImmLe.refl I0
 unfold spec_l01Src_l09Prompt at H
 refine fn_intro (fn := Try.f18) 14 Try.func18 rfl rfl rfl (fun E Fs => ?_)
 refine at_seq (at_reg0 [] [0] [(0, .pointer (some ⟨g21, 0, none⟩))] ?_)
 refine at_thn (at_seq (at_ops [0, 1, 2, 3, 4] rfl ?_))
 refine at_seg0 [0, 1] [2, 3, 4] [] [0, 4, 5] [(0, .pointer (some ⟨g21, 0, none⟩)), (4, .pointer (some ⟨g21, 0, none⟩)), (5, .pointer (some ⟨g21, 0, none⟩))] ?_
 refine at_eff rfl rfl ?_
 obtain ⟨b2, H26, H⟩ := bind_some H
 refine eff_call rfl rfl ok29 rfl rfl (show Meets Try.prog 29 ([.pointer (some ⟨g21, 0, none⟩), iV 5] : List Value).toArray _ [[(g21, .cells #[.slice A23 p22.b.length c24, iV p22.at_, .int .u64 p22.mix, iV p22.size] 83 (0, 0))]] _ from spec_l01Src_n.calls H26 hr25) (Mr := (Fs)) (List.Perm.refl _) (fun v27 J28 M29 hq30 hJ31 => ?_)
 replace hle := hle.trans hJ31
 replace hr25 := hr25.mono hJ31
 obtain ⟨A32, c33, rfl, rfl, hr34⟩ := hq30
 refine at_eff rfl rfl ?_
 obtain ⟨b3, H35, H⟩ := bind_some H
 refine eff_call rfl rfl ok44 rfl rfl (show Meets Try.prog 44 ([.pointer (some ⟨g21, 0, none⟩), iV b2.1] : List Value).toArray _ [[(g21, .cells #[.slice A32 b2.2.b.length c33, iV b2.2.at_, .int .u64 b2.2.mix, iV b2.2.size] 83 (0, 0))]] _ from spec_l01Src_points.calls H35 hr34) (Mr := (Fs)) (List.Perm.refl _) (fun v36 J37 M38 hq39 hJ40 => ?_)
 replace hle := hle.trans hJ40
 replace hr34 := hr34.mono hJ40
 obtain ⟨A41, c42, s43, A45, c46, rfl, rfl, ho44, hr47⟩ := hq39
 refine at_seg0 [4] [] [] [0, 3] [(0, .pointer (some ⟨g21, 0, none⟩)), (3, .slice A41 b3.1.length c42)] ?_
 refine at_end (at_thn (at_seq (at_seq (at_ops [0, 1] rfl ?_))))
 refine at_seg0 [0] [1] [] [3, 8] [(3, .slice A41 b3.1.length c42), (8, .pointer (some ⟨g21, 0, none⟩))] ?_
 refine at_eff rfl rfl ?_
 obtain ⟨b4, H48, H⟩ := bind_some H
 refine eff_call rfl rfl ok30 rfl rfl (show Meets Try.prog 30 ([.pointer (some ⟨g21, 0, none⟩), iV 30] : List Value).toArray _ [[(g21, .cells #[.slice A45 b3.2.b.length c46, iV b3.2.at_, .int .u64 b3.2.mix, iV b3.2.size] 83 (0, 0))]] _ from spec_l01Src_one.calls H48 hr47) (Mr := (s43 :: Fs)) ((perm_at (k := 1) rfl).trans ((List.Perm.refl _).cons _)) (fun v49 J50 M51 hq52 hJ53 => ?_)
 replace hle := hle.trans hJ53
 replace ho44 := ho44.mono hJ53
 replace hr47 := hr47.mono hJ53
 obtain ⟨A54, c55, rfl, rfl, hr56⟩ := hq52
 refine at_end (at_thn ?_)
 by_cases h57 : b4.1 = true
 ·
  rw [if_pos h57] at H
  refine at_cond_t rfl (h57) ?_
  refine at_ops [0, 1, 2, 3] rfl ?_
  refine at_seg0 [0] [1, 2, 3] [] [3, 10] [(3, .slice A41 b3.1.length c42), (10, .slice A41 b3.1.length c42)] ?_
  refine at_eff rfl rfl ?_
  refine eff_buildSlice (e := 2) (cells := #[iV (-1)]) ([(-1)] : List Int).length rfl rfl rfl (by kernel_rfl) (fun g58 => ?_)
  have ho59 := own_lit (K := (Kd.int .i64)) (e := 2) (I := J50) (xs := ([(-1)] : List Int)) (css := [[iV (-1)]]) (cells := #[iV (-1)]) (b := g58) ⟨rfl, trivial⟩ rfl
  refine at_eff rfl rfl ?_
  obtain ⟨h60, H⟩ := ite_some H
  obtain ⟨i_, hi_, hz_, hs_, hb_⟩ := info2
  refine eff_append (K := (Kd.int .i64)) (xs := b3.1) (ys := ([(-1)] : List Int)) 2 rfl rfl rfl rfl rfl und23 und23 hi_ hz_ hs_ rfl rfl rfl ho44 rfl (fun w hs => ho59.rowAt (k := 0) hs rfl) (by rw [hb_]; omega) (by omega) (fun A61 c62 s63 ho64 => ?_)
  refine at_seg0 [3] [] [] [3] [(3, .slice A61 (b3.1 ++ ([(-1)] : List Int)).length c62)] ?_
  refine at_end (at_thn (at_seq (at_reg0 [] [2] [(2, .slice A61 (b3.1 ++ ([(-1)] : List Int)).length c62)] ?_)))
  refine at_thn (at_ret ?_)
  obtain rfl := Option.some.inj H
  refine at_drop (k := 0) rfl rfl ?_
  refine at_perm ((perm_at (k := 1) rfl).trans ((List.Perm.refl _).cons _)) ?_
  exact at_done0 [.slice A61 (b3.1 ++ ([(-1)] : List Int)).length c62] (.inl rfl) [.tmp 2] fun w hs => ⟨_, _, [s63, [(g21, .cells #[.slice A54 b4.2.b.length c55, iV b4.2.at_, .int .u64 b4.2.mix, iV b4.2.size] 83 (0, 0))]], rfl, ⟨A61, c62, s63, A54, c55, rfl, rfl, ho64, hr56⟩, hle, hs⟩
 ·
  rw [if_neg h57] at H
  refine at_cond_f rfl (ff_of h57) ?_
  refine at_skip (at_thn (at_seq (at_reg0 [] [2] [(2, .slice A41 b3.1.length c42)] ?_)))
  refine at_thn (at_ret ?_)
  obtain rfl := Option.some.inj H
  refine at_perm ((perm_at (k := 1) rfl).trans ((List.Perm.refl _).cons _)) ?_
  exact at_done0 [.slice A41 b3.1.length c42] (.inl rfl) [.tmp 2] fun w hs => ⟨_, _, [s43, [(g21, .cells #[.slice A54 b4.2.b.length c55, iV b4.2.at_, .int .u64 b4.2.mix, iV b4.2.size] 83 (0, 0))]], rfl, ⟨A41, c42, s43, A54, c55, rfl, rfl, ho44, hr56⟩, hle, hs⟩

/-! ### (*loop.example/g00146/spec.l01Src).l02Buf: function 19 -/
def spec_l01Src_l02Buf_j0 : Nat → (List Int) → Int → Int → Int → (List Int) → Option (T_impl_Buf × T_spec_l01Src)
  | 0, _, _, _, _, _ => none
  | k + 1, x195, x199, x200, x201, x202 => (spec_l01Src_n k (⟨x195, x199, x200, x201⟩ : T_spec_l01Src) (IntKind.i64.wrap ((x202.length : Int) + 1))).bind fun b8 => ((spec_l01Src_n k b8.2 (IntKind.i64.wrap ((x202.length : Int) + 1))).bind fun b9 => ((spec_l01Src_one k b9.2 15).bind fun b10 => (if b10.1 = true then ((spec_l01Src_n k b10.2 3).bind fun b11 => (if b11.1 = 0 then ((spec_l01Src_n k b11.2 2).bind fun b12 => (if 0 ≤ b12.1 then (if b12.1 < (([(-1), IntKind.i64.wrap ((x202.length : Int) + 1)] : List Int).length : Int) then (some ((⟨x202, rdA 0 ([(-1), IntKind.i64.wrap ((x202.length : Int) + 1)] : List Int) b12.1, b9.1⟩ : T_impl_Buf), b12.2)) else none) else none)) else (if b11.1 = 1 then ((spec_l01Src_n k b11.2 2).bind fun b13 => (if 0 ≤ b13.1 then (if b13.1 < (([(-1), IntKind.i64.wrap ((x202.length : Int) + 1)] : List Int).length : Int) then (some ((⟨x202, b8.1, rdA 0 ([(-1), IntKind.i64.wrap ((x202.length : Int) + 1)] : List Int) b13.1⟩ : T_impl_Buf), b13.2)) else none) else none)) else (if x202.length + ([55296] : List Int).length ≤ 17592186044416 then (some ((⟨(x202 ++ ([55296] : List Int)), b8.1, b9.1⟩ : T_impl_Buf), b11.2)) else none)))) else (some ((⟨x202, b8.1, b9.1⟩ : T_impl_Buf), b10.2)))))
def spec_l01Src_l02Buf (k : Nat) (p35 : T_spec_l01Src) : Option (T_impl_Buf × T_spec_l01Src) := (spec_l01Src_n k p35 (IntKind.i64.wrap (14 + (IntKind.i64.wrap (2 * p35.size))))).bind fun b3 => ((spec_l01Src_points k b3.2 b3.1).bind fun b4 => ((spec_l01Src_one k b4.2 50).bind fun b5 => (if b5.1 = true then ((spec_l01Src_n k b5.2 4).bind fun b6 => ((spec_l01Src_points k b6.2 (IntKind.i64.wrap (298 + b6.1))).bind fun b7 => (spec_l01Src_l02Buf_j0 k b7.2.b b7.2.at_ b7.2.mix b7.2.size b7.1))) else (spec_l01Src_l02Buf_j0 k b5.2.b b5.2.at_ b5.2.mix b5.2.size b4.1))))
set_option maxHeartbeats 4000000 in
set_option maxRecDepth 100000 in
theorem spec_l01Src_l02Buf.calls {k : Nat} {p35 : T_spec_l01Src} {r : T_impl_Buf × T_spec_l01Src} {I0 : Imm} {g34 : Nat} {A36 : Option Addr} {c37 : Nat} (H : spec_l01Src_l02Buf k p35 = some r) (hr38 : Rd (Kd.int .u8) I0 A36 c37 p35.b) :
    Meets Try.prog 19 ([.pointer (some ⟨g34, 0, none⟩)] : List Value).toArray I0 [[(g34, .cells #[.slice A36 p35.b.length c37, .int .i64 p35.at_, .int .u64 p35.mix, .int .i64 p35.size] 83 (0, 0))]] (fun v J M => ∃ (A_1 : Option Addr) (c_2 : Nat) (s_3 : Seg) (A_4 : Option Addr) (c_5 : Nat), v = .agg #[.slice A_1 r.1.Points.length c_2, .int .i64 r.1.Cursor, .int .i64 r.1.Mark] ∧ M = [s_3, [(g34, .cells #[.slice A_4 r.2.b.length c_5, .int .i64 r.2.at_, .int .u64 r.2.mix, .int .i64 r.2.size] 83 (0, 0))]] ∧ Own (Kd.int .i64) 2 J A_1 c_2 r.1.Points s_3 ∧ Rd (Kd.int .u8) J A_4 c_5 r.2.b) := by
 have hle := ImmLe.refl I0
 unfold spec_l01Src_l02Buf at H
 refine fn_intro (fn := Try.f19) 67 Try.func19 rfl rfl rfl (fun E Fs => ?_)
 refine at_seq (at_ops [0] rfl ?_)
 refine at_eff rfl rfl ?_
 obtain ⟨i_, hi_, hz_, _, _⟩ := info25
 refine eff_alloc rfl rfl hi_ hz_ #[.slice none ([] : List Int).length 0, iV 0, iV 0] rfl (fun g39 => ?_)
 refine at_end (at_thn (at_seq (at_ops [0, 1, 2, 3, 4, 5, 6, 7, 8, 9, 10, 11, 12] rfl ?_)))
 refine at_seg1 [0, 1, 2, 3, 4, 5, 6, 7] [8, 9, 10, 11, 12] [(5, iV p35.size)] [0, 2, 5, 6, 12] [(0, .pointer (some ⟨g34, 0, none⟩)), (2, .pointer (some ⟨g39, 0, none⟩)), (5, .pointer (some ⟨g34, 0, none⟩)), (6, .pointer (some ⟨g34, 0, none⟩)), (12, iV (IntKind.i64.wrap (14 + (IntKind.i64.wrap (2 * p35.size)))))] [fun w => w.cell? ⟨g34, 3, none⟩ = some (iV p35.size)] (fun w hs => hs.var (k := 1) rfl 3 rfl) ?_
 refine at_eff rfl rfl ?_
 obtain ⟨b3, H40, H⟩ := bind_some H
 refine eff_call rfl rfl ok29 rfl rfl (show Meets Try.prog 29 ([.pointer (some ⟨g34, 0, none⟩), iV (IntKind.i64.wrap (14 + (IntKind.i64.wrap (2 * p35.size))))] : List Value).toArray _ [[(g34, .cells #[.slice A36 p35.b.length c37, iV p35.at_, .int .u64 p35.mix, iV p35.size] 83 (0, 0))]] _ from spec_l01Src_n.calls H40 hr38) (Mr := ([(g39, .cells #[.slice none ([] : List Int).length 0, iV 0, iV 0] 25 (0, 0))] :: Fs)) ((perm_at (k := 1) rfl).trans ((List.Perm.refl _).cons _)) (fun v41 J42 M43 hq44 hJ45 => ?_)
 replace hle := hle.trans hJ45
 replace hr38 := hr38.mono hJ45
 obtain ⟨A46, c47, rfl, rfl, hr48⟩ := hq44
 refine at_eff rfl rfl ?_
 obtain ⟨b4, H49, H⟩ := bind_some H
 refine eff_call rfl rfl ok44 rfl rfl (show Meets Try.prog 44 ([.pointer (some ⟨g34, 0, none⟩), iV b3.1] : List Value).toArray _ [[(g34, .cells #[.slice A46 b3.2.b.length c47, iV b3.2.at_, .int .u64 b3.2.mix, iV b3.2.size] 83 (0, 0))]] _ from spec_l01Src_points.calls H49 hr48) (Mr := ([(g39, .cells #[.slice none ([] : List Int).length 0, iV 0, iV 0] 25 (0, 0))] :: Fs)) (List.Perm.refl _) (fun v50 J51 M52 hq53 hJ54 => ?_)
 replace hle := hle.trans hJ54
 replace hr48 := hr48.mono hJ54
 obtain ⟨A55, c56, s57, A59, c60, rfl, rfl, ho58, hr61⟩ := hq53
 refine at_seg0 [10] [11, 12] [] [0, 2, 15] [(0, .pointer (some ⟨g34, 0, none⟩)), (2, .pointer (some ⟨g39, 0, none⟩)), (15, .agg #[.slice A55 b4.1.length c56, iV 0, iV 0])] ?_
 refine at_eff rfl rfl ?_
 obtain ⟨i_, hi_, hz_, _, _⟩ := info25
 refine eff_alloc rfl rfl hi_ hz_ #[.slice none ([] : List Int).length 0, iV 0, iV 0] rfl (fun g62 => ?_)
 refine at_eff rfl rfl ?_
 refine eff_store 0 rfl rfl rfl rfl rfl rfl (.inl (Nat.le_refl _)) rfl (Nat.le_of_ble_eq_true (by kernel_rfl)) rfl ?_
 refine at_sg ([(g62, .cells #[.slice A55 b4.1.length c56, iV 0, iV 0] 25 (0, 0))] :: s57 :: [(g34, .cells #[.slice A59 b4.2.b.length c60, iV b4.2.at_, .int .u64 b4.2.mix, iV b4.2.size] 83 (0, 0))] :: [(g39, .cells #[.slice none ([] : List Int).length 0, iV 0, iV 0] 25 (0, 0))] :: Fs) ?_
 refine at_end (at_thn (at_join (fun L I Ms => ∃ (k207 : Nat), ∃ (x195 : List Int) (A196 : Option Addr) (c197 : Nat) (x199 : Int) (x200 : Int) (x201 : Int) (x202 : List Int) (A203 : Option Addr) (c204 : Nat) (s205 : Seg), L = [(0, .pointer (some ⟨g34, 0, none⟩)), (2, .pointer (some ⟨g39, 0, none⟩)), (3, .pointer (some ⟨g62, 0, none⟩))] ∧ Ms = ([(g34, .cells #[.slice A196 x195.length c197, iV x199, .int .u64 x200, iV x201] 83 (0, 0))] :: [(g39, .cells #[.slice none ([] : List Int).length 0, iV 0, iV 0] 25 (0, 0))] :: [(g62, .cells #[.slice A203 x202.length c204, iV 0, iV 0] 25 (0, 0))] :: s205 :: Fs) ∧ spec_l01Src_l02Buf_j0 k207 x195 x199 x200 x201 x202 = some r ∧ ImmLe I0 I ∧ k207 ≤ k ∧ Own (Kd.int .i64) 2 I A203 c204 x202 s205 ∧ Rd (Kd.int .u8) I A196 c197 x195) ?_ ?_))
 ·
  clear H hle ho58 hr61
  intro L I Ms h_; obtain ⟨k207, x195, A196, c197, x199, x200, x201, x202, A203, c204, s205, hL_, hM_, H, hle, hk208, ho206, hr198⟩ := h_; rw [hL_, hM_]; clear hL_ hM_ L Ms
  rcases k207 with _ | k207
  · exact (no_none H).elim
  rw [spec_l01Src_l02Buf_j0] at H
  refine at_seq (at_reg1 [(1, .slice A203 x202.length c204)] [0, 2, 3, 4] [(0, .pointer (some ⟨g34, 0, none⟩)), (2, .pointer (some ⟨g39, 0, none⟩)), (3, .pointer (some ⟨g62, 0, none⟩)), (4, iV (x202.length : Int))] [fun w => w.cell? ⟨g62, 0, none⟩ = some (.slice A203 x202.length c204)] (fun w hs => hs.var (k := 2) rfl 0 rfl) ?_)
  refine at_thn (at_seq (at_ops [0, 1, 2, 3, 4, 5] rfl ?_))
  refine at_seg0 [0, 1, 2] [3, 4, 5] [] [0, 2, 3, 4, 27, 29] [(0, .pointer (some ⟨g34, 0, none⟩)), (2, .pointer (some ⟨g39, 0, none⟩)), (3, .pointer (some ⟨g62, 0, none⟩)), (4, iV (x202.length : Int)), (27, .pointer (some ⟨g34, 0, none⟩)), (29, iV (IntKind.i64.wrap ((x202.length : Int) + 1)))] ?_
  refine at_eff rfl rfl ?_
  obtain ⟨b8, H209, H⟩ := bind_some H
  refine eff_call rfl rfl ok29 rfl rfl (show Meets Try.prog 29 ([.pointer (some ⟨g34, 0, none⟩), iV (IntKind.i64.wrap ((x202.length : Int) + 1))] : List Value).toArray _ [[(g34, .cells #[.slice A196 x195.length c197, iV x199, .int .u64 x200, iV x201] 83 (0, 0))]] _ from spec_l01Src_n.calls H209 hr198) (Mr := ([(g39, .cells #[.slice none ([] : List Int).length 0, iV 0, iV 0] 25 (0, 0))] :: [(g62, .cells #[.slice A203 x202.length c204, iV 0, iV 0] 25 (0, 0))] :: s205 :: Fs)) (List.Perm.refl _) (fun v210 J211 M212 hq213 hJ214 => ?_)
  replace hle := hle.trans hJ214
  replace ho206 := ho206.mono hJ214
  replace hr198 := hr198.mono hJ214
  obtain ⟨A215, c216, rfl, rfl, hr217⟩ := hq213
  refine at_seg0 [4] [5] [] [0, 2, 3, 4, 30, 31] [(0, .pointer (some ⟨g34, 0, none⟩)), (2, .pointer (some ⟨g39, 0, none⟩)), (3, .pointer (some ⟨g62, 0, none⟩)), (4, iV (x202.length : Int)), (30, iV b8.1), (31, .pointer (some ⟨g62, 1, none⟩))] ?_
  refine at_eff rfl rfl ?_
  refine eff_store 2 rfl rfl rfl rfl rfl rfl (.inl (Nat.le_refl _)) rfl (Nat.le_of_ble_eq_true (by kernel_rfl)) rfl ?_
  refine at_sg ([(g34, .cells #[.slice A215 b8.2.b.length c216, iV b8.2.at_, .int .u64 b8.2.mix, iV b8.2.size] 83 (0, 0))] :: [(g39, .cells #[.slice none ([] : List Int).length 0, iV 0, iV 0] 25 (0, 0))] :: [(g62, .cells #[.slice A203 x202.length c204, iV b8.1, iV 0] 25 (0, 0))] :: s205 :: Fs) ?_
  refine at_end (at_thn (at_seq (at_ops [0, 1, 2, 3, 4, 5] rfl ?_)))
  refine at_seg0 [0, 1, 2] [3, 4, 5] [] [0, 2, 3, 4, 32, 34] [(0, .pointer (some ⟨g34, 0, none⟩)), (2, .pointer (some ⟨g39, 0, none⟩)), (3, .pointer (some ⟨g62, 0, none⟩)), (4, iV (x202.length : Int)), (32, .pointer (some ⟨g34, 0, none⟩)), (34, iV (IntKind.i64.wrap ((x202.length : Int) + 1)))] ?_
  refine at_eff rfl rfl ?_
  obtain ⟨b9, H218, H⟩ := bind_some H
  refine eff_call rfl rfl ok29 rfl rfl (show Meets Try.prog 29 ([.pointer (some ⟨g34, 0, none⟩), iV (IntKind.i64.wrap ((x202.length : Int) + 1))] : List Value).toArray _ [[(g34, .cells #[.slice A215 b8.2.b.length c216, iV b8.2.at_, .int .u64 b8.2.mix, iV b8.2.size] 83 (0, 0))]] _ from spec_l01Src_n.calls H218 hr217) (Mr := ([(g39, .cells #[.slice none ([] : List Int).length 0, iV 0, iV 0] 25 (0, 0))] :: [(g62, .cells #[.slice A203 x202.length c204, iV b8.1, iV 0] 25 (0, 0))] :: s205 :: Fs)) (List.Perm.refl _) (fun v219 J220 M221 hq222 hJ223 => ?_)
  replace hle := hle.trans hJ223
  replace ho206 := ho206.mono hJ223
  replace hr217 := hr217.mono hJ223
  obtain ⟨A224, c225, rfl, rfl, hr226⟩ := hq222
  refine at_seg0 [4] [5] [] [0, 2, 3, 4, 35, 36] [(0, .pointer (some ⟨g34, 0, none⟩)), (2, .pointer (some ⟨g39, 0, none⟩)), (3, .pointer (some ⟨g62, 0, none⟩)), (4, iV (x202.length : Int)), (35, iV b9.1), (36, .pointer (some ⟨g62, 2, none⟩))] ?_
  refine at_eff rfl rfl ?_
  refine eff_store 2 rfl rfl rfl rfl rfl rfl (.inl (Nat.le_refl _)) rfl (Nat.le_of_ble_eq_true (by kernel_rfl)) rfl ?_
  refine at_sg ([(g34, .cells #[.slice A224 b9.2.b.length c225, iV b9.2.at_, .int .u64 b9.2.mix, iV b9.2.size] 83 (0, 0))] :: [(g39, .cells #[.slice none ([] : List Int).length 0, iV 0, iV 0] 25 (0, 0))] :: [(g62, .cells #[.slice A203 x202.length c204, iV b8.1, iV b9.1] 25 (0, 0))] :: s205 :: Fs) ?_
  refine at_end (at_thn (at_seq (at_seq (at_ops [0, 1] rfl ?_))))
  refine at_seg0 [0] [1] [] [0, 2, 3, 4, 37] [(0, .pointer (some ⟨g34, 0, none⟩)), (2, .pointer (some ⟨g39, 0, none⟩)), (3, .pointer (some ⟨g62, 0, none⟩)), (4, iV (x202.length : Int)), (37, .pointer (some ⟨g34, 0, none⟩))] ?_
  refine at_eff rfl rfl ?_
  obtain ⟨b10, H227, H⟩ := bind_some H
  refine eff_call rfl rfl ok30 rfl rfl (show Meets Try.prog 30 ([.pointer (some ⟨g34, 0, none⟩), iV 15] : List Value).toArray _ [[(g34, .cells #[.slice A224 b9.2.b.length c225, iV b9.2.at_, .int .u64 b9.2.mix, iV b9.2.size] 83 (0, 0))]] _ from spec_l01Src_one.calls H227 hr226) (Mr := ([(g39, .cells #[.slice none ([] : List Int).length 0, iV 0, iV 0] 25 (0, 0))] :: [(g62, .cells #[.slice A203 x202.length c204, iV b8.1, iV b9.1] 25 (0, 0))] :: s205 :: Fs)) (List.Perm.refl _) (fun v228 J229 M230 hq231 hJ232 => ?_)
  replace hle := hle.trans hJ232
  replace ho206 := ho206.mono hJ232
  replace hr226 := hr226.mono hJ232
  obtain ⟨A233, c234, rfl, rfl, hr235⟩ := hq231
  refine at_end (at_thn ?_)
  by_cases h236 : b10.1 = true
  ·
   rw [if_pos h236] at H
   refine at_cond_t rfl (h236) ?_
   refine at_seq (at_ops [0, 1] rfl ?_)
   refine at_seg0 [0] [1] [] [0, 2, 3, 4, 39] [(0, .pointer (some ⟨g34, 0, none⟩)), (2, .pointer (some ⟨g39, 0, none⟩)), (3, .pointer (some ⟨g62, 0, none⟩)), (4, iV (x202.length : Int)), (39, .pointer (some ⟨g34, 0, none⟩))] ?_
   refine at_eff rfl rfl ?_
   obtain ⟨b11, H237, H⟩ := bind_some H
   refine eff_call rfl rfl ok29 rfl rfl (show Meets Try.prog 29 ([.pointer (some ⟨g34, 0, none⟩), iV 3] : List Value).toArray _ [[(g34, .cells #[.slice A233 b10.2.b.length c234, iV b10.2.at_, .int .u64 b10.2.mix, iV b10.2.size] 83 (0, 0))]] _ from spec_l01Src_n.calls H237 hr235) (Mr := ([(g39, .cells #[.slice none ([] : List Int).length 0, iV 0, iV 0] 25 (0, 0))] :: [(g62, .cells #[.slice A203 x202.length c204, iV b8.1, iV b9.1] 25 (0, 0))] :: s205 :: Fs)) (List.Perm.refl _) (fun v238 J239 M240 hq241 hJ242 => ?_)
   replace hle := hle.trans hJ242
   replace ho206 := ho206.mono hJ242
   replace hr235 := hr235.mono hJ242
   obtain ⟨A243, c244, rfl, rfl, hr245⟩ := hq241
   refine at_end (at_thn (at_block (at_seq (at_reg0 [] [0, 2, 3, 4, 40, 46] [(0, .pointer (some ⟨g34, 0, none⟩)), (2, .pointer (some ⟨g39, 0, none⟩)), (3, .pointer (some ⟨g62, 0, none⟩)), (4, iV (x202.length : Int)), (40, iV b11.1), (46, .bool (b11.1 == 0))] ?_))))
   refine at_thn ?_
   by_cases h246 : b11.1 = 0
   ·
    rw [if_pos h246] at H
    refine at_cond_t rfl (beq_iff_eq.2 h246) ?_
    refine at_ops [0, 1, 2, 3, 4, 5, 6, 7, 8] rfl ?_
    refine at_seg0 [0, 1] [2, 3, 4, 5, 6, 7, 8] [] [0, 2, 3, 49] [(0, .pointer (some ⟨g34, 0, none⟩)), (2, .pointer (some ⟨g39, 0, none⟩)), (3, .pointer (some ⟨g62, 0, none⟩)), (49, iV (IntKind.i64.wrap ((x202.length : Int) + 1)))] ?_
    refine at_eff rfl rfl ?_
    refine eff_buildSlice (e := 2) (cells := #[iV (-1), iV (IntKind.i64.wrap ((x202.length : Int) + 1))]) ([(-1), IntKind.i64.wrap ((x202.length : Int) + 1)] : List Int).length rfl rfl rfl (by kernel_rfl) (fun g247 => ?_)
    have ho248 := own_lit (K := (Kd.int .i64)) (e := 2) (I := J239) (xs := ([(-1), IntKind.i64.wrap ((x202.length : Int) + 1)] : List Int)) (css := [[iV (-1)], [iV (IntKind.i64.wrap ((x202.length : Int) + 1))]]) (cells := #[iV (-1), iV (IntKind.i64.wrap ((x202.length : Int) + 1))]) (b := g247) ⟨rfl, ⟨rfl, trivial⟩⟩ rfl
    refine at_seg0 [3] [4, 5, 6, 7, 8] [] [2, 3, 50, 51] [(2, .pointer (some ⟨g39, 0, none⟩)), (3, .pointer (some ⟨g62, 0, none⟩)), (50, .slice (some ⟨g247, 0, none⟩ : Option Addr) ([(-1), IntKind.i64.wrap ((x202.length : Int) + 1)] : List Int).length (([(-1), IntKind.i64.wrap ((x202.length : Int) + 1)] : List Int).length)), (51, .pointer (some ⟨g34, 0, none⟩))] ?_
    refine at_eff rfl rfl ?_
    obtain ⟨b12, H249, H⟩ := bind_some H
    refine eff_call rfl rfl ok29 rfl rfl (show Meets Try.prog 29 ([.pointer (some ⟨g34, 0, none⟩), iV 2] : List Value).toArray _ [[(g34, .cells #[.slice A243 b11.2.b.length c244, iV b11.2.at_, .int .u64 b11.2.mix, iV b11.2.size] 83 (0, 0))]] _ from spec_l01Src_n.calls H249 hr245) (Mr := ([(g247, .cells #[iV (-1), iV (IntKind.i64.wrap ((x202.length : Int) + 1))] 2 (0, 0))] :: [(g39, .cells #[.slice none ([] : List Int).length 0, iV 0, iV 0] 25 (0, 0))] :: [(g62, .cells #[.slice A203 x202.length c204, iV b8.1, iV b9.1] 25 (0, 0))] :: s205 :: Fs)) ((perm_at (k := 1) rfl).trans ((List.Perm.refl _).cons _)) (fun v250 J251 M252 hq253 hJ254 => ?_)
    replace hle := hle.trans hJ254
    replace ho206 := ho206.mono hJ254
    replace ho248 := ho248.mono hJ254
    replace hr245 := hr245.mono hJ254
    obtain ⟨A255, c256, rfl, rfl, hr257⟩ := hq253
    obtain ⟨h258, H⟩ := ite_some H
    obtain ⟨h259, H⟩ := ite_some H
    refine at_seg1 [5, 6, 7] [8] [(6, iV (rdA 0 ([(-1), IntKind.i64.wrap ((x202.length : Int) + 1)] : List Int) b12.1))] [2, 3, 54, 55] [(2, .pointer (some ⟨g39, 0, none⟩)), (3, .pointer (some ⟨g62, 0, none⟩)), (54, iV (rdA 0 ([(-1), IntKind.i64.wrap ((x202.length : Int) + 1)] : List Int) b12.1)), (55, .pointer (some ⟨g62, 1, none⟩))] [fun _ => (some ⟨g247, 0, none⟩ : Option Addr).isSome = true ∧ 0 ≤ b12.1 ∧ b12.1 < ((([(-1), IntKind.i64.wrap ((x202.length : Int) + 1)] : List Int).length : Nat) : Int), fun w => w.cell? (((some ⟨g247, 0, none⟩ : Option Addr).getD ad0).add (b12.1.toNat * 1)) = some (iV (rdA 0 ([(-1), IntKind.i64.wrap ((x202.length : Int) + 1)] : List Int) b12.1))] (fun w hs => ⟨⟨ho248.ne b12.1 h258 h259, h258, h259⟩, ho248.one 0 b12.1 h258 h259 hs (k := 1) rfl⟩) ?_
    refine at_eff rfl rfl ?_
    refine eff_store 3 rfl rfl rfl rfl rfl rfl (.inl (Nat.le_refl _)) rfl (Nat.le_of_ble_eq_true (by kernel_rfl)) rfl ?_
    refine at_sg ([(g34, .cells #[.slice A255 b12.2.b.length c256, iV b12.2.at_, .int .u64 b12.2.mix, iV b12.2.size] 83 (0, 0))] :: [(g247, .cells #[iV (-1), iV (IntKind.i64.wrap ((x202.length : Int) + 1))] 2 (0, 0))] :: [(g39, .cells #[.slice none ([] : List Int).length 0, iV 0, iV 0] 25 (0, 0))] :: [(g62, .cells #[.slice A203 x202.length c204, iV (rdA 0 ([(-1), IntKind.i64.wrap ((x202.length : Int) + 1)] : List Int) b12.1), iV b9.1] 25 (0, 0))] :: s205 :: Fs) ?_
    refine at_end (at_in_norm (at_thn (at_seq (at_ops [0, 1] rfl ?_))))
    refine at_seg1 [0] [1] [(0, .agg #[.slice A203 x202.length c204, iV (rdA 0 ([(-1), IntKind.i64.wrap ((x202.length : Int) + 1)] : List Int) b12.1), iV b9.1])] [2, 66] [(2, .pointer (some ⟨g39, 0, none⟩)), (66, .agg #[.slice A203 x202.length c204, iV (rdA 0 ([(-1), IntKind.i64.wrap ((x202.length : Int) + 1)] : List Int) b12.1), iV b9.1])] [fun w => CellsAt w ⟨g62, 0, none⟩ [.slice A203 x202.length c204, iV (rdA 0 ([(-1), IntKind.i64.wrap ((x202.length : Int) + 1)] : List Int) b12.1), iV b9.1] 0] (fun w hs => cellsV (k := 3) hs rfl _ 0 (Nat.le_of_ble_eq_true (by kernel_rfl)) rfl) ?_
    refine at_eff rfl rfl ?_
    refine eff_store 2 rfl rfl rfl rfl rfl rfl (.inl (Nat.le_refl _)) rfl (Nat.le_of_ble_eq_true (by kernel_rfl)) rfl ?_
    refine at_sg ([(g34, .cells #[.slice A255 b12.2.b.length c256, iV b12.2.at_, .int .u64 b12.2.mix, iV b12.2.size] 83 (0, 0))] :: [(g247, .cells #[iV (-1), iV (IntKind.i64.wrap ((x202.length : Int) + 1))] 2 (0, 0))] :: [(g39, .cells #[.slice A203 x202.length c204, iV (rdA 0 ([(-1), IntKind.i64.wrap ((x202.length : Int) + 1)] : List Int) b12.1), iV b9.1] 25 (0, 0))] :: [(g62, .cells #[.slice A203 x202.length c204, iV (rdA 0 ([(-1), IntKind.i64.wrap ((x202.length : Int) + 1)] : List Int) b12.1), iV b9.1] 25 (0, 0))] :: s205 :: Fs) ?_
    refine at_end (at_thn (at_ret ?_))
    obtain rfl := Option.some.inj H
    refine at_drop (k := 1) rfl rfl ?_
    refine at_drop (k := 2) rfl rfl ?_
    refine at_perm ((perm_at (k := 2) rfl).trans ((List.Perm.refl _).cons _)) ?_
    refine at_done (vs := [.agg #[.slice A203 x202.length c204, iV (rdA 0 ([(-1), IntKind.i64.wrap ((x202.length : Int) + 1)] : List Int) b12.1), iV b9.1]]) (obs := [fun w => CellsAt w ⟨g39, 0, none⟩ [.slice A203 x202.length c204, iV (rdA 0 ([(-1), IntKind.i64.wrap ((x202.length : Int) + 1)] : List Int) b12.1), iV b9.1] 0]) (.inl rfl) [.cell 2 25] [(2, .agg #[.slice A203 x202.length c204, iV (rdA 0 ([(-1), IntKind.i64.wrap ((x202.length : Int) + 1)] : List Int) b12.1), iV b9.1])] rfl (by kernel_rfl) (fun w hs => cellsV (k := 2) hs rfl _ 0 (Nat.le_of_ble_eq_true (by kernel_rfl)) rfl) (fun w hs => ⟨_, _, [s205, [(g34, .cells #[.slice A255 b12.2.b.length c256, iV b12.2.at_, .int .u64 b12.2.mix, iV b12.2.size] 83 (0, 0))]], rfl, ⟨A203, c204, s205, A255, c256, rfl, rfl, ho206, hr257⟩, hle, (hs.tail (perm_at (k := 2) rfl))⟩)
   ·
    rw [if_neg h246] at H
    refine at_cond_f rfl (beq_eq_false_iff_ne.2 h246) ?_
    refine at_seq (at_reg0 [] [0, 2, 3, 4, 56] [(0, .pointer (some ⟨g34, 0, none⟩)), (2, .pointer (some ⟨g39, 0, none⟩)), (3, .pointer (some ⟨g62, 0, none⟩)), (4, iV (x202.length : Int)), (56, .bool (b11.1 == 1))] ?_)
    refine at_thn ?_
    by_cases h260 : b11.1 = 1
    ·
     rw [if_pos h260] at H
     refine at_cond_t rfl (beq_iff_eq.2 h260) ?_
     refine at_ops [0, 1, 2, 3, 4, 5, 6, 7, 8] rfl ?_
     refine at_seg0 [0, 1] [2, 3, 4, 5, 6, 7, 8] [] [0, 2, 3, 59] [(0, .pointer (some ⟨g34, 0, none⟩)), (2, .pointer (some ⟨g39, 0, none⟩)), (3, .pointer (some ⟨g62, 0, none⟩)), (59, iV (IntKind.i64.wrap ((x202.length : Int) + 1)))] ?_
     refine at_eff rfl rfl ?_
     refine eff_buildSlice (e := 2) (cells := #[iV (-1), iV (IntKind.i64.wrap ((x202.length : Int) + 1))]) ([(-1), IntKind.i64.wrap ((x202.length : Int) + 1)] : List Int).length rfl rfl rfl (by kernel_rfl) (fun g261 => ?_)
     have ho262 := own_lit (K := (Kd.int .i64)) (e := 2) (I := J239) (xs := ([(-1), IntKind.i64.wrap ((x202.length : Int) + 1)] : List Int)) (css := [[iV (-1)], [iV (IntKind.i64.wrap ((x202.length : Int) + 1))]]) (cells := #[iV (-1), iV (IntKind.i64.wrap ((x202.length : Int) + 1))]) (b := g261) ⟨rfl, ⟨rfl, trivial⟩⟩ rfl
     refine at_seg0 [3] [4, 5, 6, 7, 8] [] [2, 3, 60, 61] [(2, .pointer (some ⟨g39, 0, none⟩)), (3, .pointer (some ⟨g62, 0, none⟩)), (60, .slice (some ⟨g261, 0, none⟩ : Option Addr) ([(-1), IntKind.i64.wrap ((x202.length : Int) + 1)] : List Int).length (([(-1), IntKind.i64.wrap ((x202.length : Int) + 1)] : List Int).length)), (61, .pointer (some ⟨g34, 0, none⟩))] ?_
     refine at_eff rfl rfl ?_
     obtain ⟨b13, H263, H⟩ := bind_some H
     refine eff_call rfl rfl ok29 rfl rfl (show Meets Try.prog 29 ([.pointer (some ⟨g34, 0, none⟩), iV 2] : List Value).toArray _ [[(g34, .cells #[.slice A243 b11.2.b.length c244, iV b11.2.at_, .int .u64 b11.2.mix, iV b11.2.size] 83 (0, 0))]] _ from spec_l01Src_n.calls H263 hr245) (Mr := ([(g261, .cells #[iV (-1), iV (IntKind.i64.wrap ((x202.length : Int) + 1))] 2 (0, 0))] :: [(g39, .cells #[.slice none ([] : List Int).length 0, iV 0, iV 0] 25 (0, 0))] :: [(g62, .cells #[.slice A203 x202.length c204, iV b8.1, iV b9.1] 25 (0, 0))] :: s205 :: Fs)) ((perm_at (k := 1) rfl).trans ((List.Perm.refl _).cons _)) (fun v264 J265 M266 hq267 hJ268 => ?_)
     replace hle := hle.trans hJ268
     replace ho206 := ho206.mono hJ268
     replace ho262 := ho262.mono hJ268
     replace hr245 := hr245.mono hJ268
     obtain ⟨A269, c270, rfl, rfl, hr271⟩ := hq267
     obtain ⟨h272, H⟩ := ite_some H
     obtain ⟨h273, H⟩ := ite_some H
     refine at_seg1 [5, 6, 7] [8] [(6, iV (rdA 0 ([(-1), IntKind.i64.wrap ((x202.length : Int) + 1)] : List Int) b13.1))] [2, 3, 64, 65] [(2, .pointer (some ⟨g39, 0, none⟩)), (3, .pointer (some ⟨g62, 0, none⟩)), (64, iV (rdA 0 ([(-1), IntKind.i64.wrap ((x202.length : Int) + 1)] : List Int) b13.1)), (65, .pointer (some ⟨g62, 2, none⟩))] [fun _ => (some ⟨g261, 0, none⟩ : Option Addr).isSome = true ∧ 0 ≤ b13.1 ∧ b13.1 < ((([(-1), IntKind.i64.wrap ((x202.length : Int) + 1)] : List Int).length : Nat) : Int), fun w => w.cell? (((some ⟨g261, 0, none⟩ : Option Addr).getD ad0).add (b13.1.toNat * 1)) = some (iV (rdA 0 ([(-1), IntKind.i64.wrap ((x202.length : Int) + 1)] : List Int) b13.1))] (fun w hs => ⟨⟨ho262.ne b13.1 h272 h273, h272, h273⟩, ho262.one 0 b13.1 h272 h273 hs (k := 1) rfl⟩) ?_
     refine at_eff rfl rfl ?_
     refine eff_store 3 rfl rfl rfl rfl rfl rfl (.inl (Nat.le_refl _)) rfl (Nat.le_of_ble_eq_true (by kernel_rfl)) rfl ?_
     refine at_sg ([(g34, .cells #[.slice A269 b13.2.b.length c270, iV b13.2.at_, .int .u64 b13.2.mix, iV b13.2.size] 83 (0, 0))] :: [(g261, .cells #[iV (-1), iV (IntKind.i64.wrap ((x202.length : Int) + 1))] 2 (0, 0))] :: [(g39, .cells #[.slice none ([] : List Int).length 0, iV 0, iV 0] 25 (0, 0))] :: [(g62, .cells #[.slice A203 x202.length c204, iV b8.1, iV (rdA 0 ([(-1), IntKind.i64.wrap ((x202.length : Int) + 1)] : List Int) b13.1)] 25 (0, 0))] :: s205 :: Fs) ?_
     refine at_end (at_in_norm (at_thn (at_seq (at_ops [0, 1] rfl ?_))))
     refine at_seg1 [0] [1] [(0, .agg #[.slice A203 x202.length c204, iV b8.1, iV (rdA 0 ([(-1), IntKind.i64.wrap ((x202.length : Int) + 1)] : List Int) b13.1)])] [2, 66] [(2, .pointer (some ⟨g39, 0, none⟩)), (66, .agg #[.slice A203 x202.length c204, iV b8.1, iV (rdA 0 ([(-1), IntKind.i64.wrap ((x202.length : Int) + 1)] : List Int) b13.1)])] [fun w => CellsAt w ⟨g62, 0, none⟩ [.slice A203 x202.length c204, iV b8.1, iV (rdA 0 ([(-1), IntKind.i64.wrap ((x202.length : Int) + 1)] : List Int) b13.1)] 0] (fun w hs => cellsV (k := 3) hs rfl _ 0 (Nat.le_of_ble_eq_true (by kernel_rfl)) rfl) ?_
     refine at_eff rfl rfl ?_
     refine eff_store 2 rfl rfl rfl rfl rfl rfl (.inl (Nat.le_refl _)) rfl (Nat.le_of_ble_eq_true (by kernel_rfl)) rfl ?_
     refine at_sg ([(g34, .cells #[.slice A269 b13.2.b.length c270, iV b13.2.at_, .int .u64 b13.2.mix, iV b13.2.size] 83 (0, 0))] :: [(g261, .cells #[iV (-1), iV (IntKind.i64.wrap ((x202.length : Int) + 1))] 2 (0, 0))] :: [(g39, .cells #[.slice A203 x202.length c204, iV b8.1, iV (rdA 0 ([(-1), IntKind.i64.wrap ((x202.length : Int) + 1)] : List Int) b13.1)] 25 (0, 0))] :: [(g62, .cells #[.slice A203 x202.length c204, iV b8.1, iV (rdA 0 ([(-1), IntKind.i64.wrap ((x202.length : Int) + 1)] : List Int) b13.1)] 25 (0, 0))] :: s205 :: Fs) ?_
     refine at_end (at_thn (at_ret ?_))
     obtain rfl := Option.some.inj H
     refine at_drop (k := 1) rfl rfl ?_
     refine at_drop (k := 2) rfl rfl ?_
     refine at_perm ((perm_at (k := 2) rfl).trans ((List.Perm.refl _).cons _)) ?_
     refine at_done (vs := [.agg #[.slice A203 x202.length c204, iV b8.1, iV (rdA 0 ([(-1), IntKind.i64.wrap ((x202.length : Int) + 1)] : List Int) b13.1)]]) (obs := [fun w => CellsAt w ⟨g39, 0, none⟩ [.slice A203 x202.length c204, iV b8.1, iV (rdA 0 ([(-1), IntKind.i64.wrap ((x202.length : Int) + 1)] : List Int) b13.1)] 0]) (.inl rfl) [.cell 2 25] [(2, .agg #[.slice A203 x202.length c204, iV b8.1, iV (rdA 0 ([(-1), IntKind.i64.wrap ((x202.length : Int) + 1)] : List Int) b13.1)])] rfl (by kernel_rfl) (fun w hs => cellsV (k := 2) hs rfl _ 0 (Nat.le_of_ble_eq_true (by kernel_rfl)) rfl) (fun w hs => ⟨_, _, [s205, [(g34, .cells #[.slice A269 b13.2.b.length c270, iV b13.2.at_, .int .u64 b13.2.mix, iV b13.2.size] 83 (0, 0))]], rfl, ⟨A203, c204, s205, A269, c270, rfl, rfl, ho206, hr271⟩, hle, (hs.tail (perm_at (k := 2) rfl))⟩)
    ·
     rw [if_neg h260] at H
     refine at_cond_f rfl (beq_eq_false_iff_ne.2 h260) ?_
     refine at_ops [0, 1, 2, 3, 4, 5] rfl ?_
     refine at_seg1 [0, 1] [2, 3, 4, 5] [(1, .slice A203 x202.length c204)] [2, 3, 42] [(2, .pointer (some ⟨g39, 0, none⟩)), (3, .pointer (some ⟨g62, 0, none⟩)), (42, .slice A203 x202.length c204)] [fun w => w.cell? ⟨g62, 0, none⟩ = some (.slice A203 x202.length c204)] (fun w hs => hs.var (k := 2) rfl 0 rfl) ?_
     refine at_eff rfl rfl ?_
     refine eff_buildSlice (e := 2) (cells := #[iV 55296]) ([55296] : List Int).length rfl rfl rfl (by kernel_rfl) (fun g274 => ?_)
     have ho275 := own_lit (K := (Kd.int .i64)) (e := 2) (I := J239) (xs := ([55296] : List Int)) (css := [[iV 55296]]) (cells := #[iV 55296]) (b := g274) ⟨rfl, trivial⟩ rfl
     refine at_eff rfl rfl ?_
     obtain ⟨h276, H⟩ := ite_some H
     obtain ⟨i_, hi_, hz_, hs_, hb_⟩ := info2
     refine eff_append (K := (Kd.int .i64)) (xs := x202) (ys := ([55296] : List Int)) 4 rfl rfl rfl rfl rfl und23 und23 hi_ hz_ hs_ rfl rfl rfl ho206 rfl (fun w hs => ho275.rowAt (k := 0) hs rfl) (by rw [hb_]; omega) (by omega) (fun A277 c278 s279 ho280 => ?_)
     refine at_seg0 [4] [5] [] [2, 3, 44, 45] [(2, .pointer (some ⟨g39, 0, none⟩)), (3, .pointer (some ⟨g62, 0, none⟩)), (44, .slice A277 (x202 ++ ([55296] : List Int)).length c278), (45, .pointer (some ⟨g62, 0, none⟩))] ?_
     refine at_eff rfl rfl ?_
     refine eff_store 3 rfl rfl rfl rfl rfl rfl (.inl (Nat.le_refl _)) rfl (Nat.le_of_ble_eq_true (by kernel_rfl)) rfl ?_
     refine at_sg ([(g274, .cells #[iV 55296] 2 (0, 0))] :: [(g34, .cells #[.slice A243 b11.2.b.length c244, iV b11.2.at_, .int .u64 b11.2.mix, iV b11.2.size] 83 (0, 0))] :: [(g39, .cells #[.slice none ([] : List Int).length 0, iV 0, iV 0] 25 (0, 0))] :: [(g62, .cells #[.slice A277 (x202 ++ ([55296] : List Int)).length c278, iV b8.1, iV b9.1] 25 (0, 0))] :: s279 :: Fs) ?_
     refine at_end (at_in_norm (at_thn (at_seq (at_ops [0, 1] rfl ?_))))
     refine at_seg1 [0] [1] [(0, .agg #[.slice A277 (x202 ++ ([55296] : List Int)).length c278, iV b8.1, iV b9.1])] [2, 66] [(2, .pointer (some ⟨g39, 0, none⟩)), (66, .agg #[.slice A277 (x202 ++ ([55296] : List Int)).length c278, iV b8.1, iV b9.1])] [fun w => CellsAt w ⟨g62, 0, none⟩ [.slice A277 (x202 ++ ([55296] : List Int)).length c278, iV b8.1, iV b9.1] 0] (fun w hs => cellsV (k := 3) hs rfl _ 0 (Nat.le_of_ble_eq_true (by kernel_rfl)) rfl) ?_
     refine at_eff rfl rfl ?_
     refine eff_store 2 rfl rfl rfl rfl rfl rfl (.inl (Nat.le_refl _)) rfl (Nat.le_of_ble_eq_true (by kernel_rfl)) rfl ?_
     refine at_sg ([(g274, .cells #[iV 55296] 2 (0, 0))] :: [(g34, .cells #[.slice A243 b11.2.b.length c244, iV b11.2.at_, .int .u64 b11.2.mix, iV b11.2.size] 83 (0, 0))] :: [(g39, .cells #[.slice A277 (x202 ++ ([55296] : List Int)).length c278, iV b8.1, iV b9.1] 25 (0, 0))] :: [(g62, .cells #[.slice A277 (x202 ++ ([55296] : List Int)).length c278, iV b8.1, iV b9.1] 25 (0, 0))] :: s279 :: Fs) ?_
     refine at_end (at_thn (at_ret ?_))
     obtain rfl := Option.some.inj H
     refine at_drop (k := 0) rfl rfl ?_
     refine at_drop (k := 2) rfl rfl ?_
     refine at_perm ((perm_at (k := 2) rfl).trans ((List.Perm.refl _).cons _)) ?_
     refine at_done (vs := [.agg #[.slice A277 (x202 ++ ([55296] : List Int)).length c278, iV b8.1, iV b9.1]]) (obs := [fun w => CellsAt w ⟨g39, 0, none⟩ [.slice A277 (x202 ++ ([55296] : List Int)).length c278, iV b8.1, iV b9.1] 0]) (.inl rfl) [.cell 2 25] [(2, .agg #[.slice A277 (x202 ++ ([55296] : List Int)).length c278, iV b8.1, iV b9.1])] rfl (by kernel_rfl) (fun w hs => cellsV (k := 2) hs rfl _ 0 (Nat.le_of_ble_eq_true (by kernel_rfl)) rfl) (fun w hs => ⟨_, _, [s279, [(g34, .cells #[.slice A243 b11.2.b.length c244, iV b11.2.at_, .int .u64 b11.2.mix, iV b11.2.size] 83 (0, 0))]], rfl, ⟨A277, c278, s279, A243, c244, rfl, rfl, ho280, hr245⟩, hle, (hs.tail (perm_at (k := 2) rfl))⟩)
  ·
   rw [if_neg h236] at H
   refine at_cond_f rfl (ff_of h236) ?_
   refine at_skip (at_thn (at_seq (at_ops [0, 1] rfl ?_)))
   refine at_seg1 [0] [1] [(0, .agg #[.slice A203 x202.length c204, iV b8.1, iV b9.1])] [2, 66] [(2, .pointer (some ⟨g39, 0, none⟩)), (66, .agg #[.slice A203 x202.length c204, iV b8.1, iV b9.1])] [fun w => CellsAt w ⟨g62, 0, none⟩ [.slice A203 x202.length c204, iV b8.1, iV b9.1] 0] (fun w hs => cellsV (k := 2) hs rfl _ 0 (Nat.le_of_ble_eq_true (by kernel_rfl)) rfl) ?_
   refine at_eff rfl rfl ?_
   refine eff_store 1 rfl rfl rfl rfl rfl rfl (.inl (Nat.le_refl _)) rfl (Nat.le_of_ble_eq_true (by kernel_rfl)) rfl ?_
   refine at_sg ([(g34, .cells #[.slice A233 b10.2.b.length c234, iV b10.2.at_, .int .u64 b10.2.mix, iV b10.2.size] 83 (0, 0))] :: [(g39, .cells #[.slice A203 x202.length c204, iV b8.1, iV b9.1] 25 (0, 0))] :: [(g62, .cells #[.slice A203 x202.length c204, iV b8.1, iV b9.1] 25 (0, 0))] :: s205 :: Fs) ?_
   refine at_end (at_thn (at_ret ?_))
   obtain rfl := Option.some.inj H
   refine at_drop (k := 2) rfl rfl ?_
   refine at_perm ((perm_at (k := 2) rfl).trans ((List.Perm.refl _).cons _)) ?_
   refine at_done (vs := [.agg #[.slice A203 x202.length c204, iV b8.1, iV b9.1]]) (obs := [fun w => CellsAt w ⟨g39, 0, none⟩ [.slice A203 x202.length c204, iV b8.1, iV b9.1] 0]) (.inl rfl) [.cell 2 25] [(2, .agg #[.slice A203 x202.length c204, iV b8.1, iV b9.1])] rfl (by kernel_rfl) (fun w hs => cellsV (k := 2) hs rfl _ 0 (Nat.le_of_ble_eq_true (by kernel_rfl)) rfl) (fun w hs => ⟨_, _, [s205, [(g34, .cells #[.slice A233 b10.2.b.length c234, iV b10.2.at_, .int .u64 b10.2.mix, iV b10.2.size] 83 (0, 0))]], rfl, ⟨A203, c204, s205, A233, c234, rfl, rfl, ho206, hr235⟩, hle, (hs.tail (perm_at (k := 2) rfl))⟩)
 ·
  intro Jn63
  refine at_seq (at_ops [0, 1] rfl ?_)
  refine at_seg0 [0] [1] [] [0, 2, 3, 16] [(0, .pointer (some ⟨g34, 0, none⟩)), (2, .pointer (some ⟨g39, 0, none⟩)), (3, .pointer (some ⟨g62, 0, none⟩)), (16, .pointer (some ⟨g34, 0, none⟩))] ?_
  refine at_eff rfl rfl ?_
  obtain ⟨b5, H63, H⟩ := bind_some H
  refine eff_call rfl rfl ok30 rfl rfl (show Meets Try.prog 30 ([.pointer (some ⟨g34, 0, none⟩), iV 50] : List Value).toArray _ [[(g34, .cells #[.slice A59 b4.2.b.length c60, iV b4.2.at_, .int .u64 b4.2.mix, iV b4.2.size] 83 (0, 0))]] _ from spec_l01Src_one.calls H63 hr61) (Mr := ([(g62, .cells #[.slice A55 b4.1.length c56, iV 0, iV 0] 25 (0, 0))] :: s57 :: [(g39, .cells #[.slice none ([] : List Int).length 0, iV 0, iV 0] 25 (0, 0))] :: Fs)) ((perm_at (k := 2) rfl).trans ((List.Perm.refl _).cons _)) (fun v64 J65 M66 hq67 hJ68 => ?_)
  replace hle := hle.trans hJ68
  replace ho58 := ho58.mono hJ68
  replace hr61 := hr61.mono hJ68
  obtain ⟨A69, c70, rfl, rfl, hr71⟩ := hq67
  refine at_end (at_thn ?_)
  by_cases h72 : b5.1 = true
  ·
   rw [if_pos h72] at H
   refine at_cond_t rfl (h72) ?_
   refine at_ops [0, 1, 2, 3, 4, 5, 6] rfl ?_
   refine at_seg0 [0, 1] [2, 3, 4, 5, 6] [] [0, 2, 3, 18, 19] [(0, .pointer (some ⟨g34, 0, none⟩)), (2, .pointer (some ⟨g39, 0, none⟩)), (3, .pointer (some ⟨g62, 0, none⟩)), (18, .pointer (some ⟨g34, 0, none⟩)), (19, .pointer (some ⟨g34, 0, none⟩))] ?_
   refine at_eff rfl rfl ?_
   obtain ⟨b6, H73, H⟩ := bind_some H
   refine eff_call rfl rfl ok29 rfl rfl (show Meets Try.prog 29 ([.pointer (some ⟨g34, 0, none⟩), iV 4] : List Value).toArray _ [[(g34, .cells #[.slice A69 b5.2.b.length c70, iV b5.2.at_, .int .u64 b5.2.mix, iV b5.2.size] 83 (0, 0))]] _ from spec_l01Src_n.calls H73 hr71) (Mr := ([(g62, .cells #[.slice A55 b4.1.length c56, iV 0, iV 0] 25 (0, 0))] :: s57 :: [(g39, .cells #[.slice none ([] : List Int).length 0, iV 0, iV 0] 25 (0, 0))] :: Fs)) (List.Perm.refl _) (fun v74 J75 M76 hq77 hJ78 => ?_)
   replace hle := hle.trans hJ78
   replace ho58 := ho58.mono hJ78
   replace hr71 := hr71.mono hJ78
   obtain ⟨A79, c80, rfl, rfl, hr81⟩ := hq77
   refine at_seg0 [3] [4, 5, 6] [] [0, 2, 3, 18, 21] [(0, .pointer (some ⟨g34, 0, none⟩)), (2, .pointer (some ⟨g39, 0, none⟩)), (3, .pointer (some ⟨g62, 0, none⟩)), (18, .pointer (some ⟨g34, 0, none⟩)), (21, iV (IntKind.i64.wrap (298 + b6.1)))] ?_
   refine at_eff rfl rfl ?_
   obtain ⟨b7, H82, H⟩ := bind_some H
   refine eff_call rfl rfl ok44 rfl rfl (show Meets Try.prog 44 ([.pointer (some ⟨g34, 0, none⟩), iV (IntKind.i64.wrap (298 + b6.1))] : List Value).toArray _ [[(g34, .cells #[.slice A79 b6.2.b.length c80, iV b6.2.at_, .int .u64 b6.2.mix, iV b6.2.size] 83 (0, 0))]] _ from spec_l01Src_points.calls H82 hr81) (Mr := ([(g62, .cells #[.slice A55 b4.1.length c56, iV 0, iV 0] 25 (0, 0))] :: s57 :: [(g39, .cells #[.slice none ([] : List Int).length 0, iV 0, iV 0] 25 (0, 0))] :: Fs)) (List.Perm.refl _) (fun v83 J84 M85 hq86 hJ87 => ?_)
   replace hle := hle.trans hJ87
   replace ho58 := ho58.mono hJ87
   replace hr81 := hr81.mono hJ87
   obtain ⟨A88, c89, s90, A92, c93, rfl, rfl, ho91, hr94⟩ := hq86
   refine at_seg0 [5] [6] [] [0, 2, 3, 22, 23] [(0, .pointer (some ⟨g34, 0, none⟩)), (2, .pointer (some ⟨g39, 0, none⟩)), (3, .pointer (some ⟨g62, 0, none⟩)), (22, .slice A88 b7.1.length c89), (23, .pointer (some ⟨g62, 0, none⟩))] ?_
   refine at_eff rfl rfl ?_
   refine eff_store 2 rfl rfl rfl rfl rfl rfl (.inl (Nat.le_refl _)) rfl (Nat.le_of_ble_eq_true (by kernel_rfl)) rfl ?_
   refine at_sg (s90 :: [(g34, .cells #[.slice A92 b7.2.b.length c93, iV b7.2.at_, .int .u64 b7.2.mix, iV b7.2.size] 83 (0, 0))] :: [(g62, .cells #[.slice A88 b7.1.length c89, iV 0, iV 0] 25 (0, 0))] :: s57 :: [(g39, .cells #[.slice none ([] : List Int).length 0, iV 0, iV 0] 25 (0, 0))] :: Fs) ?_
   refine at_end (at_thn (at_drop (k := 3) rfl rfl ?_))
   refine at_sg (s90 :: [(g34, .cells #[.slice A92 b7.2.b.length c93, iV b7.2.at_, .int .u64 b7.2.mix, iV b7.2.size] 83 (0, 0))] :: [(g62, .cells #[.slice A88 b7.1.length c89, iV 0, iV 0] 25 (0, 0))] :: [(g39, .cells #[.slice none ([] : List Int).length 0, iV 0, iV 0] 25 (0, 0))] :: Fs) ?_
   refine at_perm ((perm_at (k := 1) rfl).trans (((perm_at (k := 2) rfl).trans (((perm_at (k := 1) rfl).trans ((List.Perm.refl _).cons _)).cons _)).cons _)) ?_
   refine at_keep [0, 2, 3] (L2 := [(0, .pointer (some ⟨g34, 0, none⟩)), (2, .pointer (some ⟨g39, 0, none⟩)), (3, .pointer (some ⟨g62, 0, none⟩))]) rfl ?_
   exact Jn63 _ _ _ ⟨_, b7.2.b, A92, c93, b7.2.at_, b7.2.mix, b7.2.size, b7.1, A88, c89, s90, rfl, rfl, H, hle, by omega, ho91, hr94⟩
  ·
   rw [if_neg h72] at H
   refine at_cond_f rfl (ff_of h72) ?_
   refine at_skip (at_thn (at_perm (((perm_at (k := 2) rfl).trans ((List.Perm.refl _).cons _)).cons _) ?_))
   refine at_keep [0, 2, 3] (L2 := [(0, .pointer (some ⟨g34, 0, none⟩)), (2, .pointer (some ⟨g39, 0, none⟩)), (3, .pointer (some ⟨g62, 0, none⟩))]) rfl ?_
   exact Jn63 _ _ _ ⟨_, b5.2.b, A69, c70, b5.2.at_, b5.2.mix, b5.2.size, b4.1, A55, c56, s57, rfl, rfl, H, hle, by omega, ho58, hr71⟩

/-! ### (*loop.example/g00146/spec.l01Src).l09Cols: function 20 -/
def spec_l01Src_l09Cols (k : Nat) (p7089 : T_spec_l01Src) : Option (Int × T_spec_l01Src) := (spec_l01Src_one k p7089 15).bind fun b8 => (if b8.1 = true then ((spec_l01Src_n k b8.2 4).bind fun b9 => (if 0 ≤ b9.1 then (if b9.1 < (([1, 2, 80, 81] : List Int).length : Int) then (some (rdA 0 ([1, 2, 80, 81] : List Int) b9.1, b9.2)) else none) else none)) else ((spec_l01Src_n k b8.2 12).bind fun b10 => (some (IntKind.i64.wrap (2 + b10.1), b10.2))))
set_option maxHeartbeats 4000000 in
set_option maxRecDepth 100000 in
theorem spec_l01Src_l09Cols.calls {k : Nat} {p7089 : T_spec_l01Src} {r : Int × T_spec_l01Src} {I0 : Imm} {g7088 : Nat} {A7090 : Option Addr} {c7091 : Nat} (H : spec_l01Src_l09Cols k p7089 = some r) (hr7092 : Rd (Kd.int .u8) I0 A7090 c7091 p7089.b) :
    Meets Try.prog 20 ([.pointer (some ⟨g7088, 0, none⟩)] : List Value).toArray I0 [[(g7088, .cells #[.slice A7090 p7089.b.length c7091, .int .i64 p7089.at_, .int .u64 p7089.mix, .int .i64 p7089.size] 83 (0, 0))]] (fun v J M => ∃ (A_1 : Option Addr) (c_2 : Nat), v = .int .i64 r.1 ∧ M = [[(g7088, .cells #[.slice A_1 r.2.b.length c_2, .int .i64 r.2.at_, .int .u64 r.2.mix, .int .i64 r.2.size] 83 (0, 0))]] ∧ Rd (Kd.int .u8) J A_1 c_2 r.2.b) := by
 have hle := ImmLe.refl I0
 unfold spec_l01Src_l09Cols at H
 refine fn_intro (fn := Try.f20) 13 Try.func20 rfl rfl rfl (fun E Fs => ?_)
 refine at_seq (at_reg0 [] [0] [(0, .pointer (some ⟨g7088, 0, none⟩))] ?_)
 refine at_thn (at_seq (at_seq (at_ops [0, 1] rfl ?_)))
 refine at_seg0 [0] [1] [] [0, 3] [(0, .pointer (some ⟨g7088, 0, none⟩)), (3, .pointer (some ⟨g7088, 0, none⟩))] ?_
 refine at_eff rfl rfl ?_
 obtain ⟨b8, H7093, H⟩ := bind_some H
 refine eff_call rfl rfl ok30 rfl rfl (show Meets Try.prog 30 ([.pointer (some ⟨g7088, 0, none⟩), iV 15] : List Value).toArray _ [[(g7088, .cells #[.slice A7090 p7089.b.length c7091, iV p7089.at_, .int .u64 p7089.mix, iV p7089.size] 83 (0, 0))]] _ from spec_l01Src_one.calls H7093 hr7092) (Mr := (Fs)) (List.Perm.refl _) (fun v7094 J7095 M7096 hq7097 hJ7098 => ?_)
 replace hle := hle.trans hJ7098
 replace hr7092 := hr7092.mono hJ7098
 obtain ⟨A7099, c7100, rfl, rfl, hr7101⟩ := hq7097
 refine at_end (at_thn ?_)
 by_cases h7102 : b8.1 = true
 ·
  rw [if_pos h7102] at H
  refine at_cond_t rfl (h7102) ?_
  refine at_seq (at_ops [0, 1, 2, 3, 4, 5] rfl ?_)
  refine at_eff rfl rfl ?_
  refine eff_buildSlice (e := 2) (cells := #[iV 1, iV 2, iV 80, iV 81]) ([1, 2, 80, 81] : List Int).length rfl rfl rfl (by kernel_rfl) (fun g7103 => ?_)
  have ho7104 := own_lit (K := (Kd.int .i64)) (e := 2) (I := J7095) (xs := ([1, 2, 80, 81] : List Int)) (css := [[iV 1], [iV 2], [iV 80], [iV 81]]) (cells := #[iV 1, iV 2, iV 80, iV 81]) (b := g7103) ⟨rfl, ⟨rfl, ⟨rfl, ⟨rfl, trivial⟩⟩⟩⟩ rfl
  refine at_seg0 [1] [2, 3, 4, 5] [] [5, 6] [(5, .slice (some ⟨g7103, 0, none⟩ : Option Addr) ([1, 2, 80, 81] : List Int).length (([1, 2, 80, 81] : List Int).length)), (6, .pointer (some ⟨g7088, 0, none⟩))] ?_
  refine at_eff rfl rfl ?_
  obtain ⟨b9, H7105, H⟩ := bind_some H
  refine eff_call rfl rfl ok29 rfl rfl (show Meets Try.prog 29 ([.pointer (some ⟨g7088, 0, none⟩), iV 4] : List Value).toArray _ [[(g7088, .cells #[.slice A7099 b8.2.b.length c7100, iV b8.2.at_, .int .u64 b8.2.mix, iV b8.2.size] 83 (0, 0))]] _ from spec_l01Src_n.calls H7105 hr7101) (Mr := ([(g7103, .cells #[iV 1, iV 2, iV 80, iV 81] 2 (0, 0))] :: Fs)) ((perm_at (k := 1) rfl).trans ((List.Perm.refl _).cons _)) (fun v7106 J7107 M7108 hq7109 hJ7110 => ?_)
  replace hle := hle.trans hJ7110
  replace ho7104 := ho7104.mono hJ7110
  replace hr7101 := hr7101.mono hJ7110
  obtain ⟨A7111, c7112, rfl, rfl, hr7113⟩ := hq7109
  obtain ⟨h7114, H⟩ := ite_some H
  obtain ⟨h7115, H⟩ := ite_some H
  refine at_seg1 [3, 4, 5] [] [(4, iV (rdA 0 ([1, 2, 80, 81] : List Int) b9.1))] [2] [(2, iV (rdA 0 ([1, 2, 80, 81] : List Int) b9.1))] [fun _ => (some ⟨g7103, 0, none⟩ : Option Addr).isSome = true ∧ 0 ≤ b9.1 ∧ b9.1 < ((([1, 2, 80, 81] : List Int).length : Nat) : Int), fun w => w.cell? (((some ⟨g7103, 0, none⟩ : Option Addr).getD ad0).add (b9.1.toNat * 1)) = some (iV (rdA 0 ([1, 2, 80, 81] : List Int) b9.1))] (fun w hs => ⟨⟨ho7104.ne b9.1 h7114 h7115, h7114, h7115⟩, ho7104.one 0 b9.1 h7114 h7115 hs (k := 1) rfl⟩) ?_
  refine at_end (at_thn (at_ret (at_then_ret ?_)))
  obtain rfl := Option.some.inj H
  refine at_drop (k := 1) rfl rfl ?_
  exact at_done0 [iV (rdA 0 ([1, 2, 80, 81] : List Int) b9.1)] (.inl rfl) [.tmp 2] fun w hs => ⟨_, _, [[(g7088, .cells #[.slice A7111 b9.2.b.length c7112, iV b9.2.at_, .int .u64 b9.2.mix, iV b9.2.size] 83 (0, 0))]], rfl, ⟨A7111, c7112, rfl, rfl, hr7113⟩, hle, hs⟩
 ·
  rw [if_neg h7102] at H
  refine at_cond_f rfl (ff_of h7102) ?_
  refine at_skip (at_thn (at_seq (at_ops [0, 1, 2, 3] rfl ?_)))
  refine at_seg0 [0] [1, 2, 3] [] [10] [(10, .pointer (some ⟨g7088, 0, none⟩))] ?_
  refine at_eff rfl rfl ?_
  obtain ⟨b10, H7116, H⟩ := bind_some H
  refine eff_call rfl rfl ok29 rfl rfl (show Meets Try.prog 29 ([.pointer (some ⟨g7088, 0, none⟩), iV 12] : List Value).toArray _ [[(g7088, .cells #[.slice A7099 b8.2.b.length c7100, iV b8.2.at_, .int .u64 b8.2.mix, iV b8.2.size] 83 (0, 0))]] _ from spec_l01Src_n.calls H7116 hr7101) (Mr := (Fs)) (List.Perm.refl _) (fun v7117 J7118 M7119 hq7120 hJ7121 => ?_)
  replace hle := hle.trans hJ7121
  replace hr7101 := hr7101.mono hJ7121
  obtain ⟨A7122, c7123, rfl, rfl, hr7124⟩ := hq7120
  refine at_seg0 [2, 3] [] [] [2] [(2, iV (IntKind.i64.wrap (2 + b10.1)))] ?_
  refine at_end (at_thn (at_ret ?_))
  obtain rfl := Option.some.inj H
  exact at_done0 [iV (IntKind.i64.wrap (2 + b10.1))] (.inl rfl) [.tmp 2] fun w hs => ⟨_, _, [[(g7088, .cells #[.slice A7122 b10.2.b.length c7123, iV b10.2.at_, .int .u64 b10.2.mix, iV b10.2.size] 83 (0, 0))]], rfl, ⟨A7122, c7123, rfl, rfl, hr7124⟩, hle, hs⟩
end Go.Proofs.Ytnhnipdanpcbeaa
