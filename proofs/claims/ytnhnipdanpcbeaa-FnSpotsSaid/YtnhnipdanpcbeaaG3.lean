import Derived.Test.YtnhnipdanpcbeaaG2
namespace Go.Proofs.Ytnhnipdanpcbeaa
open Go Eng
set_option linter.unusedVariables false
set_option linter.unusedSimpArgs false
/-! ### (*loop.example/g00146/spec.l01Src).l02Buf: function 19 -/
def spec_l01Src_l02Buf_j0 : Nat → (List Int) → Int → Int → Int → (List Int) → Option (T_impl_Buf × T_spec_l01Src)
  | 0, _, _, _, _, _ => none
  | k + 1, x164, x168, x169, x170, x171 => (spec_l01Src_n k (⟨x164, x168, x169, x170⟩ : T_spec_l01Src) (IntKind.i64.wrap ((x171.length : Int) + 1))).bind fun b5 => ((spec_l01Src_n k b5.2 (IntKind.i64.wrap ((x171.length : Int) + 1))).bind fun b6 => ((spec_l01Src_one k b6.2 15).bind fun b7 => (if b7.1 = true then ((spec_l01Src_n k b7.2 3).bind fun b8 => (if b8.1 = 0 then ((spec_l01Src_n k b8.2 2).bind fun b9 => (if 0 ≤ b9.1 then (if b9.1 < (([(-1), IntKind.i64.wrap ((x171.length : Int) + 1)] : List Int).length : Int) then (some ((⟨x171, rdA 0 ([(-1), IntKind.i64.wrap ((x171.length : Int) + 1)] : List Int) b9.1, b6.1⟩ : T_impl_Buf), b9.2)) else none) else none)) else (if b8.1 = 1 then ((spec_l01Src_n k b8.2 2).bind fun b10 => (if 0 ≤ b10.1 then (if b10.1 < (([(-1), IntKind.i64.wrap ((x171.length : Int) + 1)] : List Int).length : Int) then (some ((⟨x171, b5.1, rdA 0 ([(-1), IntKind.i64.wrap ((x171.length : Int) + 1)] : List Int) b10.1⟩ : T_impl_Buf), b10.2)) else none) else none)) else (if x171.length + ([55296] : List Int).length ≤ 17592186044416 then (some ((⟨(x171 ++ ([55296] : List Int)), b5.1, b6.1⟩ : T_impl_Buf), b8.2)) else none)))) else (some ((⟨x171, b5.1, b6.1⟩ : T_impl_Buf), b7.2)))))
def spec_l01Src_l02Buf (k : Nat) (p35 : T_spec_l01Src) : Option (T_impl_Buf × T_spec_l01Src) := (spec_l01Src_n k p35 (IntKind.i64.wrap (14 + (IntKind.i64.wrap (2 * p35.size))))).bind fun b3 => ((spec_l01Src_points k b3.2 b3.1).bind fun b4 => ((spec_l01Src_one k b4.2 50).bind fun b11 => (if b11.1 = true then ((spec_l01Src_n k b11.2 4).bind fun b12 => ((spec_l01Src_points k b12.2 (IntKind.i64.wrap (298 + b12.1))).bind fun b13 => (spec_l01Src_l02Buf_j0 k b13.2.b b13.2.at_ b13.2.mix b13.2.size b13.1))) else (spec_l01Src_l02Buf_j0 k b11.2.b b11.2.at_ b11.2.mix b11.2.size b4.1))))
set_option maxHeartbeats 4000000 in
set_option maxRecDepth 100000 in
theorem spec_l01Src_l02Buf.calls {k : Nat} {p35 : T_spec_l01Src} {r : T_impl_Buf × T_spec_l01Src} {I0 : Imm} {g34 : Nat} {A36 : Option Addr} {c37 : Nat} (H : spec_l01Src_l02Buf k p35 = some r) (hr38 : Rd (Kd.int .u8) I0 A36 c37 p35.b) :
    Meets Try.prog 19 ([.pointer (some ⟨g34, 0, none⟩)] : List Value).toArray I0 [[(g34, .cells #[.slice A36 p35.b.length c37, .int .i64 p35.at_, .int .u64 p35.mix, .int .i64 p35.size] 83 (0, 0))]] (fun v J M => ∃ (A_1 : Option Addr) (c_2 : Nat) (s_3 : Seg) (A_4 : Option Addr) (c_5 : Nat), v = .agg #[.slice A_1 r.1.Points.length c_2, .int .i64 r.1.Cursor, .int .i64 r.1.Mark] ∧ M = [s_3, [(g34, .cells #[.slice A_4 r.2.b.length c_5, .int .i64 r.2.at_, .int .u64 r.2.mix, .int .i64 r.2.size] 83 (0, 0))]] ∧ Own (Kd.int .i64) 2 J A_1 c_2 r.1.Points s_3 ∧ Rd (Kd.int .u8) J A_4 c_5 r.2.b) := by
  have hle := ImmLe.refl I0
  unfold spec_l01Src_l02Buf at H
  refine fn_intro (fn := Try.f19) 67 Try.func19 rfl rfl rfl (fun E Fs => ?_)
  refine at_seq ?_
  refine at_ops [0] rfl ?_
  refine at_eff rfl rfl ?_
  obtain ⟨i_, hi_, hz_, _, _⟩ := info25
  refine eff_alloc rfl rfl hi_ hz_ #[.slice none ([] : List Int).length 0, .int .i64 0, .int .i64 0] rfl (fun g39 => ?_)
  refine at_end ?_
  refine at_thn ?_
  refine at_seq ?_
  refine at_ops [0, 1, 2, 3, 4, 5, 6, 7, 8, 9, 10, 11, 12] rfl ?_
  refine at_seg [0, 1, 2, 3, 4, 5, 6, 7] [8, 9, 10, 11, 12] rfl [(5, .int .i64 p35.size)] [0, 2, 5, 6, 12] (L2 := [(0, .pointer (some ⟨g34, 0, none⟩)), (2, .pointer (some ⟨g39, 0, none⟩)), (5, .pointer (some ⟨g34, 0, none⟩)), (6, .pointer (some ⟨g34, 0, none⟩)), (12, .int .i64 (IntKind.i64.wrap (14 + (IntKind.i64.wrap (2 * p35.size)))))]) (obs := [fun w => w.cell? ⟨g34, 3, none⟩ = some (.int .i64 p35.size)]) (by kernel_rfl) ?_ ?_
  · intro w hs; exact hs.var (k := 1) rfl 3 rfl
  refine at_eff rfl rfl ?_
  obtain ⟨b3, H40, H⟩ := bind_some H
  refine eff_call rfl rfl ok29 rfl rfl (show Meets Try.prog 29 ([.pointer (some ⟨g34, 0, none⟩), .int .i64 (IntKind.i64.wrap (14 + (IntKind.i64.wrap (2 * p35.size))))] : List Value).toArray _ [[(g34, .cells #[.slice A36 p35.b.length c37, .int .i64 p35.at_, .int .u64 p35.mix, .int .i64 p35.size] 83 (0, 0))]] _ from spec_l01Src_n.calls H40 hr38) (Mr := ([(g39, .cells #[.slice none ([] : List Int).length 0, .int .i64 0, .int .i64 0] 25 (0, 0))] :: Fs)) ((perm_at (k := 1) rfl).trans ((List.Perm.refl _).cons _)) (fun v41 J42 M43 hq44 hJ45 => ?_)
  replace hle := hle.trans hJ45
  replace hr38 := hr38.mono hJ45
  obtain ⟨A46, c47, rfl, rfl, hr48⟩ := hq44
  refine at_eff rfl rfl ?_
  obtain ⟨b4, H49, H⟩ := bind_some H
  refine eff_call rfl rfl ok44 rfl rfl (show Meets Try.prog 44 ([.pointer (some ⟨g34, 0, none⟩), .int .i64 b3.1] : List Value).toArray _ [[(g34, .cells #[.slice A46 b3.2.b.length c47, .int .i64 b3.2.at_, .int .u64 b3.2.mix, .int .i64 b3.2.size] 83 (0, 0))]] _ from spec_l01Src_points.calls H49 hr48) (Mr := ([(g39, .cells #[.slice none ([] : List Int).length 0, .int .i64 0, .int .i64 0] 25 (0, 0))] :: Fs)) (List.Perm.refl _) (fun v50 J51 M52 hq53 hJ54 => ?_)
  replace hle := hle.trans hJ54
  replace hr48 := hr48.mono hJ54
  obtain ⟨A55, c56, s57, A59, c60, rfl, rfl, ho58, hr61⟩ := hq53
  refine at_seg [10] [11, 12] rfl [] [0, 2, 15] (L2 := [(0, .pointer (some ⟨g34, 0, none⟩)), (2, .pointer (some ⟨g39, 0, none⟩)), (15, .agg #[.slice A55 b4.1.length c56, .int .i64 0, .int .i64 0])]) (obs := []) (by kernel_rfl) ?_ ?_
  · intro w hs; exact trivial
  refine at_eff rfl rfl ?_
  obtain ⟨i_, hi_, hz_, _, _⟩ := info25
  refine eff_alloc rfl rfl hi_ hz_ #[.slice none ([] : List Int).length 0, .int .i64 0, .int .i64 0] rfl (fun g62 => ?_)
  refine at_eff rfl rfl ?_
  refine eff_store 0 rfl rfl rfl rfl rfl rfl (.inl (Nat.le_refl _)) rfl (Nat.le_of_ble_eq_true (by kernel_rfl)) rfl ?_
  refine at_eqM (M1 := ([(g62, .cells #[.slice A55 b4.1.length c56, .int .i64 0, .int .i64 0] 25 (0, 0))] :: s57 :: [(g34, .cells #[.slice A59 b4.2.b.length c60, .int .i64 b4.2.at_, .int .u64 b4.2.mix, .int .i64 b4.2.size] 83 (0, 0))] :: [(g39, .cells #[.slice none ([] : List Int).length 0, .int .i64 0, .int .i64 0] 25 (0, 0))] :: Fs)) (M2 := ([(g62, .cells #[.slice A55 b4.1.length c56, .int .i64 0, .int .i64 0] 25 (0, 0))] :: s57 :: [(g34, .cells #[.slice A59 b4.2.b.length c60, .int .i64 b4.2.at_, .int .u64 b4.2.mix, .int .i64 b4.2.size] 83 (0, 0))] :: [(g39, .cells #[.slice none ([] : List Int).length 0, .int .i64 0, .int .i64 0] 25 (0, 0))] :: Fs)) rfl rfl ?_
  refine at_end ?_
  refine at_thn ?_
  refine at_join (fun L I Ms => ∃ (k176 : Nat), ∃ (x164 : List Int) (A165 : Option Addr) (c166 : Nat) (x168 : Int) (x169 : Int) (x170 : Int) (x171 : List Int) (A172 : Option Addr) (c173 : Nat) (s174 : Seg), L = [(0, .pointer (some ⟨g34, 0, none⟩)), (2, .pointer (some ⟨g39, 0, none⟩)), (3, .pointer (some ⟨g62, 0, none⟩))] ∧ Ms = ([(g34, .cells #[.slice A165 x164.length c166, .int .i64 x168, .int .u64 x169, .int .i64 x170] 83 (0, 0))] :: [(g39, .cells #[.slice none ([] : List Int).length 0, .int .i64 0, .int .i64 0] 25 (0, 0))] :: [(g62, .cells #[.slice A172 x171.length c173, .int .i64 0, .int .i64 0] 25 (0, 0))] :: s174 :: Fs) ∧ spec_l01Src_l02Buf_j0 k176 x164 x168 x169 x170 x171 = some r ∧ ImmLe I0 I ∧ k176 ≤ k ∧ Own (Kd.int .i64) 2 I A172 c173 x171 s174 ∧ Rd (Kd.int .u8) I A165 c166 x164) ?_ ?_
  · clear H hle ho58 hr61
    intro L I Ms h_; obtain ⟨k176, x164, A165, c166, x168, x169, x170, x171, A172, c173, s174, hL_, hM_, H, hle, hk177, ho175, hr167⟩ := h_; rw [hL_, hM_]; clear hL_ hM_ L Ms
    rcases k176 with _ | k176
    · exact (no_none H).elim
    rw [spec_l01Src_l02Buf_j0] at H
    refine at_seq ?_
    refine at_reg [(1, .slice A172 x171.length c173)] [0, 2, 3, 4] (L2 := [(0, .pointer (some ⟨g34, 0, none⟩)), (2, .pointer (some ⟨g39, 0, none⟩)), (3, .pointer (some ⟨g62, 0, none⟩)), (4, .int .i64 (x171.length : Int))]) (obs := [fun w => w.cell? ⟨g62, 0, none⟩ = some (.slice A172 x171.length c173)]) (by kernel_rfl) ?_ ?_
    · intro w hs; exact hs.var (k := 2) rfl 0 rfl
    refine at_thn ?_
    refine at_seq ?_
    refine at_ops [0, 1, 2, 3, 4, 5] rfl ?_
    refine at_seg [0, 1, 2] [3, 4, 5] rfl [] [0, 2, 3, 4, 27, 29] (L2 := [(0, .pointer (some ⟨g34, 0, none⟩)), (2, .pointer (some ⟨g39, 0, none⟩)), (3, .pointer (some ⟨g62, 0, none⟩)), (4, .int .i64 (x171.length : Int)), (27, .pointer (some ⟨g34, 0, none⟩)), (29, .int .i64 (IntKind.i64.wrap ((x171.length : Int) + 1)))]) (obs := []) (by kernel_rfl) ?_ ?_
    · intro w hs; exact trivial
    refine at_eff rfl rfl ?_
    obtain ⟨b5, H178, H⟩ := bind_some H
    refine eff_call rfl rfl ok29 rfl rfl (show Meets Try.prog 29 ([.pointer (some ⟨g34, 0, none⟩), .int .i64 (IntKind.i64.wrap ((x171.length : Int) + 1))] : List Value).toArray _ [[(g34, .cells #[.slice A165 x164.length c166, .int .i64 x168, .int .u64 x169, .int .i64 x170] 83 (0, 0))]] _ from spec_l01Src_n.calls H178 hr167) (Mr := ([(g39, .cells #[.slice none ([] : List Int).length 0, .int .i64 0, .int .i64 0] 25 (0, 0))] :: [(g62, .cells #[.slice A172 x171.length c173, .int .i64 0, .int .i64 0] 25 (0, 0))] :: s174 :: Fs)) (List.Perm.refl _) (fun v179 J180 M181 hq182 hJ183 => ?_)
    replace hle := hle.trans hJ183
    replace ho175 := ho175.mono hJ183
    replace hr167 := hr167.mono hJ183
    obtain ⟨A184, c185, rfl, rfl, hr186⟩ := hq182
    refine at_seg [4] [5] rfl [] [0, 2, 3, 4, 30, 31] (L2 := [(0, .pointer (some ⟨g34, 0, none⟩)), (2, .pointer (some ⟨g39, 0, none⟩)), (3, .pointer (some ⟨g62, 0, none⟩)), (4, .int .i64 (x171.length : Int)), (30, .int .i64 b5.1), (31, .pointer (some ⟨g62, 1, none⟩))]) (obs := []) (by kernel_rfl) ?_ ?_
    · intro w hs; exact trivial
    refine at_eff rfl rfl ?_
    refine eff_store 2 rfl rfl rfl rfl rfl rfl (.inl (Nat.le_refl _)) rfl (Nat.le_of_ble_eq_true (by kernel_rfl)) rfl ?_
    refine at_eqM (M1 := ([(g34, .cells #[.slice A184 b5.2.b.length c185, .int .i64 b5.2.at_, .int .u64 b5.2.mix, .int .i64 b5.2.size] 83 (0, 0))] :: [(g39, .cells #[.slice none ([] : List Int).length 0, .int .i64 0, .int .i64 0] 25 (0, 0))] :: [(g62, .cells #[.slice A172 x171.length c173, .int .i64 b5.1, .int .i64 0] 25 (0, 0))] :: s174 :: Fs)) (M2 := ([(g34, .cells #[.slice A184 b5.2.b.length c185, .int .i64 b5.2.at_, .int .u64 b5.2.mix, .int .i64 b5.2.size] 83 (0, 0))] :: [(g39, .cells #[.slice none ([] : List Int).length 0, .int .i64 0, .int .i64 0] 25 (0, 0))] :: [(g62, .cells #[.slice A172 x171.length c173, .int .i64 b5.1, .int .i64 0] 25 (0, 0))] :: s174 :: Fs)) rfl rfl ?_
    refine at_end ?_
    refine at_thn ?_
    refine at_seq ?_
    refine at_ops [0, 1, 2, 3, 4, 5] rfl ?_
    refine at_seg [0, 1, 2] [3, 4, 5] rfl [] [0, 2, 3, 4, 32, 34] (L2 := [(0, .pointer (some ⟨g34, 0, none⟩)), (2, .pointer (some ⟨g39, 0, none⟩)), (3, .pointer (some ⟨g62, 0, none⟩)), (4, .int .i64 (x171.length : Int)), (32, .pointer (some ⟨g34, 0, none⟩)), (34, .int .i64 (IntKind.i64.wrap ((x171.length : Int) + 1)))]) (obs := []) (by kernel_rfl) ?_ ?_
    · intro w hs; exact trivial
    refine at_eff rfl rfl ?_
    obtain ⟨b6, H187, H⟩ := bind_some H
    refine eff_call rfl rfl ok29 rfl rfl (show Meets Try.prog 29 ([.pointer (some ⟨g34, 0, none⟩), .int .i64 (IntKind.i64.wrap ((x171.length : Int) + 1))] : List Value).toArray _ [[(g34, .cells #[.slice A184 b5.2.b.length c185, .int .i64 b5.2.at_, .int .u64 b5.2.mix, .int .i64 b5.2.size] 83 (0, 0))]] _ from spec_l01Src_n.calls H187 hr186) (Mr := ([(g39, .cells #[.slice none ([] : List Int).length 0, .int .i64 0, .int .i64 0] 25 (0, 0))] :: [(g62, .cells #[.slice A172 x171.length c173, .int .i64 b5.1, .int .i64 0] 25 (0, 0))] :: s174 :: Fs)) (List.Perm.refl _) (fun v188 J189 M190 hq191 hJ192 => ?_)
    replace hle := hle.trans hJ192
    replace ho175 := ho175.mono hJ192
    replace hr186 := hr186.mono hJ192
    obtain ⟨A193, c194, rfl, rfl, hr195⟩ := hq191
    refine at_seg [4] [5] rfl [] [0, 2, 3, 4, 35, 36] (L2 := [(0, .pointer (some ⟨g34, 0, none⟩)), (2, .pointer (some ⟨g39, 0, none⟩)), (3, .pointer (some ⟨g62, 0, none⟩)), (4, .int .i64 (x171.length : Int)), (35, .int .i64 b6.1), (36, .pointer (some ⟨g62, 2, none⟩))]) (obs := []) (by kernel_rfl) ?_ ?_
    · intro w hs; exact trivial
    refine at_eff rfl rfl ?_
    refine eff_store 2 rfl rfl rfl rfl rfl rfl (.inl (Nat.le_refl _)) rfl (Nat.le_of_ble_eq_true (by kernel_rfl)) rfl ?_
    refine at_eqM (M1 := ([(g34, .cells #[.slice A193 b6.2.b.length c194, .int .i64 b6.2.at_, .int .u64 b6.2.mix, .int .i64 b6.2.size] 83 (0, 0))] :: [(g39, .cells #[.slice none ([] : List Int).length 0, .int .i64 0, .int .i64 0] 25 (0, 0))] :: [(g62, .cells #[.slice A172 x171.length c173, .int .i64 b5.1, .int .i64 b6.1] 25 (0, 0))] :: s174 :: Fs)) (M2 := ([(g34, .cells #[.slice A193 b6.2.b.length c194, .int .i64 b6.2.at_, .int .u64 b6.2.mix, .int .i64 b6.2.size] 83 (0, 0))] :: [(g39, .cells #[.slice none ([] : List Int).length 0, .int .i64 0, .int .i64 0] 25 (0, 0))] :: [(g62, .cells #[.slice A172 x171.length c173, .int .i64 b5.1, .int .i64 b6.1] 25 (0, 0))] :: s174 :: Fs)) rfl rfl ?_
    refine at_end ?_
    refine at_thn ?_
    refine at_seq ?_
    refine at_seq ?_
    refine at_ops [0, 1] rfl ?_
    refine at_seg [0] [1] rfl [] [0, 2, 3, 4, 37] (L2 := [(0, .pointer (some ⟨g34, 0, none⟩)), (2, .pointer (some ⟨g39, 0, none⟩)), (3, .pointer (some ⟨g62, 0, none⟩)), (4, .int .i64 (x171.length : Int)), (37, .pointer (some ⟨g34, 0, none⟩))]) (obs := []) (by kernel_rfl) ?_ ?_
    · intro w hs; exact trivial
    refine at_eff rfl rfl ?_
    obtain ⟨b7, H196, H⟩ := bind_some H
    refine eff_call rfl rfl ok30 rfl rfl (show Meets Try.prog 30 ([.pointer (some ⟨g34, 0, none⟩), .int .i64 15] : List Value).toArray _ [[(g34, .cells #[.slice A193 b6.2.b.length c194, .int .i64 b6.2.at_, .int .u64 b6.2.mix, .int .i64 b6.2.size] 83 (0, 0))]] _ from spec_l01Src_one.calls H196 hr195) (Mr := ([(g39, .cells #[.slice none ([] : List Int).length 0, .int .i64 0, .int .i64 0] 25 (0, 0))] :: [(g62, .cells #[.slice A172 x171.length c173, .int .i64 b5.1, .int .i64 b6.1] 25 (0, 0))] :: s174 :: Fs)) (List.Perm.refl _) (fun v197 J198 M199 hq200 hJ201 => ?_)
    replace hle := hle.trans hJ201
    replace ho175 := ho175.mono hJ201
    replace hr195 := hr195.mono hJ201
    obtain ⟨A202, c203, rfl, rfl, hr204⟩ := hq200
    refine at_end ?_
    refine at_thn ?_
    by_cases h205 : b7.1 = true
    · rw [if_pos h205] at H
      refine at_cond_t rfl (h205) ?_
      refine at_seq ?_
      refine at_ops [0, 1] rfl ?_
      refine at_seg [0] [1] rfl [] [0, 2, 3, 4, 39] (L2 := [(0, .pointer (some ⟨g34, 0, none⟩)), (2, .pointer (some ⟨g39, 0, none⟩)), (3, .pointer (some ⟨g62, 0, none⟩)), (4, .int .i64 (x171.length : Int)), (39, .pointer (some ⟨g34, 0, none⟩))]) (obs := []) (by kernel_rfl) ?_ ?_
      · intro w hs; exact trivial
      refine at_eff rfl rfl ?_
      obtain ⟨b8, H206, H⟩ := bind_some H
      refine eff_call rfl rfl ok29 rfl rfl (show Meets Try.prog 29 ([.pointer (some ⟨g34, 0, none⟩), .int .i64 3] : List Value).toArray _ [[(g34, .cells #[.slice A202 b7.2.b.length c203, .int .i64 b7.2.at_, .int .u64 b7.2.mix, .int .i64 b7.2.size] 83 (0, 0))]] _ from spec_l01Src_n.calls H206 hr204) (Mr := ([(g39, .cells #[.slice none ([] : List Int).length 0, .int .i64 0, .int .i64 0] 25 (0, 0))] :: [(g62, .cells #[.slice A172 x171.length c173, .int .i64 b5.1, .int .i64 b6.1] 25 (0, 0))] :: s174 :: Fs)) (List.Perm.refl _) (fun v207 J208 M209 hq210 hJ211 => ?_)
      replace hle := hle.trans hJ211
      replace ho175 := ho175.mono hJ211
      replace hr204 := hr204.mono hJ211
      obtain ⟨A212, c213, rfl, rfl, hr214⟩ := hq210
      refine at_end ?_
      refine at_thn ?_
      refine at_block ?_
      refine at_seq ?_
      refine at_reg [] [0, 2, 3, 4, 40, 46] (L2 := [(0, .pointer (some ⟨g34, 0, none⟩)), (2, .pointer (some ⟨g39, 0, none⟩)), (3, .pointer (some ⟨g62, 0, none⟩)), (4, .int .i64 (x171.length : Int)), (40, .int .i64 b8.1), (46, .bool (b8.1 == 0))]) (obs := []) (by kernel_rfl) ?_ ?_
      · intro w hs; exact trivial
      refine at_thn ?_
      by_cases h215 : b8.1 = 0
      · rw [if_pos h215] at H
        refine at_cond_t rfl (beq_iff_eq.2 h215) ?_
        refine at_ops [0, 1, 2, 3, 4, 5, 6, 7, 8] rfl ?_
        refine at_seg [0, 1] [2, 3, 4, 5, 6, 7, 8] rfl [] [0, 2, 3, 49] (L2 := [(0, .pointer (some ⟨g34, 0, none⟩)), (2, .pointer (some ⟨g39, 0, none⟩)), (3, .pointer (some ⟨g62, 0, none⟩)), (49, .int .i64 (IntKind.i64.wrap ((x171.length : Int) + 1)))]) (obs := []) (by kernel_rfl) ?_ ?_
        · intro w hs; exact trivial
        refine at_eff rfl rfl ?_
        refine eff_buildSlice (e := 2) (cells := #[.int .i64 (-1), .int .i64 (IntKind.i64.wrap ((x171.length : Int) + 1))]) ([(-1), IntKind.i64.wrap ((x171.length : Int) + 1)] : List Int).length rfl rfl rfl (by kernel_rfl) (fun g216 => ?_)
        have ho217 := own_lit (K := (Kd.int .i64)) (e := 2) (I := J208) (xs := ([(-1), IntKind.i64.wrap ((x171.length : Int) + 1)] : List Int)) (css := [[.int .i64 (-1)], [.int .i64 (IntKind.i64.wrap ((x171.length : Int) + 1))]]) (cells := #[.int .i64 (-1), .int .i64 (IntKind.i64.wrap ((x171.length : Int) + 1))]) (b := g216) ⟨rfl, ⟨rfl, trivial⟩⟩ rfl
        refine at_seg [3] [4, 5, 6, 7, 8] rfl [] [2, 3, 50, 51] (L2 := [(2, .pointer (some ⟨g39, 0, none⟩)), (3, .pointer (some ⟨g62, 0, none⟩)), (50, .slice (some ⟨g216, 0, none⟩ : Option Addr) ([(-1), IntKind.i64.wrap ((x171.length : Int) + 1)] : List Int).length (([(-1), IntKind.i64.wrap ((x171.length : Int) + 1)] : List Int).length)), (51, .pointer (some ⟨g34, 0, none⟩))]) (obs := []) (by kernel_rfl) ?_ ?_
        · intro w hs; exact trivial
        refine at_eff rfl rfl ?_
        obtain ⟨b9, H218, H⟩ := bind_some H
        refine eff_call rfl rfl ok29 rfl rfl (show Meets Try.prog 29 ([.pointer (some ⟨g34, 0, none⟩), .int .i64 2] : List Value).toArray _ [[(g34, .cells #[.slice A212 b8.2.b.length c213, .int .i64 b8.2.at_, .int .u64 b8.2.mix, .int .i64 b8.2.size] 83 (0, 0))]] _ from spec_l01Src_n.calls H218 hr214) (Mr := ([(g216, .cells #[.int .i64 (-1), .int .i64 (IntKind.i64.wrap ((x171.length : Int) + 1))] 2 (0, 0))] :: [(g39, .cells #[.slice none ([] : List Int).length 0, .int .i64 0, .int .i64 0] 25 (0, 0))] :: [(g62, .cells #[.slice A172 x171.length c173, .int .i64 b5.1, .int .i64 b6.1] 25 (0, 0))] :: s174 :: Fs)) ((perm_at (k := 1) rfl).trans ((List.Perm.refl _).cons _)) (fun v219 J220 M221 hq222 hJ223 => ?_)
        replace hle := hle.trans hJ223
        replace ho175 := ho175.mono hJ223
        replace ho217 := ho217.mono hJ223
        replace hr214 := hr214.mono hJ223
        obtain ⟨A224, c225, rfl, rfl, hr226⟩ := hq222
        obtain ⟨h227, H⟩ := ite_some H
        obtain ⟨h228, H⟩ := ite_some H
        refine at_seg [5, 6, 7] [8] rfl [(6, .int .i64 (rdA 0 ([(-1), IntKind.i64.wrap ((x171.length : Int) + 1)] : List Int) b9.1))] [2, 3, 54, 55] (L2 := [(2, .pointer (some ⟨g39, 0, none⟩)), (3, .pointer (some ⟨g62, 0, none⟩)), (54, .int .i64 (rdA 0 ([(-1), IntKind.i64.wrap ((x171.length : Int) + 1)] : List Int) b9.1)), (55, .pointer (some ⟨g62, 1, none⟩))]) (obs := [fun _ => (some ⟨g216, 0, none⟩ : Option Addr).isSome = true ∧ 0 ≤ b9.1 ∧ b9.1 < ((([(-1), IntKind.i64.wrap ((x171.length : Int) + 1)] : List Int).length : Nat) : Int), fun w => w.cell? (((some ⟨g216, 0, none⟩ : Option Addr).getD ad0).add (b9.1.toNat * 1)) = some (.int .i64 (rdA 0 ([(-1), IntKind.i64.wrap ((x171.length : Int) + 1)] : List Int) b9.1))]) (by kernel_rfl) ?_ ?_
        · intro w hs; exact ⟨⟨ho217.ne b9.1 h227 h228, h227, h228⟩, ho217.one 0 b9.1 h227 h228 hs (k := 1) rfl⟩
        refine at_eff rfl rfl ?_
        refine eff_store 3 rfl rfl rfl rfl rfl rfl (.inl (Nat.le_refl _)) rfl (Nat.le_of_ble_eq_true (by kernel_rfl)) rfl ?_
        refine at_eqM (M1 := ([(g34, .cells #[.slice A224 b9.2.b.length c225, .int .i64 b9.2.at_, .int .u64 b9.2.mix, .int .i64 b9.2.size] 83 (0, 0))] :: [(g216, .cells #[.int .i64 (-1), .int .i64 (IntKind.i64.wrap ((x171.length : Int) + 1))] 2 (0, 0))] :: [(g39, .cells #[.slice none ([] : List Int).length 0, .int .i64 0, .int .i64 0] 25 (0, 0))] :: [(g62, .cells #[.slice A172 x171.length c173, .int .i64 (rdA 0 ([(-1), IntKind.i64.wrap ((x171.length : Int) + 1)] : List Int) b9.1), .int .i64 b6.1] 25 (0, 0))] :: s174 :: Fs)) (M2 := ([(g34, .cells #[.slice A224 b9.2.b.length c225, .int .i64 b9.2.at_, .int .u64 b9.2.mix, .int .i64 b9.2.size] 83 (0, 0))] :: [(g216, .cells #[.int .i64 (-1), .int .i64 (IntKind.i64.wrap ((x171.length : Int) + 1))] 2 (0, 0))] :: [(g39, .cells #[.slice none ([] : List Int).length 0, .int .i64 0, .int .i64 0] 25 (0, 0))] :: [(g62, .cells #[.slice A172 x171.length c173, .int .i64 (rdA 0 ([(-1), IntKind.i64.wrap ((x171.length : Int) + 1)] : List Int) b9.1), .int .i64 b6.1] 25 (0, 0))] :: s174 :: Fs)) rfl rfl ?_
        refine at_end ?_
        refine at_in_norm ?_
        refine at_thn ?_
        refine at_seq ?_
        refine at_ops [0, 1] rfl ?_
        refine at_seg [0] [1] rfl [(0, .agg #[.slice A172 x171.length c173, .int .i64 (rdA 0 ([(-1), IntKind.i64.wrap ((x171.length : Int) + 1)] : List Int) b9.1), .int .i64 b6.1])] [2, 66] (L2 := [(2, .pointer (some ⟨g39, 0, none⟩)), (66, .agg #[.slice A172 x171.length c173, .int .i64 (rdA 0 ([(-1), IntKind.i64.wrap ((x171.length : Int) + 1)] : List Int) b9.1), .int .i64 b6.1])]) (obs := [fun w => CellsAt w ⟨g62, 0, none⟩ [.slice A172 x171.length c173, .int .i64 (rdA 0 ([(-1), IntKind.i64.wrap ((x171.length : Int) + 1)] : List Int) b9.1), .int .i64 b6.1] 0]) (by kernel_rfl) ?_ ?_
        · intro w hs; exact cellsV (k := 3) hs rfl _ 0 (Nat.le_of_ble_eq_true (by kernel_rfl)) rfl
        refine at_eff rfl rfl ?_
        refine eff_store 2 rfl rfl rfl rfl rfl rfl (.inl (Nat.le_refl _)) rfl (Nat.le_of_ble_eq_true (by kernel_rfl)) rfl ?_
        refine at_eqM (M1 := ([(g34, .cells #[.slice A224 b9.2.b.length c225, .int .i64 b9.2.at_, .int .u64 b9.2.mix, .int .i64 b9.2.size] 83 (0, 0))] :: [(g216, .cells #[.int .i64 (-1), .int .i64 (IntKind.i64.wrap ((x171.length : Int) + 1))] 2 (0, 0))] :: [(g39, .cells #[.slice A172 x171.length c173, .int .i64 (rdA 0 ([(-1), IntKind.i64.wrap ((x171.length : Int) + 1)] : List Int) b9.1), .int .i64 b6.1] 25 (0, 0))] :: [(g62, .cells #[.slice A172 x171.length c173, .int .i64 (rdA 0 ([(-1), IntKind.i64.wrap ((x171.length : Int) + 1)] : List Int) b9.1), .int .i64 b6.1] 25 (0, 0))] :: s174 :: Fs)) (M2 := ([(g34, .cells #[.slice A224 b9.2.b.length c225, .int .i64 b9.2.at_, .int .u64 b9.2.mix, .int .i64 b9.2.size] 83 (0, 0))] :: [(g216, .cells #[.int .i64 (-1), .int .i64 (IntKind.i64.wrap ((x171.length : Int) + 1))] 2 (0, 0))] :: [(g39, .cells #[.slice A172 x171.length c173, .int .i64 (rdA 0 ([(-1), IntKind.i64.wrap ((x171.length : Int) + 1)] : List Int) b9.1), .int .i64 b6.1] 25 (0, 0))] :: [(g62, .cells #[.slice A172 x171.length c173, .int .i64 (rdA 0 ([(-1), IntKind.i64.wrap ((x171.length : Int) + 1)] : List Int) b9.1), .int .i64 b6.1] 25 (0, 0))] :: s174 :: Fs)) rfl rfl ?_
        refine at_end ?_
        refine at_thn ?_
        refine at_ret ?_
        obtain rfl := Option.some.inj H
        refine at_drop (k := 1) rfl rfl ?_
        refine at_eqM (M1 := ([(g34, .cells #[.slice A224 b9.2.b.length c225, .int .i64 b9.2.at_, .int .u64 b9.2.mix, .int .i64 b9.2.size] 83 (0, 0))] :: [(g39, .cells #[.slice A172 x171.length c173, .int .i64 (rdA 0 ([(-1), IntKind.i64.wrap ((x171.length : Int) + 1)] : List Int) b9.1), .int .i64 b6.1] 25 (0, 0))] :: [(g62, .cells #[.slice A172 x171.length c173, .int .i64 (rdA 0 ([(-1), IntKind.i64.wrap ((x171.length : Int) + 1)] : List Int) b9.1), .int .i64 b6.1] 25 (0, 0))] :: s174 :: Fs)) (M2 := ([(g34, .cells #[.slice A224 b9.2.b.length c225, .int .i64 b9.2.at_, .int .u64 b9.2.mix, .int .i64 b9.2.size] 83 (0, 0))] :: [(g39, .cells #[.slice A172 x171.length c173, .int .i64 (rdA 0 ([(-1), IntKind.i64.wrap ((x171.length : Int) + 1)] : List Int) b9.1), .int .i64 b6.1] 25 (0, 0))] :: [(g62, .cells #[.slice A172 x171.length c173, .int .i64 (rdA 0 ([(-1), IntKind.i64.wrap ((x171.length : Int) + 1)] : List Int) b9.1), .int .i64 b6.1] 25 (0, 0))] :: s174 :: Fs)) rfl rfl ?_
        refine at_drop (k := 2) rfl rfl ?_
        refine at_eqM (M1 := ([(g34, .cells #[.slice A224 b9.2.b.length c225, .int .i64 b9.2.at_, .int .u64 b9.2.mix, .int .i64 b9.2.size] 83 (0, 0))] :: [(g39, .cells #[.slice A172 x171.length c173, .int .i64 (rdA 0 ([(-1), IntKind.i64.wrap ((x171.length : Int) + 1)] : List Int) b9.1), .int .i64 b6.1] 25 (0, 0))] :: s174 :: Fs)) (M2 := ([(g34, .cells #[.slice A224 b9.2.b.length c225, .int .i64 b9.2.at_, .int .u64 b9.2.mix, .int .i64 b9.2.size] 83 (0, 0))] :: [(g39, .cells #[.slice A172 x171.length c173, .int .i64 (rdA 0 ([(-1), IntKind.i64.wrap ((x171.length : Int) + 1)] : List Int) b9.1), .int .i64 b6.1] 25 (0, 0))] :: s174 :: Fs)) rfl rfl ?_
        refine at_perm ((perm_at (k := 2) rfl).trans ((List.Perm.refl _).cons _)) ?_
        refine at_done (vs := [.agg #[.slice A172 x171.length c173, .int .i64 (rdA 0 ([(-1), IntKind.i64.wrap ((x171.length : Int) + 1)] : List Int) b9.1), .int .i64 b6.1]]) (obs := [fun w => CellsAt w ⟨g39, 0, none⟩ [.slice A172 x171.length c173, .int .i64 (rdA 0 ([(-1), IntKind.i64.wrap ((x171.length : Int) + 1)] : List Int) b9.1), .int .i64 b6.1] 0]) (.inl rfl) [.cell 2 25] [(2, .agg #[.slice A172 x171.length c173, .int .i64 (rdA 0 ([(-1), IntKind.i64.wrap ((x171.length : Int) + 1)] : List Int) b9.1), .int .i64 b6.1])] rfl (by kernel_rfl) (fun w hs => cellsV (k := 2) hs rfl _ 0 (Nat.le_of_ble_eq_true (by kernel_rfl)) rfl) (fun w hs => ⟨_, _, [s174, [(g34, .cells #[.slice A224 b9.2.b.length c225, .int .i64 b9.2.at_, .int .u64 b9.2.mix, .int .i64 b9.2.size] 83 (0, 0))]], rfl, ⟨A172, c173, s174, A224, c225, rfl, rfl, ho175, hr226⟩, hle, (hs.tail (perm_at (k := 2) rfl))⟩)
      · rw [if_neg h215] at H
        refine at_cond_f rfl (beq_eq_false_iff_ne.2 h215) ?_
        refine at_seq ?_
        refine at_reg [] [0, 2, 3, 4, 56] (L2 := [(0, .pointer (some ⟨g34, 0, none⟩)), (2, .pointer (some ⟨g39, 0, none⟩)), (3, .pointer (some ⟨g62, 0, none⟩)), (4, .int .i64 (x171.length : Int)), (56, .bool (b8.1 == 1))]) (obs := []) (by kernel_rfl) ?_ ?_
        · intro w hs; exact trivial
        refine at_thn ?_
        by_cases h229 : b8.1 = 1
        · rw [if_pos h229] at H
          refine at_cond_t rfl (beq_iff_eq.2 h229) ?_
          refine at_ops [0, 1, 2, 3, 4, 5, 6, 7, 8] rfl ?_
          refine at_seg [0, 1] [2, 3, 4, 5, 6, 7, 8] rfl [] [0, 2, 3, 59] (L2 := [(0, .pointer (some ⟨g34, 0, none⟩)), (2, .pointer (some ⟨g39, 0, none⟩)), (3, .pointer (some ⟨g62, 0, none⟩)), (59, .int .i64 (IntKind.i64.wrap ((x171.length : Int) + 1)))]) (obs := []) (by kernel_rfl) ?_ ?_
          · intro w hs; exact trivial
          refine at_eff rfl rfl ?_
          refine eff_buildSlice (e := 2) (cells := #[.int .i64 (-1), .int .i64 (IntKind.i64.wrap ((x171.length : Int) + 1))]) ([(-1), IntKind.i64.wrap ((x171.length : Int) + 1)] : List Int).length rfl rfl rfl (by kernel_rfl) (fun g230 => ?_)
          have ho231 := own_lit (K := (Kd.int .i64)) (e := 2) (I := J208) (xs := ([(-1), IntKind.i64.wrap ((x171.length : Int) + 1)] : List Int)) (css := [[.int .i64 (-1)], [.int .i64 (IntKind.i64.wrap ((x171.length : Int) + 1))]]) (cells := #[.int .i64 (-1), .int .i64 (IntKind.i64.wrap ((x171.length : Int) + 1))]) (b := g230) ⟨rfl, ⟨rfl, trivial⟩⟩ rfl
          refine at_seg [3] [4, 5, 6, 7, 8] rfl [] [2, 3, 60, 61] (L2 := [(2, .pointer (some ⟨g39, 0, none⟩)), (3, .pointer (some ⟨g62, 0, none⟩)), (60, .slice (some ⟨g230, 0, none⟩ : Option Addr) ([(-1), IntKind.i64.wrap ((x171.length : Int) + 1)] : List Int).length (([(-1), IntKind.i64.wrap ((x171.length : Int) + 1)] : List Int).length)), (61, .pointer (some ⟨g34, 0, none⟩))]) (obs := []) (by kernel_rfl) ?_ ?_
          · intro w hs; exact trivial
          refine at_eff rfl rfl ?_
          obtain ⟨b10, H232, H⟩ := bind_some H
          refine eff_call rfl rfl ok29 rfl rfl (show Meets Try.prog 29 ([.pointer (some ⟨g34, 0, none⟩), .int .i64 2] : List Value).toArray _ [[(g34, .cells #[.slice A212 b8.2.b.length c213, .int .i64 b8.2.at_, .int .u64 b8.2.mix, .int .i64 b8.2.size] 83 (0, 0))]] _ from spec_l01Src_n.calls H232 hr214) (Mr := ([(g230, .cells #[.int .i64 (-1), .int .i64 (IntKind.i64.wrap ((x171.length : Int) + 1))] 2 (0, 0))] :: [(g39, .cells #[.slice none ([] : List Int).length 0, .int .i64 0, .int .i64 0] 25 (0, 0))] :: [(g62, .cells #[.slice A172 x171.length c173, .int .i64 b5.1, .int .i64 b6.1] 25 (0, 0))] :: s174 :: Fs)) ((perm_at (k := 1) rfl).trans ((List.Perm.refl _).cons _)) (fun v233 J234 M235 hq236 hJ237 => ?_)
          replace hle := hle.trans hJ237
          replace ho175 := ho175.mono hJ237
          replace ho231 := ho231.mono hJ237
          replace hr214 := hr214.mono hJ237
          obtain ⟨A238, c239, rfl, rfl, hr240⟩ := hq236
          obtain ⟨h241, H⟩ := ite_some H
          obtain ⟨h242, H⟩ := ite_some H
          refine at_seg [5, 6, 7] [8] rfl [(6, .int .i64 (rdA 0 ([(-1), IntKind.i64.wrap ((x171.length : Int) + 1)] : List Int) b10.1))] [2, 3, 64, 65] (L2 := [(2, .pointer (some ⟨g39, 0, none⟩)), (3, .pointer (some ⟨g62, 0, none⟩)), (64, .int .i64 (rdA 0 ([(-1), IntKind.i64.wrap ((x171.length : Int) + 1)] : List Int) b10.1)), (65, .pointer (some ⟨g62, 2, none⟩))]) (obs := [fun _ => (some ⟨g230, 0, none⟩ : Option Addr).isSome = true ∧ 0 ≤ b10.1 ∧ b10.1 < ((([(-1), IntKind.i64.wrap ((x171.length : Int) + 1)] : List Int).length : Nat) : Int), fun w => w.cell? (((some ⟨g230, 0, none⟩ : Option Addr).getD ad0).add (b10.1.toNat * 1)) = some (.int .i64 (rdA 0 ([(-1), IntKind.i64.wrap ((x171.length : Int) + 1)] : List Int) b10.1))]) (by kernel_rfl) ?_ ?_
          · intro w hs; exact ⟨⟨ho231.ne b10.1 h241 h242, h241, h242⟩, ho231.one 0 b10.1 h241 h242 hs (k := 1) rfl⟩
          refine at_eff rfl rfl ?_
          refine eff_store 3 rfl rfl rfl rfl rfl rfl (.inl (Nat.le_refl _)) rfl (Nat.le_of_ble_eq_true (by kernel_rfl)) rfl ?_
          refine at_eqM (M1 := ([(g34, .cells #[.slice A238 b10.2.b.length c239, .int .i64 b10.2.at_, .int .u64 b10.2.mix, .int .i64 b10.2.size] 83 (0, 0))] :: [(g230, .cells #[.int .i64 (-1), .int .i64 (IntKind.i64.wrap ((x171.length : Int) + 1))] 2 (0, 0))] :: [(g39, .cells #[.slice none ([] : List Int).length 0, .int .i64 0, .int .i64 0] 25 (0, 0))] :: [(g62, .cells #[.slice A172 x171.length c173, .int .i64 b5.1, .int .i64 (rdA 0 ([(-1), IntKind.i64.wrap ((x171.length : Int) + 1)] : List Int) b10.1)] 25 (0, 0))] :: s174 :: Fs)) (M2 := ([(g34, .cells #[.slice A238 b10.2.b.length c239, .int .i64 b10.2.at_, .int .u64 b10.2.mix, .int .i64 b10.2.size] 83 (0, 0))] :: [(g230, .cells #[.int .i64 (-1), .int .i64 (IntKind.i64.wrap ((x171.length : Int) + 1))] 2 (0, 0))] :: [(g39, .cells #[.slice none ([] : List Int).length 0, .int .i64 0, .int .i64 0] 25 (0, 0))] :: [(g62, .cells #[.slice A172 x171.length c173, .int .i64 b5.1, .int .i64 (rdA 0 ([(-1), IntKind.i64.wrap ((x171.length : Int) + 1)] : List Int) b10.1)] 25 (0, 0))] :: s174 :: Fs)) rfl rfl ?_
          refine at_end ?_
          refine at_in_norm ?_
          refine at_thn ?_
          refine at_seq ?_
          refine at_ops [0, 1] rfl ?_
          refine at_seg [0] [1] rfl [(0, .agg #[.slice A172 x171.length c173, .int .i64 b5.1, .int .i64 (rdA 0 ([(-1), IntKind.i64.wrap ((x171.length : Int) + 1)] : List Int) b10.1)])] [2, 66] (L2 := [(2, .pointer (some ⟨g39, 0, none⟩)), (66, .agg #[.slice A172 x171.length c173, .int .i64 b5.1, .int .i64 (rdA 0 ([(-1), IntKind.i64.wrap ((x171.length : Int) + 1)] : List Int) b10.1)])]) (obs := [fun w => CellsAt w ⟨g62, 0, none⟩ [.slice A172 x171.length c173, .int .i64 b5.1, .int .i64 (rdA 0 ([(-1), IntKind.i64.wrap ((x171.length : Int) + 1)] : List Int) b10.1)] 0]) (by kernel_rfl) ?_ ?_
          · intro w hs; exact cellsV (k := 3) hs rfl _ 0 (Nat.le_of_ble_eq_true (by kernel_rfl)) rfl
          refine at_eff rfl rfl ?_
          refine eff_store 2 rfl rfl rfl rfl rfl rfl (.inl (Nat.le_refl _)) rfl (Nat.le_of_ble_eq_true (by kernel_rfl)) rfl ?_
          refine at_eqM (M1 := ([(g34, .cells #[.slice A238 b10.2.b.length c239, .int .i64 b10.2.at_, .int .u64 b10.2.mix, .int .i64 b10.2.size] 83 (0, 0))] :: [(g230, .cells #[.int .i64 (-1), .int .i64 (IntKind.i64.wrap ((x171.length : Int) + 1))] 2 (0, 0))] :: [(g39, .cells #[.slice A172 x171.length c173, .int .i64 b5.1, .int .i64 (rdA 0 ([(-1), IntKind.i64.wrap ((x171.length : Int) + 1)] : List Int) b10.1)] 25 (0, 0))] :: [(g62, .cells #[.slice A172 x171.length c173, .int .i64 b5.1, .int .i64 (rdA 0 ([(-1), IntKind.i64.wrap ((x171.length : Int) + 1)] : List Int) b10.1)] 25 (0, 0))] :: s174 :: Fs)) (M2 := ([(g34, .cells #[.slice A238 b10.2.b.length c239, .int .i64 b10.2.at_, .int .u64 b10.2.mix, .int .i64 b10.2.size] 83 (0, 0))] :: [(g230, .cells #[.int .i64 (-1), .int .i64 (IntKind.i64.wrap ((x171.length : Int) + 1))] 2 (0, 0))] :: [(g39, .cells #[.slice A172 x171.length c173, .int .i64 b5.1, .int .i64 (rdA 0 ([(-1), IntKind.i64.wrap ((x171.length : Int) + 1)] : List Int) b10.1)] 25 (0, 0))] :: [(g62, .cells #[.slice A172 x171.length c173, .int .i64 b5.1, .int .i64 (rdA 0 ([(-1), IntKind.i64.wrap ((x171.length : Int) + 1)] : List Int) b10.1)] 25 (0, 0))] :: s174 :: Fs)) rfl rfl ?_
          refine at_end ?_
          refine at_thn ?_
          refine at_ret ?_
          obtain rfl := Option.some.inj H
          refine at_drop (k := 1) rfl rfl ?_
          refine at_eqM (M1 := ([(g34, .cells #[.slice A238 b10.2.b.length c239, .int .i64 b10.2.at_, .int .u64 b10.2.mix, .int .i64 b10.2.size] 83 (0, 0))] :: [(g39, .cells #[.slice A172 x171.length c173, .int .i64 b5.1, .int .i64 (rdA 0 ([(-1), IntKind.i64.wrap ((x171.length : Int) + 1)] : List Int) b10.1)] 25 (0, 0))] :: [(g62, .cells #[.slice A172 x171.length c173, .int .i64 b5.1, .int .i64 (rdA 0 ([(-1), IntKind.i64.wrap ((x171.length : Int) + 1)] : List Int) b10.1)] 25 (0, 0))] :: s174 :: Fs)) (M2 := ([(g34, .cells #[.slice A238 b10.2.b.length c239, .int .i64 b10.2.at_, .int .u64 b10.2.mix, .int .i64 b10.2.size] 83 (0, 0))] :: [(g39, .cells #[.slice A172 x171.length c173, .int .i64 b5.1, .int .i64 (rdA 0 ([(-1), IntKind.i64.wrap ((x171.length : Int) + 1)] : List Int) b10.1)] 25 (0, 0))] :: [(g62, .cells #[.slice A172 x171.length c173, .int .i64 b5.1, .int .i64 (rdA 0 ([(-1), IntKind.i64.wrap ((x171.length : Int) + 1)] : List Int) b10.1)] 25 (0, 0))] :: s174 :: Fs)) rfl rfl ?_
          refine at_drop (k := 2) rfl rfl ?_
          refine at_eqM (M1 := ([(g34, .cells #[.slice A238 b10.2.b.length c239, .int .i64 b10.2.at_, .int .u64 b10.2.mix, .int .i64 b10.2.size] 83 (0, 0))] :: [(g39, .cells #[.slice A172 x171.length c173, .int .i64 b5.1, .int .i64 (rdA 0 ([(-1), IntKind.i64.wrap ((x171.length : Int) + 1)] : List Int) b10.1)] 25 (0, 0))] :: s174 :: Fs)) (M2 := ([(g34, .cells #[.slice A238 b10.2.b.length c239, .int .i64 b10.2.at_, .int .u64 b10.2.mix, .int .i64 b10.2.size] 83 (0, 0))] :: [(g39, .cells #[.slice A172 x171.length c173, .int .i64 b5.1, .int .i64 (rdA 0 ([(-1), IntKind.i64.wrap ((x171.length : Int) + 1)] : List Int) b10.1)] 25 (0, 0))] :: s174 :: Fs)) rfl rfl ?_
          refine at_perm ((perm_at (k := 2) rfl).trans ((List.Perm.refl _).cons _)) ?_
          refine at_done (vs := [.agg #[.slice A172 x171.length c173, .int .i64 b5.1, .int .i64 (rdA 0 ([(-1), IntKind.i64.wrap ((x171.length : Int) + 1)] : List Int) b10.1)]]) (obs := [fun w => CellsAt w ⟨g39, 0, none⟩ [.slice A172 x171.length c173, .int .i64 b5.1, .int .i64 (rdA 0 ([(-1), IntKind.i64.wrap ((x171.length : Int) + 1)] : List Int) b10.1)] 0]) (.inl rfl) [.cell 2 25] [(2, .agg #[.slice A172 x171.length c173, .int .i64 b5.1, .int .i64 (rdA 0 ([(-1), IntKind.i64.wrap ((x171.length : Int) + 1)] : List Int) b10.1)])] rfl (by kernel_rfl) (fun w hs => cellsV (k := 2) hs rfl _ 0 (Nat.le_of_ble_eq_true (by kernel_rfl)) rfl) (fun w hs => ⟨_, _, [s174, [(g34, .cells #[.slice A238 b10.2.b.length c239, .int .i64 b10.2.at_, .int .u64 b10.2.mix, .int .i64 b10.2.size] 83 (0, 0))]], rfl, ⟨A172, c173, s174, A238, c239, rfl, rfl, ho175, hr240⟩, hle, (hs.tail (perm_at (k := 2) rfl))⟩)
        · rw [if_neg h229] at H
          refine at_cond_f rfl (beq_eq_false_iff_ne.2 h229) ?_
          refine at_ops [0, 1, 2, 3, 4, 5] rfl ?_
          refine at_seg [0, 1] [2, 3, 4, 5] rfl [(1, .slice A172 x171.length c173)] [2, 3, 42] (L2 := [(2, .pointer (some ⟨g39, 0, none⟩)), (3, .pointer (some ⟨g62, 0, none⟩)), (42, .slice A172 x171.length c173)]) (obs := [fun w => w.cell? ⟨g62, 0, none⟩ = some (.slice A172 x171.length c173)]) (by kernel_rfl) ?_ ?_
          · intro w hs; exact hs.var (k := 2) rfl 0 rfl
          refine at_eff rfl rfl ?_
          refine eff_buildSlice (e := 2) (cells := #[.int .i64 55296]) ([55296] : List Int).length rfl rfl rfl (by kernel_rfl) (fun g243 => ?_)
          have ho244 := own_lit (K := (Kd.int .i64)) (e := 2) (I := J208) (xs := ([55296] : List Int)) (css := [[.int .i64 55296]]) (cells := #[.int .i64 55296]) (b := g243) ⟨rfl, trivial⟩ rfl
          refine at_eff rfl rfl ?_
          obtain ⟨h245, H⟩ := ite_some H
          obtain ⟨i_, hi_, hz_, hs_, hb_⟩ := info2
          refine eff_append (K := (Kd.int .i64)) (xs := x171) (ys := ([55296] : List Int)) 4 rfl rfl rfl rfl rfl und23 und23 hi_ hz_ hs_ rfl rfl rfl ho175 rfl (fun w hs => ho244.rowAt (k := 0) hs rfl) (by rw [hb_]; omega) (by omega) (fun A246 c247 s248 ho249 => ?_)
          refine at_seg [4] [5] rfl [] [2, 3, 44, 45] (L2 := [(2, .pointer (some ⟨g39, 0, none⟩)), (3, .pointer (some ⟨g62, 0, none⟩)), (44, .slice A246 (x171 ++ ([55296] : List Int)).length c247), (45, .pointer (some ⟨g62, 0, none⟩))]) (obs := []) (by kernel_rfl) ?_ ?_
          · intro w hs; exact trivial
          refine at_eff rfl rfl ?_
          refine eff_store 3 rfl rfl rfl rfl rfl rfl (.inl (Nat.le_refl _)) rfl (Nat.le_of_ble_eq_true (by kernel_rfl)) rfl ?_
          refine at_eqM (M1 := ([(g243, .cells #[.int .i64 55296] 2 (0, 0))] :: [(g34, .cells #[.slice A212 b8.2.b.length c213, .int .i64 b8.2.at_, .int .u64 b8.2.mix, .int .i64 b8.2.size] 83 (0, 0))] :: [(g39, .cells #[.slice none ([] : List Int).length 0, .int .i64 0, .int .i64 0] 25 (0, 0))] :: [(g62, .cells #[.slice A246 (x171 ++ ([55296] : List Int)).length c247, .int .i64 b5.1, .int .i64 b6.1] 25 (0, 0))] :: s248 :: Fs)) (M2 := ([(g243, .cells #[.int .i64 55296] 2 (0, 0))] :: [(g34, .cells #[.slice A212 b8.2.b.length c213, .int .i64 b8.2.at_, .int .u64 b8.2.mix, .int .i64 b8.2.size] 83 (0, 0))] :: [(g39, .cells #[.slice none ([] : List Int).length 0, .int .i64 0, .int .i64 0] 25 (0, 0))] :: [(g62, .cells #[.slice A246 (x171 ++ ([55296] : List Int)).length c247, .int .i64 b5.1, .int .i64 b6.1] 25 (0, 0))] :: s248 :: Fs)) rfl rfl ?_
          refine at_end ?_
          refine at_in_norm ?_
          refine at_thn ?_
          refine at_seq ?_
          refine at_ops [0, 1] rfl ?_
          refine at_seg [0] [1] rfl [(0, .agg #[.slice A246 (x171 ++ ([55296] : List Int)).length c247, .int .i64 b5.1, .int .i64 b6.1])] [2, 66] (L2 := [(2, .pointer (some ⟨g39, 0, none⟩)), (66, .agg #[.slice A246 (x171 ++ ([55296] : List Int)).length c247, .int .i64 b5.1, .int .i64 b6.1])]) (obs := [fun w => CellsAt w ⟨g62, 0, none⟩ [.slice A246 (x171 ++ ([55296] : List Int)).length c247, .int .i64 b5.1, .int .i64 b6.1] 0]) (by kernel_rfl) ?_ ?_
          · intro w hs; exact cellsV (k := 3) hs rfl _ 0 (Nat.le_of_ble_eq_true (by kernel_rfl)) rfl
          refine at_eff rfl rfl ?_
          refine eff_store 2 rfl rfl rfl rfl rfl rfl (.inl (Nat.le_refl _)) rfl (Nat.le_of_ble_eq_true (by kernel_rfl)) rfl ?_
          refine at_eqM (M1 := ([(g243, .cells #[.int .i64 55296] 2 (0, 0))] :: [(g34, .cells #[.slice A212 b8.2.b.length c213, .int .i64 b8.2.at_, .int .u64 b8.2.mix, .int .i64 b8.2.size] 83 (0, 0))] :: [(g39, .cells #[.slice A246 (x171 ++ ([55296] : List Int)).length c247, .int .i64 b5.1, .int .i64 b6.1] 25 (0, 0))] :: [(g62, .cells #[.slice A246 (x171 ++ ([55296] : List Int)).length c247, .int .i64 b5.1, .int .i64 b6.1] 25 (0, 0))] :: s248 :: Fs)) (M2 := ([(g243, .cells #[.int .i64 55296] 2 (0, 0))] :: [(g34, .cells #[.slice A212 b8.2.b.length c213, .int .i64 b8.2.at_, .int .u64 b8.2.mix, .int .i64 b8.2.size] 83 (0, 0))] :: [(g39, .cells #[.slice A246 (x171 ++ ([55296] : List Int)).length c247, .int .i64 b5.1, .int .i64 b6.1] 25 (0, 0))] :: [(g62, .cells #[.slice A246 (x171 ++ ([55296] : List Int)).length c247, .int .i64 b5.1, .int .i64 b6.1] 25 (0, 0))] :: s248 :: Fs)) rfl rfl ?_
          refine at_end ?_
          refine at_thn ?_
          refine at_ret ?_
          obtain rfl := Option.some.inj H
          refine at_drop (k := 0) rfl rfl ?_
          refine at_eqM (M1 := ([(g34, .cells #[.slice A212 b8.2.b.length c213, .int .i64 b8.2.at_, .int .u64 b8.2.mix, .int .i64 b8.2.size] 83 (0, 0))] :: [(g39, .cells #[.slice A246 (x171 ++ ([55296] : List Int)).length c247, .int .i64 b5.1, .int .i64 b6.1] 25 (0, 0))] :: [(g62, .cells #[.slice A246 (x171 ++ ([55296] : List Int)).length c247, .int .i64 b5.1, .int .i64 b6.1] 25 (0, 0))] :: s248 :: Fs)) (M2 := ([(g34, .cells #[.slice A212 b8.2.b.length c213, .int .i64 b8.2.at_, .int .u64 b8.2.mix, .int .i64 b8.2.size] 83 (0, 0))] :: [(g39, .cells #[.slice A246 (x171 ++ ([55296] : List Int)).length c247, .int .i64 b5.1, .int .i64 b6.1] 25 (0, 0))] :: [(g62, .cells #[.slice A246 (x171 ++ ([55296] : List Int)).length c247, .int .i64 b5.1, .int .i64 b6.1] 25 (0, 0))] :: s248 :: Fs)) rfl rfl ?_
          refine at_drop (k := 2) rfl rfl ?_
          refine at_eqM (M1 := ([(g34, .cells #[.slice A212 b8.2.b.length c213, .int .i64 b8.2.at_, .int .u64 b8.2.mix, .int .i64 b8.2.size] 83 (0, 0))] :: [(g39, .cells #[.slice A246 (x171 ++ ([55296] : List Int)).length c247, .int .i64 b5.1, .int .i64 b6.1] 25 (0, 0))] :: s248 :: Fs)) (M2 := ([(g34, .cells #[.slice A212 b8.2.b.length c213, .int .i64 b8.2.at_, .int .u64 b8.2.mix, .int .i64 b8.2.size] 83 (0, 0))] :: [(g39, .cells #[.slice A246 (x171 ++ ([55296] : List Int)).length c247, .int .i64 b5.1, .int .i64 b6.1] 25 (0, 0))] :: s248 :: Fs)) rfl rfl ?_
          refine at_perm ((perm_at (k := 2) rfl).trans ((List.Perm.refl _).cons _)) ?_
          refine at_done (vs := [.agg #[.slice A246 (x171 ++ ([55296] : List Int)).length c247, .int .i64 b5.1, .int .i64 b6.1]]) (obs := [fun w => CellsAt w ⟨g39, 0, none⟩ [.slice A246 (x171 ++ ([55296] : List Int)).length c247, .int .i64 b5.1, .int .i64 b6.1] 0]) (.inl rfl) [.cell 2 25] [(2, .agg #[.slice A246 (x171 ++ ([55296] : List Int)).length c247, .int .i64 b5.1, .int .i64 b6.1])] rfl (by kernel_rfl) (fun w hs => cellsV (k := 2) hs rfl _ 0 (Nat.le_of_ble_eq_true (by kernel_rfl)) rfl) (fun w hs => ⟨_, _, [s248, [(g34, .cells #[.slice A212 b8.2.b.length c213, .int .i64 b8.2.at_, .int .u64 b8.2.mix, .int .i64 b8.2.size] 83 (0, 0))]], rfl, ⟨A246, c247, s248, A212, c213, rfl, rfl, ho249, hr214⟩, hle, (hs.tail (perm_at (k := 2) rfl))⟩)
    · rw [if_neg h205] at H
      refine at_cond_f rfl (ff_of h205) ?_
      refine at_skip ?_
      refine at_thn ?_
      refine at_seq ?_
      refine at_ops [0, 1] rfl ?_
      refine at_seg [0] [1] rfl [(0, .agg #[.slice A172 x171.length c173, .int .i64 b5.1, .int .i64 b6.1])] [2, 66] (L2 := [(2, .pointer (some ⟨g39, 0, none⟩)), (66, .agg #[.slice A172 x171.length c173, .int .i64 b5.1, .int .i64 b6.1])]) (obs := [fun w => CellsAt w ⟨g62, 0, none⟩ [.slice A172 x171.length c173, .int .i64 b5.1, .int .i64 b6.1] 0]) (by kernel_rfl) ?_ ?_
      · intro w hs; exact cellsV (k := 2) hs rfl _ 0 (Nat.le_of_ble_eq_true (by kernel_rfl)) rfl
      refine at_eff rfl rfl ?_
      refine eff_store 1 rfl rfl rfl rfl rfl rfl (.inl (Nat.le_refl _)) rfl (Nat.le_of_ble_eq_true (by kernel_rfl)) rfl ?_
      refine at_eqM (M1 := ([(g34, .cells #[.slice A202 b7.2.b.length c203, .int .i64 b7.2.at_, .int .u64 b7.2.mix, .int .i64 b7.2.size] 83 (0, 0))] :: [(g39, .cells #[.slice A172 x171.length c173, .int .i64 b5.1, .int .i64 b6.1] 25 (0, 0))] :: [(g62, .cells #[.slice A172 x171.length c173, .int .i64 b5.1, .int .i64 b6.1] 25 (0, 0))] :: s174 :: Fs)) (M2 := ([(g34, .cells #[.slice A202 b7.2.b.length c203, .int .i64 b7.2.at_, .int .u64 b7.2.mix, .int .i64 b7.2.size] 83 (0, 0))] :: [(g39, .cells #[.slice A172 x171.length c173, .int .i64 b5.1, .int .i64 b6.1] 25 (0, 0))] :: [(g62, .cells #[.slice A172 x171.length c173, .int .i64 b5.1, .int .i64 b6.1] 25 (0, 0))] :: s174 :: Fs)) rfl rfl ?_
      refine at_end ?_
      refine at_thn ?_
      refine at_ret ?_
      obtain rfl := Option.some.inj H
      refine at_drop (k := 2) rfl rfl ?_
      refine at_eqM (M1 := ([(g34, .cells #[.slice A202 b7.2.b.length c203, .int .i64 b7.2.at_, .int .u64 b7.2.mix, .int .i64 b7.2.size] 83 (0, 0))] :: [(g39, .cells #[.slice A172 x171.length c173, .int .i64 b5.1, .int .i64 b6.1] 25 (0, 0))] :: s174 :: Fs)) (M2 := ([(g34, .cells #[.slice A202 b7.2.b.length c203, .int .i64 b7.2.at_, .int .u64 b7.2.mix, .int .i64 b7.2.size] 83 (0, 0))] :: [(g39, .cells #[.slice A172 x171.length c173, .int .i64 b5.1, .int .i64 b6.1] 25 (0, 0))] :: s174 :: Fs)) rfl rfl ?_
      refine at_perm ((perm_at (k := 2) rfl).trans ((List.Perm.refl _).cons _)) ?_
      refine at_done (vs := [.agg #[.slice A172 x171.length c173, .int .i64 b5.1, .int .i64 b6.1]]) (obs := [fun w => CellsAt w ⟨g39, 0, none⟩ [.slice A172 x171.length c173, .int .i64 b5.1, .int .i64 b6.1] 0]) (.inl rfl) [.cell 2 25] [(2, .agg #[.slice A172 x171.length c173, .int .i64 b5.1, .int .i64 b6.1])] rfl (by kernel_rfl) (fun w hs => cellsV (k := 2) hs rfl _ 0 (Nat.le_of_ble_eq_true (by kernel_rfl)) rfl) (fun w hs => ⟨_, _, [s174, [(g34, .cells #[.slice A202 b7.2.b.length c203, .int .i64 b7.2.at_, .int .u64 b7.2.mix, .int .i64 b7.2.size] 83 (0, 0))]], rfl, ⟨A172, c173, s174, A202, c203, rfl, rfl, ho175, hr204⟩, hle, (hs.tail (perm_at (k := 2) rfl))⟩)
  · intro Jn63
    refine at_seq ?_
    refine at_ops [0, 1] rfl ?_
    refine at_seg [0] [1] rfl [] [0, 2, 3, 16] (L2 := [(0, .pointer (some ⟨g34, 0, none⟩)), (2, .pointer (some ⟨g39, 0, none⟩)), (3, .pointer (some ⟨g62, 0, none⟩)), (16, .pointer (some ⟨g34, 0, none⟩))]) (obs := []) (by kernel_rfl) ?_ ?_
    · intro w hs; exact trivial
    refine at_eff rfl rfl ?_
    obtain ⟨b11, H250, H⟩ := bind_some H
    refine eff_call rfl rfl ok30 rfl rfl (show Meets Try.prog 30 ([.pointer (some ⟨g34, 0, none⟩), .int .i64 50] : List Value).toArray _ [[(g34, .cells #[.slice A59 b4.2.b.length c60, .int .i64 b4.2.at_, .int .u64 b4.2.mix, .int .i64 b4.2.size] 83 (0, 0))]] _ from spec_l01Src_one.calls H250 hr61) (Mr := ([(g62, .cells #[.slice A55 b4.1.length c56, .int .i64 0, .int .i64 0] 25 (0, 0))] :: s57 :: [(g39, .cells #[.slice none ([] : List Int).length 0, .int .i64 0, .int .i64 0] 25 (0, 0))] :: Fs)) ((perm_at (k := 2) rfl).trans ((List.Perm.refl _).cons _)) (fun v251 J252 M253 hq254 hJ255 => ?_)
    replace hle := hle.trans hJ255
    replace ho58 := ho58.mono hJ255
    replace hr61 := hr61.mono hJ255
    obtain ⟨A256, c257, rfl, rfl, hr258⟩ := hq254
    refine at_end ?_
    refine at_thn ?_
    by_cases h259 : b11.1 = true
    · rw [if_pos h259] at H
      refine at_cond_t rfl (h259) ?_
      refine at_ops [0, 1, 2, 3, 4, 5, 6] rfl ?_
      refine at_seg [0, 1] [2, 3, 4, 5, 6] rfl [] [0, 2, 3, 18, 19] (L2 := [(0, .pointer (some ⟨g34, 0, none⟩)), (2, .pointer (some ⟨g39, 0, none⟩)), (3, .pointer (some ⟨g62, 0, none⟩)), (18, .pointer (some ⟨g34, 0, none⟩)), (19, .pointer (some ⟨g34, 0, none⟩))]) (obs := []) (by kernel_rfl) ?_ ?_
      · intro w hs; exact trivial
      refine at_eff rfl rfl ?_
      obtain ⟨b12, H260, H⟩ := bind_some H
      refine eff_call rfl rfl ok29 rfl rfl (show Meets Try.prog 29 ([.pointer (some ⟨g34, 0, none⟩), .int .i64 4] : List Value).toArray _ [[(g34, .cells #[.slice A256 b11.2.b.length c257, .int .i64 b11.2.at_, .int .u64 b11.2.mix, .int .i64 b11.2.size] 83 (0, 0))]] _ from spec_l01Src_n.calls H260 hr258) (Mr := ([(g62, .cells #[.slice A55 b4.1.length c56, .int .i64 0, .int .i64 0] 25 (0, 0))] :: s57 :: [(g39, .cells #[.slice none ([] : List Int).length 0, .int .i64 0, .int .i64 0] 25 (0, 0))] :: Fs)) (List.Perm.refl _) (fun v261 J262 M263 hq264 hJ265 => ?_)
      replace hle := hle.trans hJ265
      replace ho58 := ho58.mono hJ265
      replace hr258 := hr258.mono hJ265
      obtain ⟨A266, c267, rfl, rfl, hr268⟩ := hq264
      refine at_seg [3] [4, 5, 6] rfl [] [0, 2, 3, 18, 21] (L2 := [(0, .pointer (some ⟨g34, 0, none⟩)), (2, .pointer (some ⟨g39, 0, none⟩)), (3, .pointer (some ⟨g62, 0, none⟩)), (18, .pointer (some ⟨g34, 0, none⟩)), (21, .int .i64 (IntKind.i64.wrap (298 + b12.1)))]) (obs := []) (by kernel_rfl) ?_ ?_
      · intro w hs; exact trivial
      refine at_eff rfl rfl ?_
      obtain ⟨b13, H269, H⟩ := bind_some H
      refine eff_call rfl rfl ok44 rfl rfl (show Meets Try.prog 44 ([.pointer (some ⟨g34, 0, none⟩), .int .i64 (IntKind.i64.wrap (298 + b12.1))] : List Value).toArray _ [[(g34, .cells #[.slice A266 b12.2.b.length c267, .int .i64 b12.2.at_, .int .u64 b12.2.mix, .int .i64 b12.2.size] 83 (0, 0))]] _ from spec_l01Src_points.calls H269 hr268) (Mr := ([(g62, .cells #[.slice A55 b4.1.length c56, .int .i64 0, .int .i64 0] 25 (0, 0))] :: s57 :: [(g39, .cells #[.slice none ([] : List Int).length 0, .int .i64 0, .int .i64 0] 25 (0, 0))] :: Fs)) (List.Perm.refl _) (fun v270 J271 M272 hq273 hJ274 => ?_)
      replace hle := hle.trans hJ274
      replace ho58 := ho58.mono hJ274
      replace hr268 := hr268.mono hJ274
      obtain ⟨A275, c276, s277, A279, c280, rfl, rfl, ho278, hr281⟩ := hq273
      refine at_seg [5] [6] rfl [] [0, 2, 3, 22, 23] (L2 := [(0, .pointer (some ⟨g34, 0, none⟩)), (2, .pointer (some ⟨g39, 0, none⟩)), (3, .pointer (some ⟨g62, 0, none⟩)), (22, .slice A275 b13.1.length c276), (23, .pointer (some ⟨g62, 0, none⟩))]) (obs := []) (by kernel_rfl) ?_ ?_
      · intro w hs; exact trivial
      refine at_eff rfl rfl ?_
      refine eff_store 2 rfl rfl rfl rfl rfl rfl (.inl (Nat.le_refl _)) rfl (Nat.le_of_ble_eq_true (by kernel_rfl)) rfl ?_
      refine at_eqM (M1 := (s277 :: [(g34, .cells #[.slice A279 b13.2.b.length c280, .int .i64 b13.2.at_, .int .u64 b13.2.mix, .int .i64 b13.2.size] 83 (0, 0))] :: [(g62, .cells #[.slice A275 b13.1.length c276, .int .i64 0, .int .i64 0] 25 (0, 0))] :: s57 :: [(g39, .cells #[.slice none ([] : List Int).length 0, .int .i64 0, .int .i64 0] 25 (0, 0))] :: Fs)) (M2 := (s277 :: [(g34, .cells #[.slice A279 b13.2.b.length c280, .int .i64 b13.2.at_, .int .u64 b13.2.mix, .int .i64 b13.2.size] 83 (0, 0))] :: [(g62, .cells #[.slice A275 b13.1.length c276, .int .i64 0, .int .i64 0] 25 (0, 0))] :: s57 :: [(g39, .cells #[.slice none ([] : List Int).length 0, .int .i64 0, .int .i64 0] 25 (0, 0))] :: Fs)) rfl rfl ?_
      refine at_end ?_
      refine at_thn ?_
      refine at_drop (k := 3) rfl rfl ?_
      refine at_eqM (M1 := (s277 :: [(g34, .cells #[.slice A279 b13.2.b.length c280, .int .i64 b13.2.at_, .int .u64 b13.2.mix, .int .i64 b13.2.size] 83 (0, 0))] :: [(g62, .cells #[.slice A275 b13.1.length c276, .int .i64 0, .int .i64 0] 25 (0, 0))] :: [(g39, .cells #[.slice none ([] : List Int).length 0, .int .i64 0, .int .i64 0] 25 (0, 0))] :: Fs)) (M2 := (s277 :: [(g34, .cells #[.slice A279 b13.2.b.length c280, .int .i64 b13.2.at_, .int .u64 b13.2.mix, .int .i64 b13.2.size] 83 (0, 0))] :: [(g62, .cells #[.slice A275 b13.1.length c276, .int .i64 0, .int .i64 0] 25 (0, 0))] :: [(g39, .cells #[.slice none ([] : List Int).length 0, .int .i64 0, .int .i64 0] 25 (0, 0))] :: Fs)) rfl rfl ?_
      refine at_perm ((perm_at (k := 1) rfl).trans (((perm_at (k := 2) rfl).trans (((perm_at (k := 1) rfl).trans ((List.Perm.refl _).cons _)).cons _)).cons _)) ?_
      refine at_keep [0, 2, 3] (L2 := [(0, .pointer (some ⟨g34, 0, none⟩)), (2, .pointer (some ⟨g39, 0, none⟩)), (3, .pointer (some ⟨g62, 0, none⟩))]) rfl ?_
      exact Jn63 _ _ _ ⟨_, b13.2.b, A279, c280, b13.2.at_, b13.2.mix, b13.2.size, b13.1, A275, c276, s277, rfl, rfl, H, hle, by omega, ho278, hr281⟩
    · rw [if_neg h259] at H
      refine at_cond_f rfl (ff_of h259) ?_
      refine at_skip ?_
      refine at_thn ?_
      refine at_perm (((perm_at (k := 2) rfl).trans ((List.Perm.refl _).cons _)).cons _) ?_
      refine at_keep [0, 2, 3] (L2 := [(0, .pointer (some ⟨g34, 0, none⟩)), (2, .pointer (some ⟨g39, 0, none⟩)), (3, .pointer (some ⟨g62, 0, none⟩))]) rfl ?_
      exact Jn63 _ _ _ ⟨_, b11.2.b, A256, c257, b11.2.at_, b11.2.mix, b11.2.size, b4.1, A55, c56, s57, rfl, rfl, H, hle, by omega, ho58, hr258⟩

/-! ### (*loop.example/g00146/spec.l01Src).l09Cols: function 20 -/
def spec_l01Src_l09Cols (k : Nat) (p49 : T_spec_l01Src) : Option (Int × T_spec_l01Src) := (spec_l01Src_one k p49 15).bind fun b4 => (if b4.1 = true then ((spec_l01Src_n k b4.2 4).bind fun b5 => (if 0 ≤ b5.1 then (if b5.1 < (([1, 2, 80, 81] : List Int).length : Int) then (some (rdA 0 ([1, 2, 80, 81] : List Int) b5.1, b5.2)) else none) else none)) else ((spec_l01Src_n k b4.2 12).bind fun b6 => (some (IntKind.i64.wrap (2 + b6.1), b6.2))))
set_option maxHeartbeats 4000000 in
set_option maxRecDepth 100000 in
theorem spec_l01Src_l09Cols.calls {k : Nat} {p49 : T_spec_l01Src} {r : Int × T_spec_l01Src} {I0 : Imm} {g48 : Nat} {A50 : Option Addr} {c51 : Nat} (H : spec_l01Src_l09Cols k p49 = some r) (hr52 : Rd (Kd.int .u8) I0 A50 c51 p49.b) :
    Meets Try.prog 20 ([.pointer (some ⟨g48, 0, none⟩)] : List Value).toArray I0 [[(g48, .cells #[.slice A50 p49.b.length c51, .int .i64 p49.at_, .int .u64 p49.mix, .int .i64 p49.size] 83 (0, 0))]] (fun v J M => ∃ (A_1 : Option Addr) (c_2 : Nat), v = .int .i64 r.1 ∧ M = [[(g48, .cells #[.slice A_1 r.2.b.length c_2, .int .i64 r.2.at_, .int .u64 r.2.mix, .int .i64 r.2.size] 83 (0, 0))]] ∧ Rd (Kd.int .u8) J A_1 c_2 r.2.b) := by
  have hle := ImmLe.refl I0
  unfold spec_l01Src_l09Cols at H
  refine fn_intro (fn := Try.f20) 13 Try.func20 rfl rfl rfl (fun E Fs => ?_)
  refine at_seq ?_
  refine at_reg [] [0] (L2 := [(0, .pointer (some ⟨g48, 0, none⟩))]) (obs := []) (by kernel_rfl) ?_ ?_
  · intro w hs; exact trivial
  refine at_thn ?_
  refine at_seq ?_
  refine at_seq ?_
  refine at_ops [0, 1] rfl ?_
  refine at_seg [0] [1] rfl [] [0, 3] (L2 := [(0, .pointer (some ⟨g48, 0, none⟩)), (3, .pointer (some ⟨g48, 0, none⟩))]) (obs := []) (by kernel_rfl) ?_ ?_
  · intro w hs; exact trivial
  refine at_eff rfl rfl ?_
  obtain ⟨b4, H53, H⟩ := bind_some H
  refine eff_call rfl rfl ok30 rfl rfl (show Meets Try.prog 30 ([.pointer (some ⟨g48, 0, none⟩), .int .i64 15] : List Value).toArray _ [[(g48, .cells #[.slice A50 p49.b.length c51, .int .i64 p49.at_, .int .u64 p49.mix, .int .i64 p49.size] 83 (0, 0))]] _ from spec_l01Src_one.calls H53 hr52) (Mr := (Fs)) (List.Perm.refl _) (fun v54 J55 M56 hq57 hJ58 => ?_)
  replace hle := hle.trans hJ58
  replace hr52 := hr52.mono hJ58
  obtain ⟨A59, c60, rfl, rfl, hr61⟩ := hq57
  refine at_end ?_
  refine at_thn ?_
  by_cases h62 : b4.1 = true
  · rw [if_pos h62] at H
    refine at_cond_t rfl (h62) ?_
    refine at_seq ?_
    refine at_ops [0, 1, 2, 3, 4, 5] rfl ?_
    refine at_eff rfl rfl ?_
    refine eff_buildSlice (e := 2) (cells := #[.int .i64 1, .int .i64 2, .int .i64 80, .int .i64 81]) ([1, 2, 80, 81] : List Int).length rfl rfl rfl (by kernel_rfl) (fun g63 => ?_)
    have ho64 := own_lit (K := (Kd.int .i64)) (e := 2) (I := J55) (xs := ([1, 2, 80, 81] : List Int)) (css := [[.int .i64 1], [.int .i64 2], [.int .i64 80], [.int .i64 81]]) (cells := #[.int .i64 1, .int .i64 2, .int .i64 80, .int .i64 81]) (b := g63) ⟨rfl, ⟨rfl, ⟨rfl, ⟨rfl, trivial⟩⟩⟩⟩ rfl
    refine at_seg [1] [2, 3, 4, 5] rfl [] [5, 6] (L2 := [(5, .slice (some ⟨g63, 0, none⟩ : Option Addr) ([1, 2, 80, 81] : List Int).length (([1, 2, 80, 81] : List Int).length)), (6, .pointer (some ⟨g48, 0, none⟩))]) (obs := []) (by kernel_rfl) ?_ ?_
    · intro w hs; exact trivial
    refine at_eff rfl rfl ?_
    obtain ⟨b5, H65, H⟩ := bind_some H
    refine eff_call rfl rfl ok29 rfl rfl (show Meets Try.prog 29 ([.pointer (some ⟨g48, 0, none⟩), .int .i64 4] : List Value).toArray _ [[(g48, .cells #[.slice A59 b4.2.b.length c60, .int .i64 b4.2.at_, .int .u64 b4.2.mix, .int .i64 b4.2.size] 83 (0, 0))]] _ from spec_l01Src_n.calls H65 hr61) (Mr := ([(g63, .cells #[.int .i64 1, .int .i64 2, .int .i64 80, .int .i64 81] 2 (0, 0))] :: Fs)) ((perm_at (k := 1) rfl).trans ((List.Perm.refl _).cons _)) (fun v66 J67 M68 hq69 hJ70 => ?_)
    replace hle := hle.trans hJ70
    replace ho64 := ho64.mono hJ70
    replace hr61 := hr61.mono hJ70
    obtain ⟨A71, c72, rfl, rfl, hr73⟩ := hq69
    obtain ⟨h74, H⟩ := ite_some H
    obtain ⟨h75, H⟩ := ite_some H
    refine at_seg [3, 4, 5] [] rfl [(4, .int .i64 (rdA 0 ([1, 2, 80, 81] : List Int) b5.1))] [2] (L2 := [(2, .int .i64 (rdA 0 ([1, 2, 80, 81] : List Int) b5.1))]) (obs := [fun _ => (some ⟨g63, 0, none⟩ : Option Addr).isSome = true ∧ 0 ≤ b5.1 ∧ b5.1 < ((([1, 2, 80, 81] : List Int).length : Nat) : Int), fun w => w.cell? (((some ⟨g63, 0, none⟩ : Option Addr).getD ad0).add (b5.1.toNat * 1)) = some (.int .i64 (rdA 0 ([1, 2, 80, 81] : List Int) b5.1))]) (by kernel_rfl) ?_ ?_
    · intro w hs; exact ⟨⟨ho64.ne b5.1 h74 h75, h74, h75⟩, ho64.one 0 b5.1 h74 h75 hs (k := 1) rfl⟩
    refine at_end ?_
    refine at_thn ?_
    refine at_ret ?_
    refine at_then_ret ?_
    obtain rfl := Option.some.inj H
    refine at_drop (k := 1) rfl rfl ?_
    refine at_eqM (M1 := ([(g48, .cells #[.slice A71 b5.2.b.length c72, .int .i64 b5.2.at_, .int .u64 b5.2.mix, .int .i64 b5.2.size] 83 (0, 0))] :: Fs)) (M2 := ([(g48, .cells #[.slice A71 b5.2.b.length c72, .int .i64 b5.2.at_, .int .u64 b5.2.mix, .int .i64 b5.2.size] 83 (0, 0))] :: Fs)) rfl rfl ?_
    refine at_done (vs := [.int .i64 (rdA 0 ([1, 2, 80, 81] : List Int) b5.1)]) (obs := []) (.inl rfl) [.tmp 2] [] rfl (by kernel_rfl) (fun w hs => trivial) (fun w hs => ⟨_, _, [[(g48, .cells #[.slice A71 b5.2.b.length c72, .int .i64 b5.2.at_, .int .u64 b5.2.mix, .int .i64 b5.2.size] 83 (0, 0))]], rfl, ⟨A71, c72, rfl, rfl, hr73⟩, hle, hs⟩)
  · rw [if_neg h62] at H
    refine at_cond_f rfl (ff_of h62) ?_
    refine at_skip ?_
    refine at_thn ?_
    refine at_seq ?_
    refine at_ops [0, 1, 2, 3] rfl ?_
    refine at_seg [0] [1, 2, 3] rfl [] [10] (L2 := [(10, .pointer (some ⟨g48, 0, none⟩))]) (obs := []) (by kernel_rfl) ?_ ?_
    · intro w hs; exact trivial
    refine at_eff rfl rfl ?_
    obtain ⟨b6, H76, H⟩ := bind_some H
    refine eff_call rfl rfl ok29 rfl rfl (show Meets Try.prog 29 ([.pointer (some ⟨g48, 0, none⟩), .int .i64 12] : List Value).toArray _ [[(g48, .cells #[.slice A59 b4.2.b.length c60, .int .i64 b4.2.at_, .int .u64 b4.2.mix, .int .i64 b4.2.size] 83 (0, 0))]] _ from spec_l01Src_n.calls H76 hr61) (Mr := (Fs)) (List.Perm.refl _) (fun v77 J78 M79 hq80 hJ81 => ?_)
    replace hle := hle.trans hJ81
    replace hr61 := hr61.mono hJ81
    obtain ⟨A82, c83, rfl, rfl, hr84⟩ := hq80
    refine at_seg [2, 3] [] rfl [] [2] (L2 := [(2, .int .i64 (IntKind.i64.wrap (2 + b6.1)))]) (obs := []) (by kernel_rfl) ?_ ?_
    · intro w hs; exact trivial
    refine at_end ?_
    refine at_thn ?_
    refine at_ret ?_
    obtain rfl := Option.some.inj H
    refine at_done (vs := [.int .i64 (IntKind.i64.wrap (2 + b6.1))]) (obs := []) (.inl rfl) [.tmp 2] [] rfl (by kernel_rfl) (fun w hs => trivial) (fun w hs => ⟨_, _, [[(g48, .cells #[.slice A82 b6.2.b.length c83, .int .i64 b6.2.at_, .int .u64 b6.2.mix, .int .i64 b6.2.size] 83 (0, 0))]], rfl, ⟨A82, c83, rfl, rfl, hr84⟩, hle, hs⟩)
end Go.Proofs.Ytnhnipdanpcbeaa
