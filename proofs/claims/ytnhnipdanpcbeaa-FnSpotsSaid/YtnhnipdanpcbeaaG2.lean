import Derived.Test.YtnhnipdanpcbeaaG1
namespace Go.Proofs.Ytnhnipdanpcbeaa
open Go Eng
set_option linter.unusedVariables false
set_option linter.unusedSimpArgs false
/-! ### (*loop.example/g00146/spec.l01Src).points: function 44 -/
def spec_l01Src_points_l0 : Nat → Int → (List Int) → (List Int) → Int → Int → Int → Option ((List Int) × T_spec_l01Src)
  | 0, _, _, _, _, _, _ => none
  | k + 1, x43, x44, x49, x53, x54, x55 => if x43 > 0 then ((spec_l01Src_point k (⟨x49, x53, x54, x55⟩ : T_spec_l01Src)).bind fun b3 => (if x44.length + ([b3.1] : List Int).length ≤ 17592186044416 then (spec_l01Src_points_l0 k (IntKind.i64.wrap (x43 - 1)) (x44 ++ ([b3.1] : List Int)) b3.2.b b3.2.at_ b3.2.mix b3.2.size) else none)) else (some (x44, (⟨x49, x53, x54, x55⟩ : T_spec_l01Src)))
def spec_l01Src_points (k : Nat) (p36 : T_spec_l01Src) (p40 : Int) : Option ((List Int) × T_spec_l01Src) := spec_l01Src_points_l0 k p40 ([] : List Int) p36.b p36.at_ p36.mix p36.size
set_option maxHeartbeats 4000000 in
set_option maxRecDepth 100000 in
theorem spec_l01Src_points.calls {k : Nat} {p36 : T_spec_l01Src} {p40 : Int} {r : (List Int) × T_spec_l01Src} {I0 : Imm} {g35 : Nat} {A37 : Option Addr} {c38 : Nat} (H : spec_l01Src_points k p36 p40 = some r) (hr39 : Rd (Kd.int .u8) I0 A37 c38 p36.b) :
    Meets Try.prog 44 ([.pointer (some ⟨g35, 0, none⟩), .int .i64 p40] : List Value).toArray I0 [[(g35, .cells #[.slice A37 p36.b.length c38, .int .i64 p36.at_, .int .u64 p36.mix, .int .i64 p36.size] 83 (0, 0))]] (fun v J M => ∃ (A_1 : Option Addr) (c_2 : Nat) (s_3 : Seg) (A_4 : Option Addr) (c_5 : Nat), v = .slice A_1 r.1.length c_2 ∧ M = [s_3, [(g35, .cells #[.slice A_4 r.2.b.length c_5, .int .i64 r.2.at_, .int .u64 r.2.mix, .int .i64 r.2.size] 83 (0, 0))]] ∧ Own (Kd.int .i64) 2 J A_1 c_2 r.1 s_3 ∧ Rd (Kd.int .u8) J A_4 c_5 r.2.b) := by
  have hle := ImmLe.refl I0
  unfold spec_l01Src_points at H
  refine fn_intro (fn := Try.f44) 17 Try.func44 rfl rfl rfl (fun E Fs => ?_)
  refine at_seq ?_
  refine at_reg [] [0, 1] (L2 := [(0, .pointer (some ⟨g35, 0, none⟩)), (1, .int .i64 p40)]) (obs := []) (by kernel_rfl) ?_ ?_
  · intro w hs; exact trivial
  refine at_thn ?_
  refine at_seq ?_
  refine at_ops [0, 1] rfl ?_
  refine at_eff rfl rfl ?_
  refine eff_buildSlice (e := 2) (cells := #[]) ([] : List Int).length rfl rfl rfl (by kernel_rfl) (fun g41 => ?_)
  have ho42 := own_lit (K := (Kd.int .i64)) (e := 2) (I := I0) (xs := ([] : List Int)) (css := []) (cells := #[]) (b := g41) trivial rfl
  refine at_seg [1] [] rfl [] [0, 1, 5] (L2 := [(0, .pointer (some ⟨g35, 0, none⟩)), (1, .int .i64 p40), (5, .slice (some ⟨g41, 0, none⟩ : Option Addr) ([] : List Int).length (([] : List Int).length))]) (obs := []) (by kernel_rfl) ?_ ?_
  · intro w hs; exact trivial
  refine at_end ?_
  refine at_thn ?_
  refine at_seq ?_
  refine at_block ?_
  refine at_perm ((perm_at (k := 1) rfl).trans ((List.Perm.refl _).cons _)) ?_
  refine at_keep [0, 1, 5] (L2 := [(0, .pointer (some ⟨g35, 0, none⟩)), (1, .int .i64 p40), (5, .slice (some ⟨g41, 0, none⟩ : Option Addr) ([] : List Int).length (([] : List Int).length))]) rfl ?_
  refine at_loop (fun k56 L I Ms => ∃ (x43 : Int) (x44 : List Int) (A45 : Option Addr) (c46 : Nat) (s47 : Seg) (x49 : List Int) (A50 : Option Addr) (c51 : Nat) (x53 : Int) (x54 : Int) (x55 : Int), L = [(0, .pointer (some ⟨g35, 0, none⟩)), (1, .int .i64 x43), (5, .slice A45 x44.length c46)] ∧ Ms = ([(g35, .cells #[.slice A50 x49.length c51, .int .i64 x53, .int .u64 x54, .int .i64 x55] 83 (0, 0))] :: s47 :: Fs) ∧ spec_l01Src_points_l0 k56 x43 x44 x49 x53 x54 x55 = some r ∧ ImmLe I0 I ∧ k56 ≤ k ∧ Own (Kd.int .i64) 2 I A45 c46 x44 s47 ∧ Rd (Kd.int .u8) I A50 c51 x49) ?_ ?_ k ⟨p40, ([] : List Int), (some ⟨g41, 0, none⟩ : Option Addr), ([] : List Int).length, [(g41, .cells #[] 2 (0, 0))], p36.b, A37, c38, p36.at_, p36.mix, p36.size, rfl, rfl, H, hle, Nat.le_refl _, ho42, hr39⟩
  · rintro L I Ms ⟨_, _, _, _, _, _, _, _, _, _, _, rfl, rfl, H, _⟩; exact no_none H
  · clear H hle ho42 hr39
    intro k56 ih57 L I Ms h_; obtain ⟨x43, x44, A45, c46, s47, x49, A50, c51, x53, x54, x55, hL_, hM_, H, hle, hk58, ho48, hr52⟩ := h_; rw [hL_, hM_]; clear hL_ hM_ L Ms
    rw [spec_l01Src_points_l0] at H
    refine at_seq ?_
    refine at_seq ?_
    refine at_reg [] [0, 1, 5, 8] (L2 := [(0, .pointer (some ⟨g35, 0, none⟩)), (1, .int .i64 x43), (5, .slice A45 x44.length c46), (8, .bool (decide (x43 > 0)))]) (obs := []) (by kernel_rfl) ?_ ?_
    · intro w hs; exact trivial
    refine at_thn ?_
    by_cases h59 : x43 > 0
    · rw [if_pos h59] at H
      refine at_cond_t rfl (decide_eq_true h59) ?_
      refine at_skip ?_
      refine at_thn ?_
      refine at_seq ?_
      refine at_block ?_
      refine at_ops [0, 1, 2, 3, 4, 5] rfl ?_
      refine at_seg [0, 1] [2, 3, 4, 5] rfl [] [0, 1, 5, 11, 12] (L2 := [(0, .pointer (some ⟨g35, 0, none⟩)), (1, .int .i64 x43), (5, .slice A45 x44.length c46), (11, .slice A45 x44.length c46), (12, .pointer (some ⟨g35, 0, none⟩))]) (obs := []) (by kernel_rfl) ?_ ?_
      · intro w hs; exact trivial
      refine at_eff rfl rfl ?_
      obtain ⟨b3, H60, H⟩ := bind_some H
      refine eff_call rfl rfl ok61 rfl rfl (show Meets Try.prog 61 ([.pointer (some ⟨g35, 0, none⟩)] : List Value).toArray _ [[(g35, .cells #[.slice A50 x49.length c51, .int .i64 x53, .int .u64 x54, .int .i64 x55] 83 (0, 0))]] _ from spec_l01Src_point.calls H60 hr52) (Mr := (s47 :: Fs)) (List.Perm.refl _) (fun v61 J62 M63 hq64 hJ65 => ?_)
      replace hle := hle.trans hJ65
      replace ho48 := ho48.mono hJ65
      replace hr52 := hr52.mono hJ65
      obtain ⟨A66, c67, rfl, rfl, hr68⟩ := hq64
      refine at_eff rfl rfl ?_
      refine eff_buildSlice (e := 2) (cells := #[.int .i64 b3.1]) ([b3.1] : List Int).length rfl rfl rfl (by kernel_rfl) (fun g69 => ?_)
      have ho70 := own_lit (K := (Kd.int .i64)) (e := 2) (I := J62) (xs := ([b3.1] : List Int)) (css := [[.int .i64 b3.1]]) (cells := #[.int .i64 b3.1]) (b := g69) ⟨rfl, trivial⟩ rfl
      refine at_eff rfl rfl ?_
      obtain ⟨h71, H⟩ := ite_some H
      obtain ⟨i_, hi_, hz_, hs_, hb_⟩ := info2
      refine eff_append (K := (Kd.int .i64)) (xs := x44) (ys := ([b3.1] : List Int)) 2 rfl rfl rfl rfl rfl und23 und23 hi_ hz_ hs_ rfl rfl rfl ho48 rfl (fun w hs => ho70.rowAt (k := 0) hs rfl) (by rw [hb_]; omega) (by omega) (fun A72 c73 s74 ho75 => ?_)
      refine at_seg [5] [] rfl [] [0, 1, 5] (L2 := [(0, .pointer (some ⟨g35, 0, none⟩)), (1, .int .i64 x43), (5, .slice A72 (x44 ++ ([b3.1] : List Int)).length c73)]) (obs := []) (by kernel_rfl) ?_ ?_
      · intro w hs; exact trivial
      refine at_end ?_
      refine at_in_norm ?_
      refine at_thn ?_
      refine at_reg [] [0, 1, 5] (L2 := [(0, .pointer (some ⟨g35, 0, none⟩)), (1, .int .i64 (IntKind.i64.wrap (x43 - 1))), (5, .slice A72 (x44 ++ ([b3.1] : List Int)).length c73)]) (obs := []) (by kernel_rfl) ?_ ?_
      · intro w hs; exact trivial
      refine at_thn ?_
      refine at_drop (k := 0) rfl rfl ?_
      refine at_eqM (M1 := ([(g35, .cells #[.slice A66 b3.2.b.length c67, .int .i64 b3.2.at_, .int .u64 b3.2.mix, .int .i64 b3.2.size] 83 (0, 0))] :: s74 :: Fs)) (M2 := ([(g35, .cells #[.slice A66 b3.2.b.length c67, .int .i64 b3.2.at_, .int .u64 b3.2.mix, .int .i64 b3.2.size] 83 (0, 0))] :: s74 :: Fs)) rfl rfl ?_
      refine at_keep [0, 1, 5] (L2 := [(0, .pointer (some ⟨g35, 0, none⟩)), (1, .int .i64 (IntKind.i64.wrap (x43 - 1))), (5, .slice A72 (x44 ++ ([b3.1] : List Int)).length c73)]) rfl ?_
      exact ih57 _ (by omega) _ _ _ ⟨IntKind.i64.wrap (x43 - 1), (x44 ++ ([b3.1] : List Int)), A72, c73, s74, b3.2.b, A66, c67, b3.2.at_, b3.2.mix, b3.2.size, rfl, rfl, H, hle, by omega, ho75, hr68⟩
    · rw [if_neg h59] at H
      refine at_cond_f rfl (decide_eq_false h59) ?_
      refine at_exit ?_
      refine at_then_exit ?_
      refine at_then_exit ?_
      refine at_in_hit ?_
      refine at_thn ?_
      refine at_seq ?_
      refine at_reg [] [4] (L2 := [(4, .slice A45 x44.length c46)]) (obs := []) (by kernel_rfl) ?_ ?_
      · intro w hs; exact trivial
      refine at_thn ?_
      refine at_ret ?_
      obtain rfl := Option.some.inj H
      refine at_perm ((perm_at (k := 1) rfl).trans ((List.Perm.refl _).cons _)) ?_
      refine at_done (vs := [.slice A45 x44.length c46]) (obs := []) (.inl rfl) [.tmp 4] [] rfl (by kernel_rfl) (fun w hs => trivial) (fun w hs => ⟨_, _, [s47, [(g35, .cells #[.slice A50 x49.length c51, .int .i64 x53, .int .u64 x54, .int .i64 x55] 83 (0, 0))]], rfl, ⟨A45, c46, s47, A50, c51, rfl, rfl, ho48, hr52⟩, hle, hs⟩)

/-! ### (*loop.example/g00146/spec.l01Src).one: function 30 -/
def spec_l01Src_one (k : Nat) (p49 : T_spec_l01Src) (p53 : Int) : Option (Bool × T_spec_l01Src) := (spec_l01Src_n k p49 p53).bind fun b4 => (some ((b4.1 == 0), b4.2))
set_option maxHeartbeats 4000000 in
set_option maxRecDepth 100000 in
theorem spec_l01Src_one.calls {k : Nat} {p49 : T_spec_l01Src} {p53 : Int} {r : Bool × T_spec_l01Src} {I0 : Imm} {g48 : Nat} {A50 : Option Addr} {c51 : Nat} (H : spec_l01Src_one k p49 p53 = some r) (hr52 : Rd (Kd.int .u8) I0 A50 c51 p49.b) :
    Meets Try.prog 30 ([.pointer (some ⟨g48, 0, none⟩), .int .i64 p53] : List Value).toArray I0 [[(g48, .cells #[.slice A50 p49.b.length c51, .int .i64 p49.at_, .int .u64 p49.mix, .int .i64 p49.size] 83 (0, 0))]] (fun v J M => ∃ (A_1 : Option Addr) (c_2 : Nat), v = .bool r.1 ∧ M = [[(g48, .cells #[.slice A_1 r.2.b.length c_2, .int .i64 r.2.at_, .int .u64 r.2.mix, .int .i64 r.2.size] 83 (0, 0))]] ∧ Rd (Kd.int .u8) J A_1 c_2 r.2.b) := by
  have hle := ImmLe.refl I0
  unfold spec_l01Src_one at H
  refine fn_intro (fn := Try.f30) 9 Try.func30 rfl rfl rfl (fun E Fs => ?_)
  refine at_seq ?_
  refine at_reg [] [0, 1] (L2 := [(0, .pointer (some ⟨g48, 0, none⟩)), (1, .int .i64 p53)]) (obs := []) (by kernel_rfl) ?_ ?_
  · intro w hs; exact trivial
  refine at_thn ?_
  refine at_seq ?_
  refine at_ops [0, 1, 2, 3, 4] rfl ?_
  refine at_seg [0, 1] [2, 3, 4] rfl [] [5, 6] (L2 := [(5, .pointer (some ⟨g48, 0, none⟩)), (6, .int .i64 p53)]) (obs := []) (by kernel_rfl) ?_ ?_
  · intro w hs; exact trivial
  refine at_eff rfl rfl ?_
  obtain ⟨b4, H54, H⟩ := bind_some H
  refine eff_call rfl rfl ok29 rfl rfl (show Meets Try.prog 29 ([.pointer (some ⟨g48, 0, none⟩), .int .i64 p53] : List Value).toArray _ [[(g48, .cells #[.slice A50 p49.b.length c51, .int .i64 p49.at_, .int .u64 p49.mix, .int .i64 p49.size] 83 (0, 0))]] _ from spec_l01Src_n.calls H54 hr52) (Mr := (Fs)) (List.Perm.refl _) (fun v55 J56 M57 hq58 hJ59 => ?_)
  replace hle := hle.trans hJ59
  replace hr52 := hr52.mono hJ59
  obtain ⟨A60, c61, rfl, rfl, hr62⟩ := hq58
  refine at_seg [3, 4] [] rfl [] [4] (L2 := [(4, .bool (b4.1 == 0))]) (obs := []) (by kernel_rfl) ?_ ?_
  · intro w hs; exact trivial
  refine at_end ?_
  refine at_thn ?_
  refine at_ret ?_
  obtain rfl := Option.some.inj H
  refine at_done (vs := [.bool (b4.1 == 0)]) (obs := []) (.inl rfl) [.tmp 4] [] rfl (by kernel_rfl) (fun w hs => trivial) (fun w hs => ⟨_, _, [[(g48, .cells #[.slice A60 b4.2.b.length c61, .int .i64 b4.2.at_, .int .u64 b4.2.mix, .int .i64 b4.2.size] 83 (0, 0))]], rfl, ⟨A60, c61, rfl, rfl, hr62⟩, hle, hs⟩)

/-! ### (*loop.example/g00146/spec.l01Src).l09Prompt: function 18 -/
def spec_l01Src_l09Prompt (k : Nat) (p22 : T_spec_l01Src) : Option ((List Int) × T_spec_l01Src) := (spec_l01Src_n k p22 5).bind fun b2 => ((spec_l01Src_points k b2.2 b2.1).bind fun b3 => ((spec_l01Src_one k b3.2 30).bind fun b4 => (if b4.1 = true then (if b3.1.length + ([(-1)] : List Int).length ≤ 17592186044416 then (some ((b3.1 ++ ([(-1)] : List Int)), b4.2)) else none) else (some (b3.1, b4.2)))))
set_option maxHeartbeats 4000000 in
set_option maxRecDepth 100000 in
theorem spec_l01Src_l09Prompt.calls {k : Nat} {p22 : T_spec_l01Src} {r : (List Int) × T_spec_l01Src} {I0 : Imm} {g21 : Nat} {A23 : Option Addr} {c24 : Nat} (H : spec_l01Src_l09Prompt k p22 = some r) (hr25 : Rd (Kd.int .u8) I0 A23 c24 p22.b) :
    Meets Try.prog 18 ([.pointer (some ⟨g21, 0, none⟩)] : List Value).toArray I0 [[(g21, .cells #[.slice A23 p22.b.length c24, .int .i64 p22.at_, .int .u64 p22.mix, .int .i64 p22.size] 83 (0, 0))]] (fun v J M => ∃ (A_1 : Option Addr) (c_2 : Nat) (s_3 : Seg) (A_4 : Option Addr) (c_5 : Nat), v = .slice A_1 r.1.length c_2 ∧ M = [s_3, [(g21, .cells #[.slice A_4 r.2.b.length c_5, .int .i64 r.2.at_, .int .u64 r.2.mix, .int .i64 r.2.size] 83 (0, 0))]] ∧ Own (Kd.int .i64) 2 J A_1 c_2 r.1 s_3 ∧ Rd (Kd.int .u8) J A_4 c_5 r.2.b) := by
  have hle := ImmLe.refl I0
  unfold spec_l01Src_l09Prompt at H
  refine fn_intro (fn := Try.f18) 14 Try.func18 rfl rfl rfl (fun E Fs => ?_)
  refine at_seq ?_
  refine at_reg [] [0] (L2 := [(0, .pointer (some ⟨g21, 0, none⟩))]) (obs := []) (by kernel_rfl) ?_ ?_
  · intro w hs; exact trivial
  refine at_thn ?_
  refine at_seq ?_
  refine at_ops [0, 1, 2, 3, 4] rfl ?_
  refine at_seg [0, 1] [2, 3, 4] rfl [] [0, 4, 5] (L2 := [(0, .pointer (some ⟨g21, 0, none⟩)), (4, .pointer (some ⟨g21, 0, none⟩)), (5, .pointer (some ⟨g21, 0, none⟩))]) (obs := []) (by kernel_rfl) ?_ ?_
  · intro w hs; exact trivial
  refine at_eff rfl rfl ?_
  obtain ⟨b2, H26, H⟩ := bind_some H
  refine eff_call rfl rfl ok29 rfl rfl (show Meets Try.prog 29 ([.pointer (some ⟨g21, 0, none⟩), .int .i64 5] : List Value).toArray _ [[(g21, .cells #[.slice A23 p22.b.length c24, .int .i64 p22.at_, .int .u64 p22.mix, .int .i64 p22.size] 83 (0, 0))]] _ from spec_l01Src_n.calls H26 hr25) (Mr := (Fs)) (List.Perm.refl _) (fun v27 J28 M29 hq30 hJ31 => ?_)
  replace hle := hle.trans hJ31
  replace hr25 := hr25.mono hJ31
  obtain ⟨A32, c33, rfl, rfl, hr34⟩ := hq30
  refine at_eff rfl rfl ?_
  obtain ⟨b3, H35, H⟩ := bind_some H
  refine eff_call rfl rfl ok44 rfl rfl (show Meets Try.prog 44 ([.pointer (some ⟨g21, 0, none⟩), .int .i64 b2.1] : List Value).toArray _ [[(g21, .cells #[.slice A32 b2.2.b.length c33, .int .i64 b2.2.at_, .int .u64 b2.2.mix, .int .i64 b2.2.size] 83 (0, 0))]] _ from spec_l01Src_points.calls H35 hr34) (Mr := (Fs)) (List.Perm.refl _) (fun v36 J37 M38 hq39 hJ40 => ?_)
  replace hle := hle.trans hJ40
  replace hr34 := hr34.mono hJ40
  obtain ⟨A41, c42, s43, A45, c46, rfl, rfl, ho44, hr47⟩ := hq39
  refine at_seg [4] [] rfl [] [0, 3] (L2 := [(0, .pointer (some ⟨g21, 0, none⟩)), (3, .slice A41 b3.1.length c42)]) (obs := []) (by kernel_rfl) ?_ ?_
  · intro w hs; exact trivial
  refine at_end ?_
  refine at_thn ?_
  refine at_seq ?_
  refine at_seq ?_
  refine at_ops [0, 1] rfl ?_
  refine at_seg [0] [1] rfl [] [3, 8] (L2 := [(3, .slice A41 b3.1.length c42), (8, .pointer (some ⟨g21, 0, none⟩))]) (obs := []) (by kernel_rfl) ?_ ?_
  · intro w hs; exact trivial
  refine at_eff rfl rfl ?_
  obtain ⟨b4, H48, H⟩ := bind_some H
  refine eff_call rfl rfl ok30 rfl rfl (show Meets Try.prog 30 ([.pointer (some ⟨g21, 0, none⟩), .int .i64 30] : List Value).toArray _ [[(g21, .cells #[.slice A45 b3.2.b.length c46, .int .i64 b3.2.at_, .int .u64 b3.2.mix, .int .i64 b3.2.size] 83 (0, 0))]] _ from spec_l01Src_one.calls H48 hr47) (Mr := (s43 :: Fs)) ((perm_at (k := 1) rfl).trans ((List.Perm.refl _).cons _)) (fun v49 J50 M51 hq52 hJ53 => ?_)
  replace hle := hle.trans hJ53
  replace ho44 := ho44.mono hJ53
  replace hr47 := hr47.mono hJ53
  obtain ⟨A54, c55, rfl, rfl, hr56⟩ := hq52
  refine at_end ?_
  refine at_thn ?_
  by_cases h57 : b4.1 = true
  · rw [if_pos h57] at H
    refine at_cond_t rfl (h57) ?_
    refine at_ops [0, 1, 2, 3] rfl ?_
    refine at_seg [0] [1, 2, 3] rfl [] [3, 10] (L2 := [(3, .slice A41 b3.1.length c42), (10, .slice A41 b3.1.length c42)]) (obs := []) (by kernel_rfl) ?_ ?_
    · intro w hs; exact trivial
    refine at_eff rfl rfl ?_
    refine eff_buildSlice (e := 2) (cells := #[.int .i64 (-1)]) ([(-1)] : List Int).length rfl rfl rfl (by kernel_rfl) (fun g58 => ?_)
    have ho59 := own_lit (K := (Kd.int .i64)) (e := 2) (I := J50) (xs := ([(-1)] : List Int)) (css := [[.int .i64 (-1)]]) (cells := #[.int .i64 (-1)]) (b := g58) ⟨rfl, trivial⟩ rfl
    refine at_eff rfl rfl ?_
    obtain ⟨h60, H⟩ := ite_some H
    obtain ⟨i_, hi_, hz_, hs_, hb_⟩ := info2
    refine eff_append (K := (Kd.int .i64)) (xs := b3.1) (ys := ([(-1)] : List Int)) 2 rfl rfl rfl rfl rfl und23 und23 hi_ hz_ hs_ rfl rfl rfl ho44 rfl (fun w hs => ho59.rowAt (k := 0) hs rfl) (by rw [hb_]; omega) (by omega) (fun A61 c62 s63 ho64 => ?_)
    refine at_seg [3] [] rfl [] [3] (L2 := [(3, .slice A61 (b3.1 ++ ([(-1)] : List Int)).length c62)]) (obs := []) (by kernel_rfl) ?_ ?_
    · intro w hs; exact trivial
    refine at_end ?_
    refine at_thn ?_
    refine at_seq ?_
    refine at_reg [] [2] (L2 := [(2, .slice A61 (b3.1 ++ ([(-1)] : List Int)).length c62)]) (obs := []) (by kernel_rfl) ?_ ?_
    · intro w hs; exact trivial
    refine at_thn ?_
    refine at_ret ?_
    obtain rfl := Option.some.inj H
    refine at_drop (k := 0) rfl rfl ?_
    refine at_eqM (M1 := ([(g21, .cells #[.slice A54 b4.2.b.length c55, .int .i64 b4.2.at_, .int .u64 b4.2.mix, .int .i64 b4.2.size] 83 (0, 0))] :: s63 :: Fs)) (M2 := ([(g21, .cells #[.slice A54 b4.2.b.length c55, .int .i64 b4.2.at_, .int .u64 b4.2.mix, .int .i64 b4.2.size] 83 (0, 0))] :: s63 :: Fs)) rfl rfl ?_
    refine at_perm ((perm_at (k := 1) rfl).trans ((List.Perm.refl _).cons _)) ?_
    refine at_done (vs := [.slice A61 (b3.1 ++ ([(-1)] : List Int)).length c62]) (obs := []) (.inl rfl) [.tmp 2] [] rfl (by kernel_rfl) (fun w hs => trivial) (fun w hs => ⟨_, _, [s63, [(g21, .cells #[.slice A54 b4.2.b.length c55, .int .i64 b4.2.at_, .int .u64 b4.2.mix, .int .i64 b4.2.size] 83 (0, 0))]], rfl, ⟨A61, c62, s63, A54, c55, rfl, rfl, ho64, hr56⟩, hle, hs⟩)
  · rw [if_neg h57] at H
    refine at_cond_f rfl (ff_of h57) ?_
    refine at_skip ?_
    refine at_thn ?_
    refine at_seq ?_
    refine at_reg [] [2] (L2 := [(2, .slice A41 b3.1.length c42)]) (obs := []) (by kernel_rfl) ?_ ?_
    · intro w hs; exact trivial
    refine at_thn ?_
    refine at_ret ?_
    obtain rfl := Option.some.inj H
    refine at_perm ((perm_at (k := 1) rfl).trans ((List.Perm.refl _).cons _)) ?_
    refine at_done (vs := [.slice A41 b3.1.length c42]) (obs := []) (.inl rfl) [.tmp 2] [] rfl (by kernel_rfl) (fun w hs => trivial) (fun w hs => ⟨_, _, [s43, [(g21, .cells #[.slice A54 b4.2.b.length c55, .int .i64 b4.2.at_, .int .u64 b4.2.mix, .int .i64 b4.2.size] 83 (0, 0))]], rfl, ⟨A41, c42, s43, A54, c55, rfl, rfl, ho44, hr56⟩, hle, hs⟩)
end Go.Proofs.Ytnhnipdanpcbeaa
