import Derived.Test.YtocfakbgefdgkaaG1
namespace Go.Proofs.Ytocfakbgefdgkaa
open Go Eng
set_option linter.unusedVariables false
set_option linter.unusedSimpArgs false
/-! ### (*loop.example/g00146/spec.l01Src).points: function 62 -/
def spec_l01Src_points_l0 : Nat → Int → (List Int) → (List Int) → Int → Int → Int → Option ((List Int) × T_spec_l01Src)
  | 0, _, _, _, _, _, _ => none
  | k + 1, x43, x44, x49, x53, x54, x55 => if x43 > 0 then ((spec_l01Src_point k (⟨x49, x53, x54, x55⟩ : T_spec_l01Src)).bind fun b3 => (if x44.length + ([b3.1] : List Int).length ≤ 17592186044416 then (spec_l01Src_points_l0 k (IntKind.i64.wrap (x43 - 1)) (x44 ++ ([b3.1] : List Int)) b3.2.b b3.2.at_ b3.2.mix b3.2.size) else none)) else (some (x44, (⟨x49, x53, x54, x55⟩ : T_spec_l01Src)))
def spec_l01Src_points (k : Nat) (p36 : T_spec_l01Src) (p40 : Int) : Option ((List Int) × T_spec_l01Src) := spec_l01Src_points_l0 k p40 ([] : List Int) p36.b p36.at_ p36.mix p36.size
set_option maxHeartbeats 4000000 in
set_option maxRecDepth 100000 in
theorem spec_l01Src_points.calls {k : Nat} {p36 : T_spec_l01Src} {p40 : Int} {r : (List Int) × T_spec_l01Src} {I0 : Imm} {g35 : Nat} {A37 : Option Addr} {c38 : Nat} (H : spec_l01Src_points k p36 p40 = some r) (hr39 : Rd (Kd.int .u8) I0 A37 c38 p36.b) :
    Meets Try.prog 62 ([.pointer (some ⟨g35, 0, none⟩), .int .i64 p40] : List Value).toArray I0 [[(g35, .cells #[.slice A37 p36.b.length c38, .int .i64 p36.at_, .int .u64 p36.mix, .int .i64 p36.size] 82 (0, 0))]] (fun v J M => ∃ (A_1 : Option Addr) (c_2 : Nat) (s_3 : Seg) (A_4 : Option Addr) (c_5 : Nat), v = .slice A_1 r.1.length c_2 ∧ M = [s_3, [(g35, .cells #[.slice A_4 r.2.b.length c_5, .int .i64 r.2.at_, .int .u64 r.2.mix, .int .i64 r.2.size] 82 (0, 0))]] ∧ Own (Kd.int .i64) 2 J A_1 c_2 r.1 s_3 ∧ Rd (Kd.int .u8) J A_4 c_5 r.2.b) := by
  have hle := ImmLe.refl I0
  unfold spec_l01Src_points at H
  refine fn_intro (fn := Try.f62) 17 Try.func62 rfl rfl rfl (fun E Fs => ?_)
  refine at_seq ?_
  refine at_reg [] [0, 1] (L2 := [(0, .pointer (some ⟨g35, 0, none⟩)), (1, .int .i64 p40)]) (obs := []) (by kernel_rfl) ?_ ?_
  · intro w hs; exact trivial
  refine at_thn ?_
  refine at_seq ?_
  refine at_ops [0, 1] rfl ?_
  refine at_eff rfl rfl ?_
  refine eff_buildSlice (e := 2) (cells := #[]) ([] : List Int).length rfl rfl rfl (by kernel_rfl) (fun g41 => ?_)
  have ho42 := own_lit (K := (Kd.int .i64)) (e := 2) (I := I0) (xs := ([] : List Int)) (css := []) (cells := #[]) (b := g41) trivial rfl
  refine at_seg [1] [] rfl [] [0, 1, 5] (L2 := [(0, .pointer (some ⟨g35, 0, none⟩)), (1, .int .i64 p40), (5, .slice (some ⟨g41, 0, none⟩ : Option Addr) ([] : List Int).length (([] : List Int).length))]) (obs := []) (by kernel_rfl) ?_ ?_
  · intro w hs; exact trivial
  refine at_end ?_
  refine at_thn ?_
  refine at_seq ?_
  refine at_block ?_
  refine at_perm ((perm_at (k := 1) rfl).trans ((List.Perm.refl _).cons _)) ?_
  refine at_keep [0, 1, 5] (L2 := [(0, .pointer (some ⟨g35, 0, none⟩)), (1, .int .i64 p40), (5, .slice (some ⟨g41, 0, none⟩ : Option Addr) ([] : List Int).length (([] : List Int).length))]) rfl ?_
  refine at_loop (fun k56 L I Ms => ∃ (x43 : Int) (x44 : List Int) (A45 : Option Addr) (c46 : Nat) (s47 : Seg) (x49 : List Int) (A50 : Option Addr) (c51 : Nat) (x53 : Int) (x54 : Int) (x55 : Int), L = [(0, .pointer (some ⟨g35, 0, none⟩)), (1, .int .i64 x43), (5, .slice A45 x44.length c46)] ∧ Ms = ([(g35, .cells #[.slice A50 x49.length c51, .int .i64 x53, .int .u64 x54, .int .i64 x55] 82 (0, 0))] :: s47 :: Fs) ∧ spec_l01Src_points_l0 k56 x43 x44 x49 x53 x54 x55 = some r ∧ ImmLe I0 I ∧ k56 ≤ k ∧ Own (Kd.int .i64) 2 I A45 c46 x44 s47 ∧ Rd (Kd.int .u8) I A50 c51 x49) ?_ ?_ k ⟨p40, ([] : List Int), (some ⟨g41, 0, none⟩ : Option Addr), ([] : List Int).length, [(g41, .cells #[] 2 (0, 0))], p36.b, A37, c38, p36.at_, p36.mix, p36.size, rfl, rfl, H, hle, Nat.le_refl _, ho42, hr39⟩
  · rintro L I Ms ⟨_, _, _, _, _, _, _, _, _, _, _, rfl, rfl, H, _⟩; exact no_none H
  · clear H hle ho42 hr39
    intro k56 ih57 L I Ms h_; obtain ⟨x43, x44, A45, c46, s47, x49, A50, c51, x53, x54, x55, hL_, hM_, H, hle, hk58, ho48, hr52⟩ := h_; rw [hL_, hM_]; clear hL_ hM_ L Ms
    rw [spec_l01Src_points_l0] at H
    refine at_seq ?_
    refine at_seq ?_
    refine at_reg [] [0, 1, 5, 8] (L2 := [(0, .pointer (some ⟨g35, 0, none⟩)), (1, .int .i64 x43), (5, .slice A45 x44.length c46), (8, .bool (decide (x43 > 0)))]) (obs := []) (by kernel_rfl) ?_ ?_
    · intro w hs; exact trivial
    refine at_thn ?_
    by_cases h59 : x43 > 0
    · rw [if_pos h59] at H
      refine at_cond_t rfl (decide_eq_true h59) ?_
      refine at_skip ?_
      refine at_thn ?_
      refine at_seq ?_
      refine at_block ?_
      refine at_ops [0, 1, 2, 3, 4, 5] rfl ?_
      refine at_seg [0, 1] [2, 3, 4, 5] rfl [] [0, 1, 5, 11, 12] (L2 := [(0, .pointer (some ⟨g35, 0, none⟩)), (1, .int .i64 x43), (5, .slice A45 x44.length c46), (11, .slice A45 x44.length c46), (12, .pointer (some ⟨g35, 0, none⟩))]) (obs := []) (by kernel_rfl) ?_ ?_
      · intro w hs; exact trivial
      refine at_eff rfl rfl ?_
      obtain ⟨b3, H60, H⟩ := bind_some H
      refine eff_call rfl rfl ok82 rfl rfl (show Meets Try.prog 82 ([.pointer (some ⟨g35, 0, none⟩)] : List Value).toArray _ [[(g35, .cells #[.slice A50 x49.length c51, .int .i64 x53, .int .u64 x54, .int .i64 x55] 82 (0, 0))]] _ from spec_l01Src_point.calls H60 hr52) (Mr := (s47 :: Fs)) (List.Perm.refl _) (fun v61 J62 M63 hq64 hJ65 => ?_)
      replace hle := hle.trans hJ65
      replace ho48 := ho48.mono hJ65
      replace hr52 := hr52.mono hJ65
      obtain ⟨A66, c67, rfl, rfl, hr68⟩ := hq64
      refine at_eff rfl rfl ?_
      refine eff_buildSlice (e := 2) (cells := #[.int .i64 b3.1]) ([b3.1] : List Int).length rfl rfl rfl (by kernel_rfl) (fun g69 => ?_)
      have ho70 := own_lit (K := (Kd.int .i64)) (e := 2) (I := J62) (xs := ([b3.1] : List Int)) (css := [[.int .i64 b3.1]]) (cells := #[.int .i64 b3.1]) (b := g69) ⟨rfl, trivial⟩ rfl
      refine at_eff rfl rfl ?_
      obtain ⟨h71, H⟩ := ite_some H
      obtain ⟨i_, hi_, hz_, hs_, hb_⟩ := info2
      refine eff_append (K := (Kd.int .i64)) (xs := x44) (ys := ([b3.1] : List Int)) 2 rfl rfl rfl rfl rfl und23 und23 hi_ hz_ hs_ rfl rfl rfl ho48 rfl (fun w hs => ho70.rowAt (k := 0) hs rfl) (by rw [hb_]; omega) (by omega) (fun A72 c73 s74 ho75 => ?_)
      refine at_seg [5] [] rfl [] [0, 1, 5] (L2 := [(0, .pointer (some ⟨g35, 0, none⟩)), (1, .int .i64 x43), (5, .slice A72 (x44 ++ ([b3.1] : List Int)).length c73)]) (obs := []) (by kernel_rfl) ?_ ?_
      · intro w hs; exact trivial
      refine at_end ?_
      refine at_in_norm ?_
      refine at_thn ?_
      refine at_reg [] [0, 1, 5] (L2 := [(0, .pointer (some ⟨g35, 0, none⟩)), (1, .int .i64 (IntKind.i64.wrap (x43 - 1))), (5, .slice A72 (x44 ++ ([b3.1] : List Int)).length c73)]) (obs := []) (by kernel_rfl) ?_ ?_
      · intro w hs; exact trivial
      refine at_thn ?_
      refine at_drop (k := 0) rfl rfl ?_
      refine at_keep [0, 1, 5] (L2 := [(0, .pointer (some ⟨g35, 0, none⟩)), (1, .int .i64 (IntKind.i64.wrap (x43 - 1))), (5, .slice A72 (x44 ++ ([b3.1] : List Int)).length c73)]) rfl ?_
      exact ih57 _ (by omega) _ _ _ ⟨IntKind.i64.wrap (x43 - 1), (x44 ++ ([b3.1] : List Int)), A72, c73, s74, b3.2.b, A66, c67, b3.2.at_, b3.2.mix, b3.2.size, rfl, rfl, H, hle, by omega, ho75, hr68⟩
    · rw [if_neg h59] at H
      refine at_cond_f rfl (decide_eq_false h59) ?_
      refine at_exit ?_
      refine at_then_exit ?_
      refine at_then_exit ?_
      refine at_in_hit ?_
      refine at_thn ?_
      refine at_seq ?_
      refine at_reg [] [4] (L2 := [(4, .slice A45 x44.length c46)]) (obs := []) (by kernel_rfl) ?_ ?_
      · intro w hs; exact trivial
      refine at_thn ?_
      refine at_ret ?_
      obtain rfl := Option.some.inj H
      refine at_perm ((perm_at (k := 1) rfl).trans ((List.Perm.refl _).cons _)) ?_
      refine at_done (vs := [.slice A45 x44.length c46]) (obs := []) (.inl rfl) [.tmp 4] [] rfl (by kernel_rfl) (fun w hs => trivial) (fun w hs => ⟨_, _, [s47, [(g35, .cells #[.slice A50 x49.length c51, .int .i64 x53, .int .u64 x54, .int .i64 x55] 82 (0, 0))]], rfl, ⟨A45, c46, s47, A50, c51, rfl, rfl, ho48, hr52⟩, hle, hs⟩)

/-! ### (*loop.example/g00146/spec.l01Src).one: function 64 -/
def spec_l01Src_one (k : Nat) (p49 : T_spec_l01Src) (p53 : Int) : Option (Bool × T_spec_l01Src) := (spec_l01Src_n k p49 p53).bind fun b4 => (some ((b4.1 == 0), b4.2))
set_option maxHeartbeats 4000000 in
set_option maxRecDepth 100000 in
theorem spec_l01Src_one.calls {k : Nat} {p49 : T_spec_l01Src} {p53 : Int} {r : Bool × T_spec_l01Src} {I0 : Imm} {g48 : Nat} {A50 : Option Addr} {c51 : Nat} (H : spec_l01Src_one k p49 p53 = some r) (hr52 : Rd (Kd.int .u8) I0 A50 c51 p49.b) :
    Meets Try.prog 64 ([.pointer (some ⟨g48, 0, none⟩), .int .i64 p53] : List Value).toArray I0 [[(g48, .cells #[.slice A50 p49.b.length c51, .int .i64 p49.at_, .int .u64 p49.mix, .int .i64 p49.size] 82 (0, 0))]] (fun v J M => ∃ (A_1 : Option Addr) (c_2 : Nat), v = .bool r.1 ∧ M = [[(g48, .cells #[.slice A_1 r.2.b.length c_2, .int .i64 r.2.at_, .int .u64 r.2.mix, .int .i64 r.2.size] 82 (0, 0))]] ∧ Rd (Kd.int .u8) J A_1 c_2 r.2.b) := by
  have hle := ImmLe.refl I0
  unfold spec_l01Src_one at H
  refine fn_intro (fn := Try.f64) 9 Try.func64 rfl rfl rfl (fun E Fs => ?_)
  refine at_seq ?_
  refine at_reg [] [0, 1] (L2 := [(0, .pointer (some ⟨g48, 0, none⟩)), (1, .int .i64 p53)]) (obs := []) (by kernel_rfl) ?_ ?_
  · intro w hs; exact trivial
  refine at_thn ?_
  refine at_seq ?_
  refine at_ops [0, 1, 2, 3, 4] rfl ?_
  refine at_seg [0, 1] [2, 3, 4] rfl [] [5, 6] (L2 := [(5, .pointer (some ⟨g48, 0, none⟩)), (6, .int .i64 p53)]) (obs := []) (by kernel_rfl) ?_ ?_
  · intro w hs; exact trivial
  refine at_eff rfl rfl ?_
  obtain ⟨b4, H54, H⟩ := bind_some H
  refine eff_call rfl rfl ok63 rfl rfl (show Meets Try.prog 63 ([.pointer (some ⟨g48, 0, none⟩), .int .i64 p53] : List Value).toArray _ [[(g48, .cells #[.slice A50 p49.b.length c51, .int .i64 p49.at_, .int .u64 p49.mix, .int .i64 p49.size] 82 (0, 0))]] _ from spec_l01Src_n.calls H54 hr52) (Mr := (Fs)) (List.Perm.refl _) (fun v55 J56 M57 hq58 hJ59 => ?_)
  replace hle := hle.trans hJ59
  replace hr52 := hr52.mono hJ59
  obtain ⟨A60, c61, rfl, rfl, hr62⟩ := hq58
  refine at_seg [3, 4] [] rfl [] [4] (L2 := [(4, .bool (b4.1 == 0))]) (obs := []) (by kernel_rfl) ?_ ?_
  · intro w hs; exact trivial
  refine at_end ?_
  refine at_thn ?_
  refine at_ret ?_
  obtain rfl := Option.some.inj H
  refine at_done (vs := [.bool (b4.1 == 0)]) (obs := []) (.inl rfl) [.tmp 4] [] rfl (by kernel_rfl) (fun w hs => trivial) (fun w hs => ⟨_, _, [[(g48, .cells #[.slice A60 b4.2.b.length c61, .int .i64 b4.2.at_, .int .u64 b4.2.mix, .int .i64 b4.2.size] 82 (0, 0))]], rfl, ⟨A60, c61, rfl, rfl, hr62⟩, hle, hs⟩)

/-! ### (*loop.example/g00146/spec.l01Src).l09Prompt: function 31 -/
def spec_l01Src_l09Prompt (k : Nat) (p22 : T_spec_l01Src) : Option ((List Int) × T_spec_l01Src) := (spec_l01Src_n k p22 5).bind fun b2 => ((spec_l01Src_points k b2.2 b2.1).bind fun b3 => ((spec_l01Src_one k b3.2 30).bind fun b4 => (if b4.1 = true then (if b3.1.length + ([(-1)] : List Int).length ≤ 17592186044416 then (some ((b3.1 ++ ([(-1)] : List Int)), b4.2)) else none) else (some (b3.1, b4.2)))))
set_option maxHeartbeats 4000000 in
set_option maxRecDepth 100000 in
theorem spec_l01Src_l09Prompt.calls {k : Nat} {p22 : T_spec_l01Src} {r : (List Int) × T_spec_l01Src} {I0 : Imm} {g21 : Nat} {A23 : Option Addr} {c24 : Nat} (H : spec_l01Src_l09Prompt k p22 = some r) (hr25 : Rd (Kd.int .u8) I0 A23 c24 p22.b) :
    Meets Try.prog 31 ([.pointer (some ⟨g21, 0, none⟩)] : List Value).toArray I0 [[(g21, .cells #[.slice A23 p22.b.length c24, .int .i64 p22.at_, .int .u64 p22.mix, .int .i64 p22.size] 82 (0, 0))]] (fun v J M => ∃ (A_1 : Option Addr) (c_2 : Nat) (s_3 : Seg) (A_4 : Option Addr) (c_5 : Nat), v = .slice A_1 r.1.length c_2 ∧ M = [s_3, [(g21, .cells #[.slice A_4 r.2.b.length c_5, .int .i64 r.2.at_, .int .u64 r.2.mix, .int .i64 r.2.size] 82 (0, 0))]] ∧ Own (Kd.int .i64) 2 J A_1 c_2 r.1 s_3 ∧ Rd (Kd.int .u8) J A_4 c_5 r.2.b) := by
  have hle := ImmLe.refl I0
  unfold spec_l01Src_l09Prompt at H
  refine fn_intro (fn := Try.f31) 14 Try.func31 rfl rfl rfl (fun E Fs => ?_)
  refine at_seq ?_
  refine at_reg [] [0] (L2 := [(0, .pointer (some ⟨g21, 0, none⟩))]) (obs := []) (by kernel_rfl) ?_ ?_
  · intro w hs; exact trivial
  refine at_thn ?_
  refine at_seq ?_
  refine at_ops [0, 1, 2, 3, 4] rfl ?_
  refine at_seg [0, 1] [2, 3, 4] rfl [] [0, 4, 5] (L2 := [(0, .pointer (some ⟨g21, 0, none⟩)), (4, .pointer (some ⟨g21, 0, none⟩)), (5, .pointer (some ⟨g21, 0, none⟩))]) (obs := []) (by kernel_rfl) ?_ ?_
  · intro w hs; exact trivial
  refine at_eff rfl rfl ?_
  obtain ⟨b2, H26, H⟩ := bind_some H
  refine eff_call rfl rfl ok63 rfl rfl (show Meets Try.prog 63 ([.pointer (some ⟨g21, 0, none⟩), .int .i64 5] : List Value).toArray _ [[(g21, .cells #[.slice A23 p22.b.length c24, .int .i64 p22.at_, .int .u64 p22.mix, .int .i64 p22.size] 82 (0, 0))]] _ from spec_l01Src_n.calls H26 hr25) (Mr := (Fs)) (List.Perm.refl _) (fun v27 J28 M29 hq30 hJ31 => ?_)
  replace hle := hle.trans hJ31
  replace hr25 := hr25.mono hJ31
  obtain ⟨A32, c33, rfl, rfl, hr34⟩ := hq30
  refine at_eff rfl rfl ?_
  obtain ⟨b3, H35, H⟩ := bind_some H
  refine eff_call rfl rfl ok62 rfl rfl (show Meets Try.prog 62 ([.pointer (some ⟨g21, 0, none⟩), .int .i64 b2.1] : List Value).toArray _ [[(g21, .cells #[.slice A32 b2.2.b.length c33, .int .i64 b2.2.at_, .int .u64 b2.2.mix, .int .i64 b2.2.size] 82 (0, 0))]] _ from spec_l01Src_points.calls H35 hr34) (Mr := (Fs)) (List.Perm.refl _) (fun v36 J37 M38 hq39 hJ40 => ?_)
  replace hle := hle.trans hJ40
  replace hr34 := hr34.mono hJ40
  obtain ⟨A41, c42, s43, A45, c46, rfl, rfl, ho44, hr47⟩ := hq39
  refine at_seg [4] [] rfl [] [0, 3] (L2 := [(0, .pointer (some ⟨g21, 0, none⟩)), (3, .slice A41 b3.1.length c42)]) (obs := []) (by kernel_rfl) ?_ ?_
  · intro w hs; exact trivial
  refine at_end ?_
  refine at_thn ?_
  refine at_seq ?_
  refine at_seq ?_
  refine at_ops [0, 1] rfl ?_
  refine at_seg [0] [1] rfl [] [3, 8] (L2 := [(3, .slice A41 b3.1.length c42), (8, .pointer (some ⟨g21, 0, none⟩))]) (obs := []) (by kernel_rfl) ?_ ?_
  · intro w hs; exact trivial
  refine at_eff rfl rfl ?_
  obtain ⟨b4, H48, H⟩ := bind_some H
  refine eff_call rfl rfl ok64 rfl rfl (show Meets Try.prog 64 ([.pointer (some ⟨g21, 0, none⟩), .int .i64 30] : List Value).toArray _ [[(g21, .cells #[.slice A45 b3.2.b.length c46, .int .i64 b3.2.at_, .int .u64 b3.2.mix, .int .i64 b3.2.size] 82 (0, 0))]] _ from spec_l01Src_one.calls H48 hr47) (Mr := (s43 :: Fs)) ((perm_at (k := 1) rfl).trans ((List.Perm.refl _).cons _)) (fun v49 J50 M51 hq52 hJ53 => ?_)
  replace hle := hle.trans hJ53
  replace ho44 := ho44.mono hJ53
  replace hr47 := hr47.mono hJ53
  obtain ⟨A54, c55, rfl, rfl, hr56⟩ := hq52
  refine at_end ?_
  refine at_thn ?_
  by_cases h57 : b4.1 = true
  · rw [if_pos h57] at H
    refine at_cond_t rfl (h57) ?_
    refine at_ops [0, 1, 2, 3] rfl ?_
    refine at_seg [0] [1, 2, 3] rfl [] [3, 10] (L2 := [(3, .slice A41 b3.1.length c42), (10, .slice A41 b3.1.length c42)]) (obs := []) (by kernel_rfl) ?_ ?_
    · intro w hs; exact trivial
    refine at_eff rfl rfl ?_
    refine eff_buildSlice (e := 2) (cells := #[.int .i64 (-1)]) ([(-1)] : List Int).length rfl rfl rfl (by kernel_rfl) (fun g58 => ?_)
    have ho59 := own_lit (K := (Kd.int .i64)) (e := 2) (I := J50) (xs := ([(-1)] : List Int)) (css := [[.int .i64 (-1)]]) (cells := #[.int .i64 (-1)]) (b := g58) ⟨rfl, trivial⟩ rfl
    refine at_eff rfl rfl ?_
    obtain ⟨h60, H⟩ := ite_some H
    obtain ⟨i_, hi_, hz_, hs_, hb_⟩ := info2
    refine eff_append (K := (Kd.int .i64)) (xs := b3.1) (ys := ([(-1)] : List Int)) 2 rfl rfl rfl rfl rfl und23 und23 hi_ hz_ hs_ rfl rfl rfl ho44 rfl (fun w hs => ho59.rowAt (k := 0) hs rfl) (by rw [hb_]; omega) (by omega) (fun A61 c62 s63 ho64 => ?_)
    refine at_seg [3] [] rfl [] [3] (L2 := [(3, .slice A61 (b3.1 ++ ([(-1)] : List Int)).length c62)]) (obs := []) (by kernel_rfl) ?_ ?_
    · intro w hs; exact trivial
    refine at_end ?_
    refine at_thn ?_
    refine at_seq ?_
    refine at_reg [] [2] (L2 := [(2, .slice A61 (b3.1 ++ ([(-1)] : List Int)).length c62)]) (obs := []) (by kernel_rfl) ?_ ?_
    · intro w hs; exact trivial
    refine at_thn ?_
    refine at_ret ?_
    obtain rfl := Option.some.inj H
    refine at_drop (k := 0) rfl rfl ?_
    refine at_perm ((perm_at (k := 1) rfl).trans ((List.Perm.refl _).cons _)) ?_
    refine at_done (vs := [.slice A61 (b3.1 ++ ([(-1)] : List Int)).length c62]) (obs := []) (.inl rfl) [.tmp 2] [] rfl (by kernel_rfl) (fun w hs => trivial) (fun w hs => ⟨_, _, [s63, [(g21, .cells #[.slice A54 b4.2.b.length c55, .int .i64 b4.2.at_, .int .u64 b4.2.mix, .int .i64 b4.2.size] 82 (0, 0))]], rfl, ⟨A61, c62, s63, A54, c55, rfl, rfl, ho64, hr56⟩, hle, hs⟩)
  · rw [if_neg h57] at H
    refine at_cond_f rfl (ff_of h57) ?_
    refine at_skip ?_
    refine at_thn ?_
    refine at_seq ?_
    refine at_reg [] [2] (L2 := [(2, .slice A41 b3.1.length c42)]) (obs := []) (by kernel_rfl) ?_ ?_
    · intro w hs; exact trivial
    refine at_thn ?_
    refine at_ret ?_
    obtain rfl := Option.some.inj H
    refine at_perm ((perm_at (k := 1) rfl).trans ((List.Perm.refl _).cons _)) ?_
    refine at_done (vs := [.slice A41 b3.1.length c42]) (obs := []) (.inl rfl) [.tmp 2] [] rfl (by kernel_rfl) (fun w hs => trivial) (fun w hs => ⟨_, _, [s43, [(g21, .cells #[.slice A54 b4.2.b.length c55, .int .i64 b4.2.at_, .int .u64 b4.2.mix, .int .i64 b4.2.size] 82 (0, 0))]], rfl, ⟨A41, c42, s43, A54, c55, rfl, rfl, ho44, hr56⟩, hle, hs⟩)

/-! ### (*loop.example/g00146/spec.l01Src).l02Buf: function 32 -/
def spec_l01Src_l02Buf_j0 : Nat → (List Int) → Int → Int → Int → (List Int) → Option (T_impl_Buf × T_spec_l01Src)
  | 0, _, _, _, _, _ => none
  | k + 1, x164, x168, x169, x170, x171 => (spec_l01Src_n k (⟨x164, x168, x169, x170⟩ : T_spec_l01Src) (IntKind.i64.wrap ((x171.length : Int) + 1))).bind fun b5 => ((spec_l01Src_n k b5.2 (IntKind.i64.wrap ((x171.length : Int) + 1))).bind fun b6 => ((spec_l01Src_one k b6.2 15).bind fun b7 => (if b7.1 = true then ((spec_l01Src_n k b7.2 3).bind fun b8 => (if b8.1 = 0 then ((spec_l01Src_n k b8.2 2).bind fun b9 => (if 0 ≤ b9.1 then (if b9.1 < (([(-1), IntKind.i64.wrap ((x171.length : Int) + 1)] : List Int).length : Int) then (some ((⟨x171, rdA 0 ([(-1), IntKind.i64.wrap ((x171.length : Int) + 1)] : List Int) b9.1, b6.1⟩ : T_impl_Buf), b9.2)) else none) else none)) else (if b8.1 = 1 then ((spec_l01Src_n k b8.2 2).bind fun b10 => (if 0 ≤ b10.1 then (if b10.1 < (([(-1), IntKind.i64.wrap ((x171.length : Int) + 1)] : List Int).length : Int) then (some ((⟨x171, b5.1, rdA 0 ([(-1), IntKind.i64.wrap ((x171.length : Int) + 1)] : List Int) b10.1⟩ : T_impl_Buf), b10.2)) else none) else none)) else (if x171.length + ([55296] : List Int).length ≤ 17592186044416 then (some ((⟨(x171 ++ ([55296] : List Int)), b5.1, b6.1⟩ : T_impl_Buf), b8.2)) else none)))) else (some ((⟨x171, b5.1, b6.1⟩ : T_impl_Buf), b7.2)))))
def spec_l01Src_l02Buf (k : Nat) (p35 : T_spec_l01Src) : Option (T_impl_Buf × T_spec_l01Src) := (spec_l01Src_n k p35 (IntKind.i64.wrap (14 + (IntKind.i64.wrap (2 * p35.size))))).bind fun b3 => ((spec_l01Src_points k b3.2 b3.1).bind fun b4 => ((spec_l01Src_one k b4.2 50).bind fun b11 => (if b11.1 = true then ((spec_l01Src_n k b11.2 4).bind fun b12 => ((spec_l01Src_points k b12.2 (IntKind.i64.wrap (298 + b12.1))).bind fun b13 => (spec_l01Src_l02Buf_j0 k b13.2.b b13.2.at_ b13.2.mix b13.2.size b13.1))) else (spec_l01Src_l02Buf_j0 k b11.2.b b11.2.at_ b11.2.mix b11.2.size b4.1))))
set_option maxHeartbeats 4000000 in
set_option maxRecDepth 100000 in
theorem spec_l01Src_l02Buf.calls {k : Nat} {p35 : T_spec_l01Src} {r : T_impl_Buf × T_spec_l01Src} {I0 : Imm} {g34 : Nat} {A36 : Option Addr} {c37 : Nat} (H : spec_l01Src_l02Buf k p35 = some r) (hr38 : Rd (Kd.int .u8) I0 A36 c37 p35.b) :
    Meets Try.prog 32 ([.pointer (some ⟨g34, 0, none⟩)] : List Value).toArray I0 [[(g34, .cells #[.slice A36 p35.b.length c37, .int .i64 p35.at_, .int .u64 p35.mix, .int .i64 p35.size] 82 (0, 0))]] (fun v J M => ∃ (A_1 : Option Addr) (c_2 : Nat) (s_3 : Seg) (A_4 : Option Addr) (c_5 : Nat), v = .agg #[.slice A_1 r.1.Points.length c_2, .int .i64 r.1.Cursor, .int .i64 r.1.Mark] ∧ M = [s_3, [(g34, .cells #[.slice A_4 r.2.b.length c_5, .int .i64 r.2.at_, .int .u64 r.2.mix, .int .i64 r.2.size] 82 (0, 0))]] ∧ Own (Kd.int .i64) 2 J A_1 c_2 r.1.Points s_3 ∧ Rd (Kd.int .u8) J A_4 c_5 r.2.b) := by
  have hle := ImmLe.refl I0
  unfold spec_l01Src_l02Buf at H
  refine fn_intro (fn := Try.f32) 67 Try.func32 rfl rfl rfl (fun E Fs => ?_)
  refine at_seq ?_
  refine at_ops [0] rfl ?_
  refine at_eff rfl rfl ?_
  obtain ⟨i_, hi_, hz_, _, _⟩ := info25
  refine eff_alloc rfl rfl hi_ hz_ #[.slice none ([] : List Int).length 0, .int .i64 0, .int .i64 0] rfl (fun g39 => ?_)
  refine at_end ?_
  refine at_thn ?_
  refine at_seq ?_
  refine at_ops [0, 1, 2, 3, 4, 5, 6, 7, 8, 9, 10, 11, 12] rfl ?_
  refine at_seg [0, 1, 2, 3, 4, 5, 6, 7] [8, 9, 10, 11, 12] rfl [(5, .int .i64 p35.size)] [0, 2, 5, 6, 12] (L2 := [(0, .pointer (some ⟨g34, 0, none⟩)), (2, .pointer (some ⟨g39, 0, none⟩)), (5, .pointer (some ⟨g34, 0, none⟩)), (6, .pointer (some ⟨g34, 0, none⟩)), (12, .int .i64 (IntKind.i64.wrap (14 + (IntKind.i64.wrap (2 * p35.size)))))]) (obs := [fun w => w.cell? ⟨g34, 3, none⟩ = some (.int .i64 p35.size)]) (by kernel_rfl) ?_ ?_
  · intro w hs; exact hs.var (k := 1) rfl 3 rfl
  refine at_eff rfl rfl ?_
  obtain ⟨b3, H40, H⟩ := bind_some H
  refine eff_call rfl rfl ok63 rfl rfl (show Meets Try.prog 63 ([.pointer (some ⟨g34, 0, none⟩), .int .i64 (IntKind.i64.wrap (14 + (IntKind.i64.wrap (2 * p35.size))))] : List Value).toArray _ [[(g34, .cells #[.slice A36 p35.b.length c37, .int .i64 p35.at_, .int .u64 p35.mix, .int .i64 p35.size] 82 (0, 0))]] _ from spec_l01Src_n.calls H40 hr38) (Mr := ([(g39, .cells #[.slice none ([] : List Int).length 0, .int .i64 0, .int .i64 0] 25 (0, 0))] :: Fs)) ((perm_at (k := 1) rfl).trans ((List.Perm.refl _).cons _)) (fun v41 J42 M43 hq44 hJ45 => ?_)
  replace hle := hle.trans hJ45
  replace hr38 := hr38.mono hJ45
  obtain ⟨A46, c47, rfl, rfl, hr48⟩ := hq44
  refine at_eff rfl rfl ?_
  obtain ⟨b4, H49, H⟩ := bind_some H
  refine eff_call rfl rfl ok62 rfl rfl (show Meets Try.prog 62 ([.pointer (some ⟨g34, 0, none⟩), .int .i64 b3.1] : List Value).toArray _ [[(g34, .cells #[.slice A46 b3.2.b.length c47, .int .i64 b3.2.at_, .int .u64 b3.2.mix, .int .i64 b3.2.size] 82 (0, 0))]] _ from spec_l01Src_points.calls H49 hr48) (Mr := ([(g39, .cells #[.slice none ([] : List Int).length 0, .int .i64 0, .int .i64 0] 25 (0, 0))] :: Fs)) (List.Perm.refl _) (fun v50 J51 M52 hq53 hJ54 => ?_)
  replace hle := hle.trans hJ54
  replace hr48 := hr48.mono hJ54
  obtain ⟨A55, c56, s57, A59, c60, rfl, rfl, ho58, hr61⟩ := hq53
  refine at_seg [10] [11, 12] rfl [] [0, 2, 15] (L2 := [(0, .pointer (some ⟨g34, 0, none⟩)), (2, .pointer (some ⟨g39, 0, none⟩)), (15, .agg #[.slice A55 b4.1.length c56, .int .i64 0, .int .i64 0])]) (obs := []) (by kernel_rfl) ?_ ?_
  · intro w hs; exact trivial
  refine at_eff rfl rfl ?_
  obtain ⟨i_, hi_, hz_, _, _⟩ := info25
  refine eff_alloc rfl rfl hi_ hz_ #[.slice none ([] : List Int).length 0, .int .i64 0, .int .i64 0] rfl (fun g62 => ?_)
  refine at_eff rfl rfl ?_
  refine eff_store 0 rfl rfl rfl rfl rfl rfl (.inl (Nat.le_refl _)) rfl (Nat.le_of_ble_eq_true (by kernel_rfl)) rfl ?_
  refine at_end ?_
  refine at_thn ?_
  refine at_join (fun L I Ms => ∃ (k176 : Nat), ∃ (x164 : List Int) (A165 : Option Addr) (c166 : Nat) (x168 : Int) (x169 : Int) (x170 : Int) (x171 : List Int) (A172 : Option Addr) (c173 : Nat) (s174 : Seg), L = [(0, .pointer (some ⟨g34, 0, none⟩)), (2, .pointer (some ⟨g39, 0, none⟩)), (3, .pointer (some ⟨g62, 0, none⟩))] ∧ Ms = ([(g34, .cells #[.slice A165 x164.length c166, .int .i64 x168, .int .u64 x169, .int .i64 x170] 82 (0, 0))] :: [(g39, .cells #[.slice none ([] : List Int).length 0, .int .i64 0, .int .i64 0] 25 (0, 0))] :: [(g62, .cells #[.slice A172 x171.length c173, .int .i64 0, .int .i64 0] 25 (0, 0))] :: s174 :: Fs) ∧ spec_l01Src_l02Buf_j0 k176 x164 x168 x169 x170 x171 = some r ∧ ImmLe I0 I ∧ k176 ≤ k ∧ Own (Kd.int .i64) 2 I A172 c173 x171 s174 ∧ Rd (Kd.int .u8) I A165 c166 x164) ?_ ?_
  · clear H hle ho58 hr61
    intro L I Ms h_; obtain ⟨k176, x164, A165, c166, x168, x169, x170, x171, A172, c173, s174, hL_, hM_, H, hle, hk177, ho175, hr167⟩ := h_; rw [hL_, hM_]; clear hL_ hM_ L Ms
    rcases k176 with _ | k176
    · exact (no_none H).elim
    rw [spec_l01Src_l02Buf_j0] at H
    refine at_seq ?_
    refine at_reg [(1, .slice A172 x171.length c173)] [0, 2, 3, 4] (L2 := [(0, .pointer (some ⟨g34, 0, none⟩)), (2, .pointer (some ⟨g39, 0, none⟩)), (3, .pointer (some ⟨g62, 0, none⟩)), (4, .int .i64 (x171.length : Int))]) (obs := [fun w => w.cell? ⟨g62, 0, none⟩ = some (.slice A172 x171.length c173)]) (by kernel_rfl) ?_ ?_
    · intro w hs; exact hs.var (k := 2) rfl 0 rfl
    refine at_thn ?_
    refine at_seq ?_
    refine at_ops [0, 1, 2, 3, 4, 5] rfl ?_
    refine at_seg [0, 1, 2] [3, 4, 5] rfl [] [0, 2, 3, 4, 27, 29] (L2 := [(0, .pointer (some ⟨g34, 0, none⟩)), (2, .pointer (some ⟨g39, 0, none⟩)), (3, .pointer (some ⟨g62, 0, none⟩)), (4, .int .i64 (x171.length : Int)), (27, .pointer (some ⟨g34, 0, none⟩)), (29, .int .i64 (IntKind.i64.wrap ((x171.length : Int) + 1)))]) (obs := []) (by kernel_rfl) ?_ ?_
    · intro w hs; exact trivial
    refine at_eff rfl rfl ?_
    obtain ⟨b5, H178, H⟩ := bind_some H
    refine eff_call rfl rfl ok63 rfl rfl (show Meets Try.prog 63 ([.pointer (some ⟨g34, 0, none⟩), .int .i64 (IntKind.i64.wrap ((x171.length : Int) + 1))] : List Value).toArray _ [[(g34, .cells #[.slice A165 x164.length c166, .int .i64 x168, .int .u64 x169, .int .i64 x170] 82 (0, 0))]] _ from spec_l01Src_n.calls H178 hr167) (Mr := ([(g39, .cells #[.slice none ([] : List Int).length 0, .int .i64 0, .int .i64 0] 25 (0, 0))] :: [(g62, .cells #[.slice A172 x171.length c173, .int .i64 0, .int .i64 0] 25 (0, 0))] :: s174 :: Fs)) (List.Perm.refl _) (fun v179 J180 M181 hq182 hJ183 => ?_)
    replace hle := hle.trans hJ183
    replace ho175 := ho175.mono hJ183
    replace hr167 := hr167.mono hJ183
    obtain ⟨A184, c185, rfl, rfl, hr186⟩ := hq182
    refine at_seg [4] [5] rfl [] [0, 2, 3, 4, 30, 31] (L2 := [(0, .pointer (some ⟨g34, 0, none⟩)), (2, .pointer (some ⟨g39, 0, none⟩)), (3, .pointer (some ⟨g62, 0, none⟩)), (4, .int .i64 (x171.length : Int)), (30, .int .i64 b5.1), (31, .pointer (some ⟨g62, 1, none⟩))]) (obs := []) (by kernel_rfl) ?_ ?_
    · intro w hs; exact trivial
    refine at_eff rfl rfl ?_
    refine eff_store 2 rfl rfl rfl rfl rfl rfl (.inl (Nat.le_refl _)) rfl (Nat.le_of_ble_eq_true (by kernel_rfl)) rfl ?_
    refine at_end ?_
    refine at_thn ?_
    refine at_seq ?_
    refine at_ops [0, 1, 2, 3, 4, 5] rfl ?_
    refine at_seg [0, 1, 2] [3, 4, 5] rfl [] [0, 2, 3, 4, 32, 34] (L2 := [(0, .pointer (some ⟨g34, 0, none⟩)), (2, .pointer (some ⟨g39, 0, none⟩)), (3, .pointer (some ⟨g62, 0, none⟩)), (4, .int .i64 (x171.length : Int)), (32, .pointer (some ⟨g34, 0, none⟩)), (34, .int .i64 (IntKind.i64.wrap ((x171.length : Int) + 1)))]) (obs := []) (by kernel_rfl) ?_ ?_
    · intro w hs; exact trivial
    refine at_eff rfl rfl ?_
    obtain ⟨b6, H187, H⟩ := bind_some H
    refine eff_call rfl rfl ok63 rfl rfl (show Meets Try.prog 63 ([.pointer (some ⟨g34, 0, none⟩), .int .i64 (IntKind.i64.wrap ((x171.length : Int) + 1))] : List Value).toArray _ [[(g34, .cells #[.slice A184 b5.2.b.length c185, .int .i64 b5.2.at_, .int .u64 b5.2.mix, .int .i64 b5.2.size] 82 (0, 0))]] _ from spec_l01Src_n.calls H187 hr186) (Mr := ([(g39, .cells #[.slice none ([] : List Int).length 0, .int .i64 0, .int .i64 0] 25 (0, 0))] :: [(g62, .cells #[.slice A172 x171.length c173, .int .i64 b5.1, .int .i64 0] 25 (0, 0))] :: s174 :: Fs)) (List.Perm.refl _) (fun v188 J189 M190 hq191 hJ192 => ?_)
    replace hle := hle.trans hJ192
    replace ho175 := ho175.mono hJ192
    replace hr186 := hr186.mono hJ192
    obtain ⟨A193, c194, rfl, rfl, hr195⟩ := hq191
    refine at_seg [4] [5] rfl [] [0, 2, 3, 4, 35, 36] (L2 := [(0, .pointer (some ⟨g34, 0, none⟩)), (2, .pointer (some ⟨g39, 0, none⟩)), (3, .pointer (some ⟨g62, 0, none⟩)), (4, .int .i64 (x171.length : Int)), (35, .int .i64 b6.1), (36, .pointer (some ⟨g62, 2, none⟩))]) (obs := []) (by kernel_rfl) ?_ ?_
    · intro w hs; exact trivial
    refine at_eff rfl rfl ?_
    refine eff_store 2 rfl rfl rfl rfl rfl rfl (.inl (Nat.le_refl _)) rfl (Nat.le_of_ble_eq_true (by kernel_rfl)) rfl ?_
    refine at_end ?_
    refine at_thn ?_
    refine at_seq ?_
    refine at_seq ?_
    refine at_ops [0, 1] rfl ?_
    refine at_seg [0] [1] rfl [] [0, 2, 3, 4, 37] (L2 := [(0, .pointer (some ⟨g34, 0, none⟩)), (2, .pointer (some ⟨g39, 0, none⟩)), (3, .pointer (some ⟨g62, 0, none⟩)), (4, .int .i64 (x171.length : Int)), (37, .pointer (some ⟨g34, 0, none⟩))]) (obs := []) (by kernel_rfl) ?_ ?_
    · intro w hs; exact trivial
    refine at_eff rfl rfl ?_
    obtain ⟨b7, H196, H⟩ := bind_some H
    refine eff_call rfl rfl ok64 rfl rfl (show Meets Try.prog 64 ([.pointer (some ⟨g34, 0, none⟩), .int .i64 15] : List Value).toArray _ [[(g34, .cells #[.slice A193 b6.2.b.length c194, .int .i64 b6.2.at_, .int .u64 b6.2.mix, .int .i64 b6.2.size] 82 (0, 0))]] _ from spec_l01Src_one.calls H196 hr195) (Mr := ([(g39, .cells #[.slice none ([] : List Int).length 0, .int .i64 0, .int .i64 0] 25 (0, 0))] :: [(g62, .cells #[.slice A172 x171.length c173, .int .i64 b5.1, .int .i64 b6.1] 25 (0, 0))] :: s174 :: Fs)) (List.Perm.refl _) (fun v197 J198 M199 hq200 hJ201 => ?_)
    replace hle := hle.trans hJ201
    replace ho175 := ho175.mono hJ201
    replace hr195 := hr195.mono hJ201
    obtain ⟨A202, c203, rfl, rfl, hr204⟩ := hq200
    refine at_end ?_
    refine at_thn ?_
    by_cases h205 : b7.1 = true
    · rw [if_pos h205] at H
      refine at_cond_t rfl (h205) ?_
      refine at_seq ?_
      refine at_ops [0, 1] rfl ?_
      refine at_seg [0] [1] rfl [] [0, 2, 3, 4, 39] (L2 := [(0, .pointer (some ⟨g34, 0, none⟩)), (2, .pointer (some ⟨g39, 0, none⟩)), (3, .pointer (some ⟨g62, 0, none⟩)), (4, .int .i64 (x171.length : Int)), (39, .pointer (some ⟨g34, 0, none⟩))]) (obs := []) (by kernel_rfl) ?_ ?_
      · intro w hs; exact trivial
      refine at_eff rfl rfl ?_
      obtain ⟨b8, H206, H⟩ := bind_some H
      refine eff_call rfl rfl ok63 rfl rfl (show Meets Try.prog 63 ([.pointer (some ⟨g34, 0, none⟩), .int .i64 3] : List Value).toArray _ [[(g34, .cells #[.slice A202 b7.2.b.length c203, .int .i64 b7.2.at_, .int .u64 b7.2.mix, .int .i64 b7.2.size] 82 (0, 0))]] _ from spec_l01Src_n.calls H206 hr204) (Mr := ([(g39, .cells #[.slice none ([] : List Int).length 0, .int .i64 0, .int .i64 0] 25 (0, 0))] :: [(g62, .cells #[.slice A172 x171.length c173, .int .i64 b5.1, .int .i64 b6.1] 25 (0, 0))] :: s174 :: Fs)) (List.Perm.refl _) (fun v207 J208 M209 hq210 hJ211 => ?_)
      replace hle := hle.trans hJ211
      replace ho175 := ho175.mono hJ211
      replace hr204 := hr204.mono hJ211
      obtain ⟨A212, c213, rfl, rfl, hr214⟩ := hq210
      refine at_end ?_
      refine at_thn ?_
      refine at_block ?_
      refine at_seq ?_
      refine at_reg [] [0, 2, 3, 4, 40, 46] (L2 := [(0, .pointer (some ⟨g34, 0, none⟩)), (2, .pointer (some ⟨g39, 0, none⟩)), (3, .pointer (some ⟨g62, 0, none⟩)), (4, .int .i64 (x171.length : Int)), (40, .int .i64 b8.1), (46, .bool (b8.1 == 0))]) (obs := []) (by kernel_rfl) ?_ ?_
      · intro w hs; exact trivial
      refine at_thn ?_
      by_cases h215 : b8.1 = 0
      · rw [if_pos h215] at H
        refine at_cond_t rfl (beq_iff_eq.2 h215) ?_
        refine at_ops [0, 1, 2, 3, 4, 5, 6, 7, 8] rfl ?_
        refine at_seg [0, 1] [2, 3, 4, 5, 6, 7, 8] rfl [] [0, 2, 3, 49] (L2 := [(0, .pointer (some ⟨g34, 0, none⟩)), (2, .pointer (some ⟨g39, 0, none⟩)), (3, .pointer (some ⟨g62, 0, none⟩)), (49, .int .i64 (IntKind.i64.wrap ((x171.length : Int) + 1)))]) (obs := []) (by kernel_rfl) ?_ ?_
        · intro w hs; exact trivial
        refine at_eff rfl rfl ?_
        refine eff_buildSlice (e := 2) (cells := #[.int .i64 (-1), .int .i64 (IntKind.i64.wrap ((x171.length : Int) + 1))]) ([(-1), IntKind.i64.wrap ((x171.length : Int) + 1)] : List Int).length rfl rfl rfl (by kernel_rfl) (fun g216 => ?_)
        have ho217 := own_lit (K := (Kd.int .i64)) (e := 2) (I := J208) (xs := ([(-1), IntKind.i64.wrap ((x171.length : Int) + 1)] : List Int)) (css := [[.int .i64 (-1)], [.int .i64 (IntKind.i64.wrap ((x171.length : Int) + 1))]]) (cells := #[.int .i64 (-1), .int .i64 (IntKind.i64.wrap ((x171.length : Int) + 1))]) (b := g216) ⟨rfl, ⟨rfl, trivial⟩⟩ rfl
        refine at_seg [3] [4, 5, 6, 7, 8] rfl [] [2, 3, 50, 51] (L2 := [(2, .pointer (some ⟨g39, 0, none⟩)), (3, .pointer (some ⟨g62, 0, none⟩)), (50, .slice (some ⟨g216, 0, none⟩ : Option Addr) ([(-1), IntKind.i64.wrap ((x171.length : Int) + 1)] : List Int).length (([(-1), IntKind.i64.wrap ((x171.length : Int) + 1)] : List Int).length)), (51, .pointer (some ⟨g34, 0, none⟩))]) (obs := []) (by kernel_rfl) ?_ ?_
        · intro w hs; exact trivial
        refine at_eff rfl rfl ?_
        obtain ⟨b9, H218, H⟩ := bind_some H
        refine eff_call rfl rfl ok63 rfl rfl (show Meets Try.prog 63 ([.pointer (some ⟨g34, 0, none⟩), .int .i64 2] : List Value).toArray _ [[(g34, .cells #[.slice A212 b8.2.b.length c213, .int .i64 b8.2.at_, .int .u64 b8.2.mix, .int .i64 b8.2.size] 82 (0, 0))]] _ from spec_l01Src_n.calls H218 hr214) (Mr := ([(g216, .cells #[.int .i64 (-1), .int .i64 (IntKind.i64.wrap ((x171.length : Int) + 1))] 2 (0, 0))] :: [(g39, .cells #[.slice none ([] : List Int).length 0, .int .i64 0, .int .i64 0] 25 (0, 0))] :: [(g62, .cells #[.slice A172 x171.length c173, .int .i64 b5.1, .int .i64 b6.1] 25 (0, 0))] :: s174 :: Fs)) ((perm_at (k := 1) rfl).trans ((List.Perm.refl _).cons _)) (fun v219 J220 M221 hq222 hJ223 => ?_)
        replace hle := hle.trans hJ223
        replace ho175 := ho175.mono hJ223
        replace ho217 := ho217.mono hJ223
        replace hr214 := hr214.mono hJ223
        obtain ⟨A224, c225, rfl, rfl, hr226⟩ := hq222
        obtain ⟨h227, H⟩ := ite_some H
        obtain ⟨h228, H⟩ := ite_some H
        refine at_seg [5, 6, 7] [8] rfl [(6, .int .i64 (rdA 0 ([(-1), IntKind.i64.wrap ((x171.length : Int) + 1)] : List Int) b9.1))] [2, 3, 54, 55] (L2 := [(2, .pointer (some ⟨g39, 0, none⟩)), (3, .pointer (some ⟨g62, 0, none⟩)), (54, .int .i64 (rdA 0 ([(-1), IntKind.i64.wrap ((x171.length : Int) + 1)] : List Int) b9.1)), (55, .pointer (some ⟨g62, 1, none⟩))]) (obs := [fun _ => (some ⟨g216, 0, none⟩ : Option Addr).isSome = true ∧ 0 ≤ b9.1 ∧ b9.1 < ((([(-1), IntKind.i64.wrap ((x171.length : Int) + 1)] : List Int).length : Nat) : Int), fun w => w.cell? (((some ⟨g216, 0, none⟩ : Option Addr).getD ad0).add (b9.1.toNat * 1)) = some (.int .i64 (rdA 0 ([(-1), IntKind.i64.wrap ((x171.length : Int) + 1)] : List Int) b9.1))]) (by kernel_rfl) ?_ ?_
        · intro w hs; exact ⟨⟨ho217.ne b9.1 h227 h228, h227, h228⟩, ho217.one 0 b9.1 h227 h228 hs (k := 1) rfl⟩
        refine at_eff rfl rfl ?_
        refine eff_store 3 rfl rfl rfl rfl rfl rfl (.inl (Nat.le_refl _)) rfl (Nat.le_of_ble_eq_true (by kernel_rfl)) rfl ?_
        refine at_end ?_
        refine at_in_norm ?_
        refine at_thn ?_
        refine at_seq ?_
        refine at_ops [0, 1] rfl ?_
        refine at_seg [0] [1] rfl [(0, .agg #[.slice A172 x171.length c173, .int .i64 (rdA 0 ([(-1), IntKind.i64.wrap ((x171.length : Int) + 1)] : List Int) b9.1), .int .i64 b6.1])] [2, 66] (L2 := [(2, .pointer (some ⟨g39, 0, none⟩)), (66, .agg #[.slice A172 x171.length c173, .int .i64 (rdA 0 ([(-1), IntKind.i64.wrap ((x171.length : Int) + 1)] : List Int) b9.1), .int .i64 b6.1])]) (obs := [fun w => CellsAt w ⟨g62, 0, none⟩ [.slice A172 x171.length c173, .int .i64 (rdA 0 ([(-1), IntKind.i64.wrap ((x171.length : Int) + 1)] : List Int) b9.1), .int .i64 b6.1] 0]) (by kernel_rfl) ?_ ?_
        · intro w hs; exact cellsV (k := 3) hs rfl _ 0 (Nat.le_of_ble_eq_true (by kernel_rfl)) rfl
        refine at_eff rfl rfl ?_
        refine eff_store 2 rfl rfl rfl rfl rfl rfl (.inl (Nat.le_refl _)) rfl (Nat.le_of_ble_eq_true (by kernel_rfl)) rfl ?_
        refine at_end ?_
        refine at_thn ?_
        refine at_ret ?_
        obtain rfl := Option.some.inj H
        refine at_drop (k := 1) rfl rfl ?_
        refine at_drop (k := 2) rfl rfl ?_
        refine at_perm ((perm_at (k := 2) rfl).trans ((List.Perm.refl _).cons _)) ?_
        refine at_done (vs := [.agg #[.slice A172 x171.length c173, .int .i64 (rdA 0 ([(-1), IntKind.i64.wrap ((x171.length : Int) + 1)] : List Int) b9.1), .int .i64 b6.1]]) (obs := [fun w => CellsAt w ⟨g39, 0, none⟩ [.slice A172 x171.length c173, .int .i64 (rdA 0 ([(-1), IntKind.i64.wrap ((x171.length : Int) + 1)] : List Int) b9.1), .int .i64 b6.1] 0]) (.inl rfl) [.cell 2 25] [(2, .agg #[.slice A172 x171.length c173, .int .i64 (rdA 0 ([(-1), IntKind.i64.wrap ((x171.length : Int) + 1)] : List Int) b9.1), .int .i64 b6.1])] rfl (by kernel_rfl) (fun w hs => cellsV (k := 2) hs rfl _ 0 (Nat.le_of_ble_eq_true (by kernel_rfl)) rfl) (fun w hs => ⟨_, _, [s174, [(g34, .cells #[.slice A224 b9.2.b.length c225, .int .i64 b9.2.at_, .int .u64 b9.2.mix, .int .i64 b9.2.size] 82 (0, 0))]], rfl, ⟨A172, c173, s174, A224, c225, rfl, rfl, ho175, hr226⟩, hle, (hs.tail (perm_at (k := 2) rfl))⟩)
      · rw [if_neg h215] at H
        refine at_cond_f rfl (beq_eq_false_iff_ne.2 h215) ?_
        refine at_seq ?_
        refine at_reg [] [0, 2, 3, 4, 56] (L2 := [(0, .pointer (some ⟨g34, 0, none⟩)), (2, .pointer (some ⟨g39, 0, none⟩)), (3, .pointer (some ⟨g62, 0, none⟩)), (4, .int .i64 (x171.length : Int)), (56, .bool (b8.1 == 1))]) (obs := []) (by kernel_rfl) ?_ ?_
        · intro w hs; exact trivial
        refine at_thn ?_
        by_cases h229 : b8.1 = 1
        · rw [if_pos h229] at H
          refine at_cond_t rfl (beq_iff_eq.2 h229) ?_
          refine at_ops [0, 1, 2, 3, 4, 5, 6, 7, 8] rfl ?_
          refine at_seg [0, 1] [2, 3, 4, 5, 6, 7, 8] rfl [] [0, 2, 3, 59] (L2 := [(0, .pointer (some ⟨g34, 0, none⟩)), (2, .pointer (some ⟨g39, 0, none⟩)), (3, .pointer (some ⟨g62, 0, none⟩)), (59, .int .i64 (IntKind.i64.wrap ((x171.length : Int) + 1)))]) (obs := []) (by kernel_rfl) ?_ ?_
          · intro w hs; exact trivial
          refine at_eff rfl rfl ?_
          refine eff_buildSlice (e := 2) (cells := #[.int .i64 (-1), .int .i64 (IntKind.i64.wrap ((x171.length : Int) + 1))]) ([(-1), IntKind.i64.wrap ((x171.length : Int) + 1)] : List Int).length rfl rfl rfl (by kernel_rfl) (fun g230 => ?_)
          have ho231 := own_lit (K := (Kd.int .i64)) (e := 2) (I := J208) (xs := ([(-1), IntKind.i64.wrap ((x171.length : Int) + 1)] : List Int)) (css := [[.int .i64 (-1)], [.int .i64 (IntKind.i64.wrap ((x171.length : Int) + 1))]]) (cells := #[.int .i64 (-1), .int .i64 (IntKind.i64.wrap ((x171.length : Int) + 1))]) (b := g230) ⟨rfl, ⟨rfl, trivial⟩⟩ rfl
          refine at_seg [3] [4, 5, 6, 7, 8] rfl [] [2, 3, 60, 61] (L2 := [(2, .pointer (some ⟨g39, 0, none⟩)), (3, .pointer (some ⟨g62, 0, none⟩)), (60, .slice (some ⟨g230, 0, none⟩ : Option Addr) ([(-1), IntKind.i64.wrap ((x171.length : Int) + 1)] : List Int).length (([(-1), IntKind.i64.wrap ((x171.length : Int) + 1)] : List Int).length)), (61, .pointer (some ⟨g34, 0, none⟩))]) (obs := []) (by kernel_rfl) ?_ ?_
          · intro w hs; exact trivial
          refine at_eff rfl rfl ?_
          obtain ⟨b10, H232, H⟩ := bind_some H
          refine eff_call rfl rfl ok63 rfl rfl (show Meets Try.prog 63 ([.pointer (some ⟨g34, 0, none⟩), .int .i64 2] : List Value).toArray _ [[(g34, .cells #[.slice A212 b8.2.b.length c213, .int .i64 b8.2.at_, .int .u64 b8.2.mix, .int .i64 b8.2.size] 82 (0, 0))]] _ from spec_l01Src_n.calls H232 hr214) (Mr := ([(g230, .cells #[.int .i64 (-1), .int .i64 (IntKind.i64.wrap ((x171.length : Int) + 1))] 2 (0, 0))] :: [(g39, .cells #[.slice none ([] : List Int).length 0, .int .i64 0, .int .i64 0] 25 (0, 0))] :: [(g62, .cells #[.slice A172 x171.length c173, .int .i64 b5.1, .int .i64 b6.1] 25 (0, 0))] :: s174 :: Fs)) ((perm_at (k := 1) rfl).trans ((List.Perm.refl _).cons _)) (fun v233 J234 M235 hq236 hJ237 => ?_)
          replace hle := hle.trans hJ237
          replace ho175 := ho175.mono hJ237
          replace ho231 := ho231.mono hJ237
          replace hr214 := hr214.mono hJ237
          obtain ⟨A238, c239, rfl, rfl, hr240⟩ := hq236
          obtain ⟨h241, H⟩ := ite_some H
          obtain ⟨h242, H⟩ := ite_some H
          refine at_seg [5, 6, 7] [8] rfl [(6, .int .i64 (rdA 0 ([(-1), IntKind.i64.wrap ((x171.length : Int) + 1)] : List Int) b10.1))] [2, 3, 64, 65] (L2 := [(2, .pointer (some ⟨g39, 0, none⟩)), (3, .pointer (some ⟨g62, 0, none⟩)), (64, .int .i64 (rdA 0 ([(-1), IntKind.i64.wrap ((x171.length : Int) + 1)] : List Int) b10.1)), (65, .pointer (some ⟨g62, 2, none⟩))]) (obs := [fun _ => (some ⟨g230, 0, none⟩ : Option Addr).isSome = true ∧ 0 ≤ b10.1 ∧ b10.1 < ((([(-1), IntKind.i64.wrap ((x171.length : Int) + 1)] : List Int).length : Nat) : Int), fun w => w.cell? (((some ⟨g230, 0, none⟩ : Option Addr).getD ad0).add (b10.1.toNat * 1)) = some (.int .i64 (rdA 0 ([(-1), IntKind.i64.wrap ((x171.length : Int) + 1)] : List Int) b10.1))]) (by kernel_rfl) ?_ ?_
          · intro w hs; exact ⟨⟨ho231.ne b10.1 h241 h242, h241, h242⟩, ho231.one 0 b10.1 h241 h242 hs (k := 1) rfl⟩
          refine at_eff rfl rfl ?_
          refine eff_store 3 rfl rfl rfl rfl rfl rfl (.inl (Nat.le_refl _)) rfl (Nat.le_of_ble_eq_true (by kernel_rfl)) rfl ?_
          refine at_end ?_
          refine at_in_norm ?_
          refine at_thn ?_
          refine at_seq ?_
          refine at_ops [0, 1] rfl ?_
          refine at_seg [0] [1] rfl [(0, .agg #[.slice A172 x171.length c173, .int .i64 b5.1, .int .i64 (rdA 0 ([(-1), IntKind.i64.wrap ((x171.length : Int) + 1)] : List Int) b10.1)])] [2, 66] (L2 := [(2, .pointer (some ⟨g39, 0, none⟩)), (66, .agg #[.slice A172 x171.length c173, .int .i64 b5.1, .int .i64 (rdA 0 ([(-1), IntKind.i64.wrap ((x171.length : Int) + 1)] : List Int) b10.1)])]) (obs := [fun w => CellsAt w ⟨g62, 0, none⟩ [.slice A172 x171.length c173, .int .i64 b5.1, .int .i64 (rdA 0 ([(-1), IntKind.i64.wrap ((x171.length : Int) + 1)] : List Int) b10.1)] 0]) (by kernel_rfl) ?_ ?_
          · intro w hs; exact cellsV (k := 3) hs rfl _ 0 (Nat.le_of_ble_eq_true (by kernel_rfl)) rfl
          refine at_eff rfl rfl ?_
          refine eff_store 2 rfl rfl rfl rfl rfl rfl (.inl (Nat.le_refl _)) rfl (Nat.le_of_ble_eq_true (by kernel_rfl)) rfl ?_
          refine at_end ?_
          refine at_thn ?_
          refine at_ret ?_
          obtain rfl := Option.some.inj H
          refine at_drop (k := 1) rfl rfl ?_
          refine at_drop (k := 2) rfl rfl ?_
          refine at_perm ((perm_at (k := 2) rfl).trans ((List.Perm.refl _).cons _)) ?_
          refine at_done (vs := [.agg #[.slice A172 x171.length c173, .int .i64 b5.1, .int .i64 (rdA 0 ([(-1), IntKind.i64.wrap ((x171.length : Int) + 1)] : List Int) b10.1)]]) (obs := [fun w => CellsAt w ⟨g39, 0, none⟩ [.slice A172 x171.length c173, .int .i64 b5.1, .int .i64 (rdA 0 ([(-1), IntKind.i64.wrap ((x171.length : Int) + 1)] : List Int) b10.1)] 0]) (.inl rfl) [.cell 2 25] [(2, .agg #[.slice A172 x171.length c173, .int .i64 b5.1, .int .i64 (rdA 0 ([(-1), IntKind.i64.wrap ((x171.length : Int) + 1)] : List Int) b10.1)])] rfl (by kernel_rfl) (fun w hs => cellsV (k := 2) hs rfl _ 0 (Nat.le_of_ble_eq_true (by kernel_rfl)) rfl) (fun w hs => ⟨_, _, [s174, [(g34, .cells #[.slice A238 b10.2.b.length c239, .int .i64 b10.2.at_, .int .u64 b10.2.mix, .int .i64 b10.2.size] 82 (0, 0))]], rfl, ⟨A172, c173, s174, A238, c239, rfl, rfl, ho175, hr240⟩, hle, (hs.tail (perm_at (k := 2) rfl))⟩)
        · rw [if_neg h229] at H
          refine at_cond_f rfl (beq_eq_false_iff_ne.2 h229) ?_
          refine at_ops [0, 1, 2, 3, 4, 5] rfl ?_
          refine at_seg [0, 1] [2, 3, 4, 5] rfl [(1, .slice A172 x171.length c173)] [2, 3, 42] (L2 := [(2, .pointer (some ⟨g39, 0, none⟩)), (3, .pointer (some ⟨g62, 0, none⟩)), (42, .slice A172 x171.length c173)]) (obs := [fun w => w.cell? ⟨g62, 0, none⟩ = some (.slice A172 x171.length c173)]) (by kernel_rfl) ?_ ?_
          · intro w hs; exact hs.var (k := 2) rfl 0 rfl
          refine at_eff rfl rfl ?_
          refine eff_buildSlice (e := 2) (cells := #[.int .i64 55296]) ([55296] : List Int).length rfl rfl rfl (by kernel_rfl) (fun g243 => ?_)
          have ho244 := own_lit (K := (Kd.int .i64)) (e := 2) (I := J208) (xs := ([55296] : List Int)) (css := [[.int .i64 55296]]) (cells := #[.int .i64 55296]) (b := g243) ⟨rfl, trivial⟩ rfl
          refine at_eff rfl rfl ?_
          obtain ⟨h245, H⟩ := ite_some H
          obtain ⟨i_, hi_, hz_, hs_, hb_⟩ := info2
          refine eff_append (K := (Kd.int .i64)) (xs := x171) (ys := ([55296] : List Int)) 4 rfl rfl rfl rfl rfl und23 und23 hi_ hz_ hs_ rfl rfl rfl ho175 rfl (fun w hs => ho244.rowAt (k := 0) hs rfl) (by rw [hb_]; omega) (by omega) (fun A246 c247 s248 ho249 => ?_)
          refine at_seg [4] [5] rfl [] [2, 3, 44, 45] (L2 := [(2, .pointer (some ⟨g39, 0, none⟩)), (3, .pointer (some ⟨g62, 0, none⟩)), (44, .slice A246 (x171 ++ ([55296] : List Int)).length c247), (45, .pointer (some ⟨g62, 0, none⟩))]) (obs := []) (by kernel_rfl) ?_ ?_
          · intro w hs; exact trivial
          refine at_eff rfl rfl ?_
          refine eff_store 3 rfl rfl rfl rfl rfl rfl (.inl (Nat.le_refl _)) rfl (Nat.le_of_ble_eq_true (by kernel_rfl)) rfl ?_
          refine at_end ?_
          refine at_in_norm ?_
          refine at_thn ?_
          refine at_seq ?_
          refine at_ops [0, 1] rfl ?_
          refine at_seg [0] [1] rfl [(0, .agg #[.slice A246 (x171 ++ ([55296] : List Int)).length c247, .int .i64 b5.1, .int .i64 b6.1])] [2, 66] (L2 := [(2, .pointer (some ⟨g39, 0, none⟩)), (66, .agg #[.slice A246 (x171 ++ ([55296] : List Int)).length c247, .int .i64 b5.1, .int .i64 b6.1])]) (obs := [fun w => CellsAt w ⟨g62, 0, none⟩ [.slice A246 (x171 ++ ([55296] : List Int)).length c247, .int .i64 b5.1, .int .i64 b6.1] 0]) (by kernel_rfl) ?_ ?_
          · intro w hs; exact cellsV (k := 3) hs rfl _ 0 (Nat.le_of_ble_eq_true (by kernel_rfl)) rfl
          refine at_eff rfl rfl ?_
          refine eff_store 2 rfl rfl rfl rfl rfl rfl (.inl (Nat.le_refl _)) rfl (Nat.le_of_ble_eq_true (by kernel_rfl)) rfl ?_
          refine at_end ?_
          refine at_thn ?_
          refine at_ret ?_
          obtain rfl := Option.some.inj H
          refine at_drop (k := 0) rfl rfl ?_
          refine at_drop (k := 2) rfl rfl ?_
          refine at_perm ((perm_at (k := 2) rfl).trans ((List.Perm.refl _).cons _)) ?_
          refine at_done (vs := [.agg #[.slice A246 (x171 ++ ([55296] : List Int)).length c247, .int .i64 b5.1, .int .i64 b6.1]]) (obs := [fun w => CellsAt w ⟨g39, 0, none⟩ [.slice A246 (x171 ++ ([55296] : List Int)).length c247, .int .i64 b5.1, .int .i64 b6.1] 0]) (.inl rfl) [.cell 2 25] [(2, .agg #[.slice A246 (x171 ++ ([55296] : List Int)).length c247, .int .i64 b5.1, .int .i64 b6.1])] rfl (by kernel_rfl) (fun w hs => cellsV (k := 2) hs rfl _ 0 (Nat.le_of_ble_eq_true (by kernel_rfl)) rfl) (fun w hs => ⟨_, _, [s248, [(g34, .cells #[.slice A212 b8.2.b.length c213, .int .i64 b8.2.at_, .int .u64 b8.2.mix, .int .i64 b8.2.size] 82 (0, 0))]], rfl, ⟨A246, c247, s248, A212, c213, rfl, rfl, ho249, hr214⟩, hle, (hs.tail (perm_at (k := 2) rfl))⟩)
    · rw [if_neg h205] at H
      refine at_cond_f rfl (ff_of h205) ?_
      refine at_skip ?_
      refine at_thn ?_
      refine at_seq ?_
      refine at_ops [0, 1] rfl ?_
      refine at_seg [0] [1] rfl [(0, .agg #[.slice A172 x171.length c173, .int .i64 b5.1, .int .i64 b6.1])] [2, 66] (L2 := [(2, .pointer (some ⟨g39, 0, none⟩)), (66, .agg #[.slice A172 x171.length c173, .int .i64 b5.1, .int .i64 b6.1])]) (obs := [fun w => CellsAt w ⟨g62, 0, none⟩ [.slice A172 x171.length c173, .int .i64 b5.1, .int .i64 b6.1] 0]) (by kernel_rfl) ?_ ?_
      · intro w hs; exact cellsV (k := 2) hs rfl _ 0 (Nat.le_of_ble_eq_true (by kernel_rfl)) rfl
      refine at_eff rfl rfl ?_
      refine eff_store 1 rfl rfl rfl rfl rfl rfl (.inl (Nat.le_refl _)) rfl (Nat.le_of_ble_eq_true (by kernel_rfl)) rfl ?_
      refine at_end ?_
      refine at_thn ?_
      refine at_ret ?_
      obtain rfl := Option.some.inj H
      refine at_drop (k := 2) rfl rfl ?_
      refine at_perm ((perm_at (k := 2) rfl).trans ((List.Perm.refl _).cons _)) ?_
      refine at_done (vs := [.agg #[.slice A172 x171.length c173, .int .i64 b5.1, .int .i64 b6.1]]) (obs := [fun w => CellsAt w ⟨g39, 0, none⟩ [.slice A172 x171.length c173, .int .i64 b5.1, .int .i64 b6.1] 0]) (.inl rfl) [.cell 2 25] [(2, .agg #[.slice A172 x171.length c173, .int .i64 b5.1, .int .i64 b6.1])] rfl (by kernel_rfl) (fun w hs => cellsV (k := 2) hs rfl _ 0 (Nat.le_of_ble_eq_true (by kernel_rfl)) rfl) (fun w hs => ⟨_, _, [s174, [(g34, .cells #[.slice A202 b7.2.b.length c203, .int .i64 b7.2.at_, .int .u64 b7.2.mix, .int .i64 b7.2.size] 82 (0, 0))]], rfl, ⟨A172, c173, s174, A202, c203, rfl, rfl, ho175, hr204⟩, hle, (hs.tail (perm_at (k := 2) rfl))⟩)
  · intro Jn63
    refine at_seq ?_
    refine at_ops [0, 1] rfl ?_
    refine at_seg [0] [1] rfl [] [0, 2, 3, 16] (L2 := [(0, .pointer (some ⟨g34, 0, none⟩)), (2, .pointer (some ⟨g39, 0, none⟩)), (3, .pointer (some ⟨g62, 0, none⟩)), (16, .pointer (some ⟨g34, 0, none⟩))]) (obs := []) (by kernel_rfl) ?_ ?_
    · intro w hs; exact trivial
    refine at_eff rfl rfl ?_
    obtain ⟨b11, H250, H⟩ := bind_some H
    refine eff_call rfl rfl ok64 rfl rfl (show Meets Try.prog 64 ([.pointer (some ⟨g34, 0, none⟩), .int .i64 50] : List Value).toArray _ [[(g34, .cells #[.slice A59 b4.2.b.length c60, .int .i64 b4.2.at_, .int .u64 b4.2.mix, .int .i64 b4.2.size] 82 (0, 0))]] _ from spec_l01Src_one.calls H250 hr61) (Mr := ([(g62, .cells #[.slice A55 b4.1.length c56, .int .i64 0, .int .i64 0] 25 (0, 0))] :: s57 :: [(g39, .cells #[.slice none ([] : List Int).length 0, .int .i64 0, .int .i64 0] 25 (0, 0))] :: Fs)) ((perm_at (k := 2) rfl).trans ((List.Perm.refl _).cons _)) (fun v251 J252 M253 hq254 hJ255 => ?_)
    replace hle := hle.trans hJ255
    replace ho58 := ho58.mono hJ255
    replace hr61 := hr61.mono hJ255
    obtain ⟨A256, c257, rfl, rfl, hr258⟩ := hq254
    refine at_end ?_
    refine at_thn ?_
    by_cases h259 : b11.1 = true
    · rw [if_pos h259] at H
      refine at_cond_t rfl (h259) ?_
      refine at_ops [0, 1, 2, 3, 4, 5, 6] rfl ?_
      refine at_seg [0, 1] [2, 3, 4, 5, 6] rfl [] [0, 2, 3, 18, 19] (L2 := [(0, .pointer (some ⟨g34, 0, none⟩)), (2, .pointer (some ⟨g39, 0, none⟩)), (3, .pointer (some ⟨g62, 0, none⟩)), (18, .pointer (some ⟨g34, 0, none⟩)), (19, .pointer (some ⟨g34, 0, none⟩))]) (obs := []) (by kernel_rfl) ?_ ?_
      · intro w hs; exact trivial
      refine at_eff rfl rfl ?_
      obtain ⟨b12, H260, H⟩ := bind_some H
      refine eff_call rfl rfl ok63 rfl rfl (show Meets Try.prog 63 ([.pointer (some ⟨g34, 0, none⟩), .int .i64 4] : List Value).toArray _ [[(g34, .cells #[.slice A256 b11.2.b.length c257, .int .i64 b11.2.at_, .int .u64 b11.2.mix, .int .i64 b11.2.size] 82 (0, 0))]] _ from spec_l01Src_n.calls H260 hr258) (Mr := ([(g62, .cells #[.slice A55 b4.1.length c56, .int .i64 0, .int .i64 0] 25 (0, 0))] :: s57 :: [(g39, .cells #[.slice none ([] : List Int).length 0, .int .i64 0, .int .i64 0] 25 (0, 0))] :: Fs)) (List.Perm.refl _) (fun v261 J262 M263 hq264 hJ265 => ?_)
      replace hle := hle.trans hJ265
      replace ho58 := ho58.mono hJ265
      replace hr258 := hr258.mono hJ265
      obtain ⟨A266, c267, rfl, rfl, hr268⟩ := hq264
      refine at_seg [3] [4, 5, 6] rfl [] [0, 2, 3, 18, 21] (L2 := [(0, .pointer (some ⟨g34, 0, none⟩)), (2, .pointer (some ⟨g39, 0, none⟩)), (3, .pointer (some ⟨g62, 0, none⟩)), (18, .pointer (some ⟨g34, 0, none⟩)), (21, .int .i64 (IntKind.i64.wrap (298 + b12.1)))]) (obs := []) (by kernel_rfl) ?_ ?_
      · intro w hs; exact trivial
      refine at_eff rfl rfl ?_
      obtain ⟨b13, H269, H⟩ := bind_some H
      refine eff_call rfl rfl ok62 rfl rfl (show Meets Try.prog 62 ([.pointer (some ⟨g34, 0, none⟩), .int .i64 (IntKind.i64.wrap (298 + b12.1))] : List Value).toArray _ [[(g34, .cells #[.slice A266 b12.2.b.length c267, .int .i64 b12.2.at_, .int .u64 b12.2.mix, .int .i64 b12.2.size] 82 (0, 0))]] _ from spec_l01Src_points.calls H269 hr268) (Mr := ([(g62, .cells #[.slice A55 b4.1.length c56, .int .i64 0, .int .i64 0] 25 (0, 0))] :: s57 :: [(g39, .cells #[.slice none ([] : List Int).length 0, .int .i64 0, .int .i64 0] 25 (0, 0))] :: Fs)) (List.Perm.refl _) (fun v270 J271 M272 hq273 hJ274 => ?_)
      replace hle := hle.trans hJ274
      replace ho58 := ho58.mono hJ274
      replace hr268 := hr268.mono hJ274
      obtain ⟨A275, c276, s277, A279, c280, rfl, rfl, ho278, hr281⟩ := hq273
      refine at_seg [5] [6] rfl [] [0, 2, 3, 22, 23] (L2 := [(0, .pointer (some ⟨g34, 0, none⟩)), (2, .pointer (some ⟨g39, 0, none⟩)), (3, .pointer (some ⟨g62, 0, none⟩)), (22, .slice A275 b13.1.length c276), (23, .pointer (some ⟨g62, 0, none⟩))]) (obs := []) (by kernel_rfl) ?_ ?_
      · intro w hs; exact trivial
      refine at_eff rfl rfl ?_
      refine eff_store 2 rfl rfl rfl rfl rfl rfl (.inl (Nat.le_refl _)) rfl (Nat.le_of_ble_eq_true (by kernel_rfl)) rfl ?_
      refine at_end ?_
      refine at_thn ?_
      refine at_drop (k := 3) rfl rfl ?_
      refine at_perm ((perm_at (k := 1) rfl).trans (((perm_at (k := 2) rfl).trans (((perm_at (k := 1) rfl).trans ((List.Perm.refl _).cons _)).cons _)).cons _)) ?_
      refine at_keep [0, 2, 3] (L2 := [(0, .pointer (some ⟨g34, 0, none⟩)), (2, .pointer (some ⟨g39, 0, none⟩)), (3, .pointer (some ⟨g62, 0, none⟩))]) rfl ?_
      exact Jn63 _ _ _ ⟨_, b13.2.b, A279, c280, b13.2.at_, b13.2.mix, b13.2.size, b13.1, A275, c276, s277, rfl, rfl, H, hle, by omega, ho278, hr281⟩
    · rw [if_neg h259] at H
      refine at_cond_f rfl (ff_of h259) ?_
      refine at_skip ?_
      refine at_thn ?_
      refine at_perm (((perm_at (k := 2) rfl).trans ((List.Perm.refl _).cons _)).cons _) ?_
      refine at_keep [0, 2, 3] (L2 := [(0, .pointer (some ⟨g34, 0, none⟩)), (2, .pointer (some ⟨g39, 0, none⟩)), (3, .pointer (some ⟨g62, 0, none⟩))]) rfl ?_
      exact Jn63 _ _ _ ⟨_, b11.2.b, A256, c257, b11.2.at_, b11.2.mix, b11.2.size, b4.1, A55, c56, s57, rfl, rfl, H, hle, by omega, ho58, hr258⟩
end Go.Proofs.Ytocfakbgefdgkaa
