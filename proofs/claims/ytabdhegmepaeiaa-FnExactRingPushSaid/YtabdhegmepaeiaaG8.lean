import Derived.Test.YtabdhegmepaeiaaG7
namespace Go.Proofs.Ytabdhegmepaeiaa
open Go Eng
set_option linter.unusedVariables false
set_option linter.unusedSimpArgs false
/-! ### loop.example/g00146/laws.FnExactRingPush: function 3 -/
def laws_FnExactRingPush (k : Nat) (p1 : T_laws_Ring) (p5 : List Int) : Option Bool := if (p5.length : Int) > 1048576 then (some true) else ((laws_szRing k p1 1048576).bind fun b1 => (if b1 < 0 then (some true) else ((laws_toRing k p1).bind fun b2 => ((laws_toInt64S k p5).bind fun b3 => ((spec_RingPush k b2 b3).bind fun b4 => ((laws_toRing k p1).bind fun b5 => ((laws_toInt64S k p5).bind fun b6 => ((impl_RingPush k b5 b6).bind fun b7 => ((laws_eqRing k b7 b4).bind fun b8 => (if b8 = true then ((laws_toRing k p1).bind fun b9 => ((laws_eqRing k b5 b9).bind fun b10 => (if b10 = true then ((laws_toInt64S k p5).bind fun b11 => ((laws_eqInt64S k b6 b11).bind fun b12 => (if b12 = true then ((laws_markRing k b5 1).bind fun b13 => ((laws_markInt64S k b6 b13.1).bind fun b14 => (if b14.1 < 0 then (some false) else ((laws_eqRing k b7 b4).bind fun b15 => (if b15 = true then ((laws_markRing k b7 1).bind fun b16 => ((laws_heldRing k (⟨b16.2, b7.At⟩ : T_impl_Ring) 1).bind fun b17 => (if b17 < 0 then (some false) else (if b17 = b16.1 then ((laws_toRing k p1).bind fun b18 => ((laws_toInt64S k p5).bind fun b19 => ((impl_RingPush k b18 b19).bind fun b20 => ((laws_eqRing k b20 b4).bind fun b21 => (if b21 = true then ((laws_heldRing k (⟨b16.2, b7.At⟩ : T_impl_Ring) 1).bind fun b22 => (if b22 < 0 then (some false) else (if b22 = b16.1 then (some true) else (some false)))) else (some false)))))) else (some false))))) else (some false)))))) else (some false)))) else (some false)))) else (some false)))))))))))
set_option maxHeartbeats 4000000 in
set_option maxRecDepth 100000 in
theorem laws_FnExactRingPush.calls {k : Nat} {p1 : T_laws_Ring} {p5 : List Int} {r : Bool} {I0 : Imm} {A2 : Option Addr} {c3 : Nat} {A6 : Option Addr} {c7 : Nat} (H : laws_FnExactRingPush k p1 p5 = some r) (hr4 : Rd (Kd.slice (Kd.int .i64)) I0 A2 c3 p1.Items) (hr8 : Rd (Kd.int .i64) I0 A6 c7 p5) :
    Meets Try.prog 3 ([.agg #[.slice A2 p1.Items.length c3, .int .i64 p1.At], .slice A6 p5.length c7] : List Value).toArray I0 [] (fun v J M => v = .bool r ∧ M = []) := by
  have hle := ImmLe.refl I0
  unfold laws_FnExactRingPush at H
  refine fn_intro (fn := Try.f3) 90 Try.func3 rfl rfl rfl (fun E Fs => ?_)
  refine at_seq ?_
  refine at_ops [0, 1] rfl ?_
  refine at_eff rfl rfl ?_
  refine eff_box rfl rfl rfl #[.slice A2 p1.Items.length c3, .int .i64 p1.At] rfl (fun g9 => ?_)
  refine at_seg [1] [] rfl [] [1, 2] (L2 := [(1, .slice A6 p5.length c7), (2, .pointer (some ⟨g9, 0, none⟩))]) (obs := []) (by kernel_rfl) ?_ ?_
  · intro w hs; exact trivial
  refine at_end ?_
  refine at_thn ?_
  refine at_seq ?_
  refine at_seq ?_
  refine at_reg [] [1, 2, 16] (L2 := [(1, .slice A6 p5.length c7), (2, .pointer (some ⟨g9, 0, none⟩)), (16, .bool (decide ((p5.length : Int) > 1048576)))]) (obs := []) (by kernel_rfl) ?_ ?_
  · intro w hs; exact trivial
  refine at_thn ?_
  by_cases h10 : (p5.length : Int) > 1048576
  · rw [if_pos h10] at H
    refine at_cond_t rfl (decide_eq_true h10) ?_
    refine at_seq ?_
    refine at_reg [] [4] (L2 := [(4, .bool true)]) (obs := []) (by kernel_rfl) ?_ ?_
    · intro w hs; exact trivial
    refine at_thn ?_
    refine at_ret ?_
    refine at_then_ret ?_
    obtain rfl := Option.some.inj H
    refine at_drop (k := 0) rfl rfl ?_
    refine at_done (vs := [.bool true]) (obs := []) (.inl rfl) [.tmp 4] [] rfl (by kernel_rfl) (fun w hs => trivial) (fun w hs => ⟨_, _, [], rfl, ⟨rfl, rfl⟩, hle, hs⟩)
  · rw [if_neg h10] at H
    refine at_cond_f rfl (decide_eq_false h10) ?_
    refine at_skip ?_
    refine at_thn ?_
    refine at_seq ?_
    refine at_reg [] [1, 2, 5] (L2 := [(1, .slice A6 p5.length c7), (2, .pointer (some ⟨g9, 0, none⟩)), (5, .int .i64 1048576)]) (obs := []) (by kernel_rfl) ?_ ?_
    · intro w hs; exact trivial
    refine at_thn ?_
    refine at_seq ?_
    refine at_ops [0, 1, 2, 3] rfl ?_
    refine at_seg [0, 1] [2, 3] rfl [(0, .agg #[.slice A2 p1.Items.length c3, .int .i64 p1.At])] [1, 2, 5, 17, 18] (L2 := [(1, .slice A6 p5.length c7), (2, .pointer (some ⟨g9, 0, none⟩)), (5, .int .i64 1048576), (17, .agg #[.slice A2 p1.Items.length c3, .int .i64 p1.At]), (18, .int .i64 1048576)]) (obs := [fun w => CellsAt w ⟨g9, 0, none⟩ [.slice A2 p1.Items.length c3, .int .i64 p1.At] 0]) (by kernel_rfl) ?_ ?_
    · intro w hs; exact cellsV (k := 0) hs rfl _ 0 (Nat.le_of_ble_eq_true (by kernel_rfl)) rfl
    refine at_eff rfl rfl ?_
    obtain ⟨b1, H11, H⟩ := bind_some H
    have hm_ := laws_szRing.calls (I0 := I0) H11 hr4
    refine eff_call rfl rfl ok6 rfl rfl (show Meets Try.prog 6 ([.agg #[.slice A2 p1.Items.length c3, .int .i64 p1.At], .int .i64 1048576] : List Value).toArray _ [] _ from hm_) (Mr := ([(g9, .cells #[.slice A2 p1.Items.length c3, .int .i64 p1.At] 24 (0, 0))] :: Fs)) (List.Perm.refl _) (fun v12 J13 M14 hq15 hJ16 => ?_)
    replace hle := hle.trans hJ16
    replace hr4 := hr4.mono hJ16
    replace hr8 := hr8.mono hJ16
    obtain ⟨rfl, rfl⟩ := hq15
    refine at_seg [3] [] rfl [] [1, 2, 5] (L2 := [(1, .slice A6 p5.length c7), (2, .pointer (some ⟨g9, 0, none⟩)), (5, .int .i64 b1)]) (obs := []) (by kernel_rfl) ?_ ?_
    · intro w hs; exact trivial
    refine at_end ?_
    refine at_thn ?_
    refine at_seq ?_
    refine at_seq ?_
    refine at_reg [] [1, 2, 21] (L2 := [(1, .slice A6 p5.length c7), (2, .pointer (some ⟨g9, 0, none⟩)), (21, .bool (decide (b1 < 0)))]) (obs := []) (by kernel_rfl) ?_ ?_
    · intro w hs; exact trivial
    refine at_thn ?_
    by_cases h17 : b1 < 0
    · rw [if_pos h17] at H
      refine at_cond_t rfl (decide_eq_true h17) ?_
      refine at_seq ?_
      refine at_reg [] [4] (L2 := [(4, .bool true)]) (obs := []) (by kernel_rfl) ?_ ?_
      · intro w hs; exact trivial
      refine at_thn ?_
      refine at_ret ?_
      refine at_then_ret ?_
      obtain rfl := Option.some.inj H
      refine at_drop (k := 0) rfl rfl ?_
      refine at_done (vs := [.bool true]) (obs := []) (.inl rfl) [.tmp 4] [] rfl (by kernel_rfl) (fun w hs => trivial) (fun w hs => ⟨_, _, [], rfl, ⟨rfl, rfl⟩, hle, hs⟩)
    · rw [if_neg h17] at H
      refine at_cond_f rfl (decide_eq_false h17) ?_
      refine at_skip ?_
      refine at_thn ?_
      refine at_seq ?_
      refine at_ops [0, 1, 2, 3, 4, 5, 6] rfl ?_
      refine at_seg [0] [1, 2, 3, 4, 5, 6] rfl [(0, .agg #[.slice A2 p1.Items.length c3, .int .i64 p1.At])] [1, 2, 22] (L2 := [(1, .slice A6 p5.length c7), (2, .pointer (some ⟨g9, 0, none⟩)), (22, .agg #[.slice A2 p1.Items.length c3, .int .i64 p1.At])]) (obs := [fun w => CellsAt w ⟨g9, 0, none⟩ [.slice A2 p1.Items.length c3, .int .i64 p1.At] 0]) (by kernel_rfl) ?_ ?_
      · intro w hs; exact cellsV (k := 0) hs rfl _ 0 (Nat.le_of_ble_eq_true (by kernel_rfl)) rfl
      refine at_eff rfl rfl ?_
      obtain ⟨b2, H18, H⟩ := bind_some H
      have hm_ := laws_toRing.calls (I0 := J13) H18 hr4
      refine eff_call rfl rfl ok8 rfl rfl (show Meets Try.prog 8 ([.agg #[.slice A2 p1.Items.length c3, .int .i64 p1.At]] : List Value).toArray _ [] _ from hm_) (Mr := ([(g9, .cells #[.slice A2 p1.Items.length c3, .int .i64 p1.At] 24 (0, 0))] :: Fs)) (List.Perm.refl _) (fun v19 J20 M21 hq22 hJ23 => ?_)
      replace hle := hle.trans hJ23
      replace hr4 := hr4.mono hJ23
      replace hr8 := hr8.mono hJ23
      obtain ⟨A24, c25, s26, rfl, rfl, ho27⟩ := hq22
      refine at_seg [2] [3, 4, 5, 6] rfl [] [1, 2, 23, 24] (L2 := [(1, .slice A6 p5.length c7), (2, .pointer (some ⟨g9, 0, none⟩)), (23, .agg #[.slice A24 b2.Items.length c25, .int .i64 b2.At]), (24, .slice A6 p5.length c7)]) (obs := []) (by kernel_rfl) ?_ ?_
      · intro w hs; exact trivial
      refine at_eff rfl rfl ?_
      obtain ⟨b3, H28, H⟩ := bind_some H
      have hm_ := laws_toInt64S.calls (I0 := J20) H28 hr8
      refine eff_call rfl rfl ok9 rfl rfl (show Meets Try.prog 9 ([.slice A6 p5.length c7] : List Value).toArray _ [] _ from hm_) (Mr := (s26 :: [(g9, .cells #[.slice A2 p1.Items.length c3, .int .i64 p1.At] 24 (0, 0))] :: Fs)) (List.Perm.refl _) (fun v29 J30 M31 hq32 hJ33 => ?_)
      replace hle := hle.trans hJ33
      replace ho27 := ho27.mono hJ33
      replace hr4 := hr4.mono hJ33
      replace hr8 := hr8.mono hJ33
      obtain ⟨A34, c35, s36, rfl, rfl, ho37⟩ := hq32
      refine at_eff rfl rfl ?_
      obtain ⟨b4, H38, H⟩ := bind_some H
      refine eff_lend rfl rfl (post := fun v M => ∃ (A_1 : Option Addr) (c_2 : Nat) (s_3 : Seg), v = .agg #[.slice A_1 b4.Items.length c_2, .int .i64 b4.At] ∧ M = [s_3] ∧ DOwn (DK.sl (Kd.int .i64) 2) 25 J30 A_1 c_2 b4.Items s_3) (lent := [s26, s36]) (Mr := ([(g9, .cells #[.slice A2 p1.Items.length c3, .int .i64 p1.At] 24 (0, 0))] :: Fs)) ok7 rfl rfl ?_ (fun v39 M41 hq42 => ?_)
      · refine Lends.lend (k := 1) rfl (fun J44 hJ45 hin46 => ?_)
        refine Lends.lend (k := 0) rfl (fun J47 hJ48 hin49 => ?_)
        have hm_ := spec_RingPush.calls (I0 := J47) H38 (ho27.rd (hJ45.trans hJ48) (hin46.mono hJ48)) (ho37.rd (hJ45.trans hJ48) hin49)
        exact Lends.of_meets (Mc := []) (show Meets Try.prog 7 ([.agg #[.slice A24 b2.Items.length c25, .int .i64 b2.At], .slice A34 b3.length c35] : List Value).toArray J47 [] _ from hm_) (fun v J M h_ => by obtain ⟨a0_, a1_, a2_, e1_, e2_, h0_⟩ := h_; exact ⟨a0_, a1_, a2_, e1_, e2_, h0_.flat (fun h => h)⟩) (List.Perm.refl _)
      obtain ⟨A50, c51, s52, rfl, rfl, ho53⟩ := hq42
      refine at_eff rfl rfl ?_
      obtain ⟨i_, hi_, hz_, _, _⟩ := info27
      refine eff_alloc rfl rfl hi_ hz_ #[.slice none ([] : List (List Int)).length 0, .int .i64 0] rfl (fun g54 => ?_)
      refine at_eff rfl rfl ?_
      refine eff_store 0 rfl rfl rfl rfl rfl rfl (.inl (Nat.le_refl _)) rfl (Nat.le_of_ble_eq_true (by kernel_rfl)) rfl ?_
      refine at_end ?_
      refine at_thn ?_
      refine at_seq ?_
      refine at_ops [0, 1, 2, 3] rfl ?_
      refine at_seg [0] [1, 2, 3] rfl [(0, .agg #[.slice A2 p1.Items.length c3, .int .i64 p1.At])] [1, 2, 6, 27] (L2 := [(1, .slice A6 p5.length c7), (2, .pointer (some ⟨g9, 0, none⟩)), (6, .pointer (some ⟨g54, 0, none⟩)), (27, .agg #[.slice A2 p1.Items.length c3, .int .i64 p1.At])]) (obs := [fun w => CellsAt w ⟨g9, 0, none⟩ [.slice A2 p1.Items.length c3, .int .i64 p1.At] 0]) (by kernel_rfl) ?_ ?_
      · intro w hs; exact cellsV (k := 4) hs rfl _ 0 (Nat.le_of_ble_eq_true (by kernel_rfl)) rfl
      refine at_eff rfl rfl ?_
      obtain ⟨b5, H55, H⟩ := bind_some H
      have hm_ := laws_toRing.calls (I0 := J30) H55 hr4
      refine eff_call rfl rfl ok8 rfl rfl (show Meets Try.prog 8 ([.agg #[.slice A2 p1.Items.length c3, .int .i64 p1.At]] : List Value).toArray _ [] _ from hm_) (Mr := ([(g54, .cells #[.slice A50 b4.Items.length c51, .int .i64 b4.At] 27 (0, 0))] :: s26 :: s36 :: s52 :: [(g9, .cells #[.slice A2 p1.Items.length c3, .int .i64 p1.At] 24 (0, 0))] :: Fs)) (List.Perm.refl _) (fun v56 J57 M58 hq59 hJ60 => ?_)
      replace hle := hle.trans hJ60
      replace ho53 := ho53.mono hJ60
      replace hr4 := hr4.mono hJ60
      replace hr8 := hr8.mono hJ60
      obtain ⟨A61, c62, s63, rfl, rfl, ho64⟩ := hq59
      refine at_eff rfl rfl ?_
      obtain ⟨i_, hi_, hz_, _, _⟩ := info27
      refine eff_alloc rfl rfl hi_ hz_ #[.slice none ([] : List (List Int)).length 0, .int .i64 0] rfl (fun g65 => ?_)
      refine at_eff rfl rfl ?_
      refine eff_store 0 rfl rfl rfl rfl rfl rfl (.inl (Nat.le_refl _)) rfl (Nat.le_of_ble_eq_true (by kernel_rfl)) rfl ?_
      refine at_end ?_
      refine at_thn ?_
      refine at_seq ?_
      refine at_ops [0, 1, 2] rfl ?_
      refine at_seg [0] [1, 2] rfl [] [1, 2, 6, 7, 29] (L2 := [(1, .slice A6 p5.length c7), (2, .pointer (some ⟨g9, 0, none⟩)), (6, .pointer (some ⟨g54, 0, none⟩)), (7, .pointer (some ⟨g65, 0, none⟩)), (29, .slice A6 p5.length c7)]) (obs := []) (by kernel_rfl) ?_ ?_
      · intro w hs; exact trivial
      refine at_eff rfl rfl ?_
      obtain ⟨b6, H66, H⟩ := bind_some H
      have hm_ := laws_toInt64S.calls (I0 := J57) H66 hr8
      refine eff_call rfl rfl ok9 rfl rfl (show Meets Try.prog 9 ([.slice A6 p5.length c7] : List Value).toArray _ [] _ from hm_) (Mr := ([(g65, .cells #[.slice A61 b5.Items.length c62, .int .i64 b5.At] 27 (0, 0))] :: s63 :: [(g54, .cells #[.slice A50 b4.Items.length c51, .int .i64 b4.At] 27 (0, 0))] :: s26 :: s36 :: s52 :: [(g9, .cells #[.slice A2 p1.Items.length c3, .int .i64 p1.At] 24 (0, 0))] :: Fs)) (List.Perm.refl _) (fun v67 J68 M69 hq70 hJ71 => ?_)
      replace hle := hle.trans hJ71
      replace ho53 := ho53.mono hJ71
      replace ho64 := ho64.mono hJ71
      replace hr4 := hr4.mono hJ71
      replace hr8 := hr8.mono hJ71
      obtain ⟨A72, c73, s74, rfl, rfl, ho75⟩ := hq70
      refine at_seg [2] [] rfl [] [1, 2, 6, 7, 8] (L2 := [(1, .slice A6 p5.length c7), (2, .pointer (some ⟨g9, 0, none⟩)), (6, .pointer (some ⟨g54, 0, none⟩)), (7, .pointer (some ⟨g65, 0, none⟩)), (8, .slice A72 b6.length c73)]) (obs := []) (by kernel_rfl) ?_ ?_
      · intro w hs; exact trivial
      refine at_end ?_
      refine at_thn ?_
      refine at_seq ?_
      refine at_ops [0, 1, 2, 3, 4] rfl ?_
      refine at_seg [0, 1] [2, 3, 4] rfl [(0, .agg #[.slice A61 b5.Items.length c62, .int .i64 b5.At])] [1, 2, 6, 7, 8, 31, 32] (L2 := [(1, .slice A6 p5.length c7), (2, .pointer (some ⟨g9, 0, none⟩)), (6, .pointer (some ⟨g54, 0, none⟩)), (7, .pointer (some ⟨g65, 0, none⟩)), (8, .slice A72 b6.length c73), (31, .agg #[.slice A61 b5.Items.length c62, .int .i64 b5.At]), (32, .slice A72 b6.length c73)]) (obs := [fun w => CellsAt w ⟨g65, 0, none⟩ [.slice A61 b5.Items.length c62, .int .i64 b5.At] 0]) (by kernel_rfl) ?_ ?_
      · intro w hs; exact cellsV (k := 1) hs rfl _ 0 (Nat.le_of_ble_eq_true (by kernel_rfl)) rfl
      refine at_eff rfl rfl ?_
      obtain ⟨b7, H76, H⟩ := bind_some H
      refine eff_lend rfl rfl (post := fun v M => ∃ (A_1 : Option Addr) (c_2 : Nat) (s_3 : Seg), v = .agg #[.slice A_1 b7.Items.length c_2, .int .i64 b7.At] ∧ M = [s_3] ∧ DOwn (DK.sl (Kd.int .i64) 2) 25 J68 A_1 c_2 b7.Items s_3) (lent := [s63, s74]) (Mr := ([(g65, .cells #[.slice A61 b5.Items.length c62, .int .i64 b5.At] 27 (0, 0))] :: [(g54, .cells #[.slice A50 b4.Items.length c51, .int .i64 b4.At] 27 (0, 0))] :: s26 :: s36 :: s52 :: [(g9, .cells #[.slice A2 p1.Items.length c3, .int .i64 p1.At] 24 (0, 0))] :: Fs)) ok10 rfl rfl ?_ (fun v77 M79 hq80 => ?_)
      · refine Lends.lend (k := 2) rfl (fun J82 hJ83 hin84 => ?_)
        refine Lends.lend (k := 0) rfl (fun J85 hJ86 hin87 => ?_)
        have hm_ := impl_RingPush.calls (I0 := J85) H76 (ho64.rd (hJ83.trans hJ86) (hin84.mono hJ86)) (ho75.rd (hJ83.trans hJ86) hin87)
        exact Lends.of_meets (Mc := []) (show Meets Try.prog 10 ([.agg #[.slice A61 b5.Items.length c62, .int .i64 b5.At], .slice A72 b6.length c73] : List Value).toArray J85 [] _ from hm_) (fun v J M h_ => by obtain ⟨a0_, a1_, a2_, e1_, e2_, h0_⟩ := h_; exact ⟨a0_, a1_, a2_, e1_, e2_, h0_.flat (fun h => h)⟩) (List.Perm.refl _)
      obtain ⟨A88, c89, s90, rfl, rfl, ho91⟩ := hq80
      refine at_eff rfl rfl ?_
      obtain ⟨i_, hi_, hz_, _, _⟩ := info27
      refine eff_alloc rfl rfl hi_ hz_ #[.slice none ([] : List (List Int)).length 0, .int .i64 0] rfl (fun g92 => ?_)
      refine at_eff rfl rfl ?_
      refine eff_store 0 rfl rfl rfl rfl rfl rfl (.inl (Nat.le_refl _)) rfl (Nat.le_of_ble_eq_true (by kernel_rfl)) rfl ?_
      refine at_end ?_
      refine at_thn ?_
      refine at_seq ?_
      refine at_seq ?_
      refine at_ops [0, 1, 2, 3] rfl ?_
      refine at_seg [0, 1] [2, 3] rfl [(0, .agg #[.slice A88 b7.Items.length c89, .int .i64 b7.At]), (1, .agg #[.slice A50 b4.Items.length c51, .int .i64 b4.At])] [1, 2, 6, 7, 8, 9, 34, 35] (L2 := [(1, .slice A6 p5.length c7), (2, .pointer (some ⟨g9, 0, none⟩)), (6, .pointer (some ⟨g54, 0, none⟩)), (7, .pointer (some ⟨g65, 0, none⟩)), (8, .slice A72 b6.length c73), (9, .pointer (some ⟨g92, 0, none⟩)), (34, .agg #[.slice A88 b7.Items.length c89, .int .i64 b7.At]), (35, .agg #[.slice A50 b4.Items.length c51, .int .i64 b4.At])]) (obs := [fun w => CellsAt w ⟨g92, 0, none⟩ [.slice A88 b7.Items.length c89, .int .i64 b7.At] 0, fun w => CellsAt w ⟨g54, 0, none⟩ [.slice A50 b4.Items.length c51, .int .i64 b4.At] 0]) (by kernel_rfl) ?_ ?_
      · intro w hs; exact ⟨cellsV (k := 0) hs rfl _ 0 (Nat.le_of_ble_eq_true (by kernel_rfl)) rfl, cellsV (k := 5) hs rfl _ 0 (Nat.le_of_ble_eq_true (by kernel_rfl)) rfl⟩
      refine at_eff rfl rfl ?_
      obtain ⟨b8, H93, H⟩ := bind_some H
      refine eff_read rfl rfl (rv := .bool b8) (Ms' := (s90 :: s52 :: [(g92, .cells #[.slice A88 b7.Items.length c89, .int .i64 b7.At] 27 (0, 0))] :: s63 :: s74 :: [(g65, .cells #[.slice A61 b5.Items.length c62, .int .i64 b5.At] 27 (0, 0))] :: [(g54, .cells #[.slice A50 b4.Items.length c51, .int .i64 b4.At] 27 (0, 0))] :: s26 :: s36 :: [(g9, .cells #[.slice A2 p1.Items.length c3, .int .i64 p1.At] 24 (0, 0))] :: Fs)) ok11 rfl rfl ?_ ?_
      · refine Reads.lend (k := 3) rfl (fun J94 hJ95 hin96 => ?_)
        refine Reads.lend (k := 7) rfl (fun J97 hJ98 hin99 => ?_)
        have hm_ := laws_eqRing.calls (I0 := J97) H93 (ho91.rd (hJ95.trans hJ98) (hin96.mono hJ98)) (ho53.rd (hJ95.trans hJ98) hin99)
        exact Reads.of_meets (Mr := ([(g92, .cells #[.slice A88 b7.Items.length c89, .int .i64 b7.At] 27 (0, 0))] :: s63 :: s74 :: [(g65, .cells #[.slice A61 b5.Items.length c62, .int .i64 b5.At] 27 (0, 0))] :: [(g54, .cells #[.slice A50 b4.Items.length c51, .int .i64 b4.At] 27 (0, 0))] :: s26 :: s36 :: [(g9, .cells #[.slice A2 p1.Items.length c3, .int .i64 p1.At] 24 (0, 0))] :: Fs)) (show Meets Try.prog 11 ([.agg #[.slice A88 b7.Items.length c89, .int .i64 b7.At], .agg #[.slice A50 b4.Items.length c51, .int .i64 b4.At]] : List Value).toArray J97 [] _ from hm_) (List.Perm.refl _)
      refine at_seg [3] [] rfl [] [1, 2, 6, 7, 8, 9, 37] (L2 := [(1, .slice A6 p5.length c7), (2, .pointer (some ⟨g9, 0, none⟩)), (6, .pointer (some ⟨g54, 0, none⟩)), (7, .pointer (some ⟨g65, 0, none⟩)), (8, .slice A72 b6.length c73), (9, .pointer (some ⟨g92, 0, none⟩)), (37, .bool (!b8))]) (obs := []) (by kernel_rfl) ?_ ?_
      · intro w hs; exact trivial
      refine at_end ?_
      refine at_thn ?_
      by_cases h100 : b8 = true
      · rw [if_pos h100] at H
        refine at_cond_f rfl (not_ff (h100)) ?_
        refine at_skip ?_
        refine at_thn ?_
        refine at_seq ?_
        refine at_seq ?_
        refine at_x hmo (fun w => CellsAt w ⟨g65, 0, none⟩ [.slice A61 b5.Items.length c62, .int .i64 b5.At] 0 ∧ CellsAt w ⟨g9, 0, none⟩ [.slice A2 p1.Items.length c3, .int .i64 p1.At] 0) [] ?_
        refine at_xseg [0, 1] 3 (#[true, true, false, false, false]) rfl (by kernel_rfl) [(0, .agg #[.slice A61 b5.Items.length c62, .int .i64 b5.At]), (1, .agg #[.slice A2 p1.Items.length c3, .int .i64 p1.At])] [1, 2, 6, 7, 8, 9, 38, 39] (L2 := [(1, .slice A6 p5.length c7), (2, .pointer (some ⟨g9, 0, none⟩)), (6, .pointer (some ⟨g54, 0, none⟩)), (7, .pointer (some ⟨g65, 0, none⟩)), (8, .slice A72 b6.length c73), (9, .pointer (some ⟨g92, 0, none⟩)), (38, .agg #[.slice A61 b5.Items.length c62, .int .i64 b5.At]), (39, .agg #[.slice A2 p1.Items.length c3, .int .i64 p1.At])]) (obs := [fun w => CellsAt w ⟨g65, 0, none⟩ [.slice A61 b5.Items.length c62, .int .i64 b5.At] 0, fun w => CellsAt w ⟨g9, 0, none⟩ [.slice A2 p1.Items.length c3, .int .i64 p1.At] 0]) (by kernel_rfl) (by kernel_rfl) (by kernel_rfl) (.inr fun w hs => ⟨cellsV (k := 5) hs rfl _ 0 (Nat.le_of_ble_eq_true (by kernel_rfl)) rfl, cellsV (k := 9) hs rfl _ 0 (Nat.le_of_ble_eq_true (by kernel_rfl)) rfl⟩) (fun w hS => ⟨hS.1, hS.2⟩) (fun w hs => ⟨cellsV (k := 5) hs rfl _ 0 (Nat.le_of_ble_eq_true (by kernel_rfl)) rfl, cellsV (k := 9) hs rfl _ 0 (Nat.le_of_ble_eq_true (by kernel_rfl)) rfl⟩) ?_
        refine at_x1 2 2 (#[true, true, true, false, false]) rfl (by kernel_rfl) (by kernel_rfl) rfl rfl ?_
        obtain ⟨b9, H101, H⟩ := bind_some H
        have hm_ := laws_toRing.calls (I0 := J68) H101 hr4
        refine eff_call rfl rfl ok8 rfl rfl (show Meets Try.prog 8 ([.agg #[.slice A2 p1.Items.length c3, .int .i64 p1.At]] : List Value).toArray _ [] _ from hm_) (Mr := (s90 :: s52 :: [(g92, .cells #[.slice A88 b7.Items.length c89, .int .i64 b7.At] 27 (0, 0))] :: s63 :: s74 :: [(g65, .cells #[.slice A61 b5.Items.length c62, .int .i64 b5.At] 27 (0, 0))] :: [(g54, .cells #[.slice A50 b4.Items.length c51, .int .i64 b4.At] 27 (0, 0))] :: s26 :: s36 :: [(g9, .cells #[.slice A2 p1.Items.length c3, .int .i64 p1.At] 24 (0, 0))] :: Fs)) (List.Perm.refl _) (fun v102 J103 M104 hq105 hJ106 => ?_)
        replace hle := hle.trans hJ106
        replace ho53 := ho53.mono hJ106
        replace ho64 := ho64.mono hJ106
        replace ho75 := ho75.mono hJ106
        replace ho91 := ho91.mono hJ106
        replace hr4 := hr4.mono hJ106
        replace hr8 := hr8.mono hJ106
        obtain ⟨A107, c108, s109, rfl, rfl, ho110⟩ := hq105
        refine at_xS (fun w hs => ⟨cellsV (k := 6) hs rfl _ 0 (Nat.le_of_ble_eq_true (by kernel_rfl)) rfl, cellsV (k := 10) hs rfl _ 0 (Nat.le_of_ble_eq_true (by kernel_rfl)) rfl⟩) ?_
        refine at_x1 1 3 (#[true, true, true, true, false]) rfl (by kernel_rfl) (by kernel_rfl) rfl rfl ?_
        obtain ⟨b10, H111, H⟩ := bind_some H
        refine eff_read rfl rfl (rv := .bool b10) (Ms' := (s63 :: s109 :: s90 :: s52 :: [(g92, .cells #[.slice A88 b7.Items.length c89, .int .i64 b7.At] 27 (0, 0))] :: s74 :: [(g65, .cells #[.slice A61 b5.Items.length c62, .int .i64 b5.At] 27 (0, 0))] :: [(g54, .cells #[.slice A50 b4.Items.length c51, .int .i64 b4.At] 27 (0, 0))] :: s26 :: s36 :: [(g9, .cells #[.slice A2 p1.Items.length c3, .int .i64 p1.At] 24 (0, 0))] :: Fs)) ok11 rfl rfl ?_ ?_
        · refine Reads.lend (k := 4) rfl (fun J112 hJ113 hin114 => ?_)
          refine Reads.lend (k := 0) rfl (fun J115 hJ116 hin117 => ?_)
          have hm_ := laws_eqRing.calls (I0 := J115) H111 (ho64.rd (hJ113.trans hJ116) (hin114.mono hJ116)) (ho110.rd (hJ113.trans hJ116) hin117)
          exact Reads.of_meets (Mr := (s90 :: s52 :: [(g92, .cells #[.slice A88 b7.Items.length c89, .int .i64 b7.At] 27 (0, 0))] :: s74 :: [(g65, .cells #[.slice A61 b5.Items.length c62, .int .i64 b5.At] 27 (0, 0))] :: [(g54, .cells #[.slice A50 b4.Items.length c51, .int .i64 b4.At] 27 (0, 0))] :: s26 :: s36 :: [(g9, .cells #[.slice A2 p1.Items.length c3, .int .i64 p1.At] 24 (0, 0))] :: Fs)) (show Meets Try.prog 11 ([.agg #[.slice A61 b5.Items.length c62, .int .i64 b5.At], .agg #[.slice A107 b9.Items.length c108, .int .i64 b9.At]] : List Value).toArray J115 [] _ from hm_) (List.Perm.refl _)
        refine at_xS (fun w hs => ⟨cellsV (k := 6) hs rfl _ 0 (Nat.le_of_ble_eq_true (by kernel_rfl)) rfl, cellsV (k := 10) hs rfl _ 0 (Nat.le_of_ble_eq_true (by kernel_rfl)) rfl⟩) ?_
        refine at_xseg [4] 0 (#[true, true, true, true, true]) rfl (by kernel_rfl) [] [1, 2, 6, 7, 8, 9, 42] (L2 := [(1, .slice A6 p5.length c7), (2, .pointer (some ⟨g9, 0, none⟩)), (6, .pointer (some ⟨g54, 0, none⟩)), (7, .pointer (some ⟨g65, 0, none⟩)), (8, .slice A72 b6.length c73), (9, .pointer (some ⟨g92, 0, none⟩)), (42, .bool (!b10))]) (obs := []) (by kernel_rfl) (by kernel_rfl) (by kernel_rfl) (.inr fun w hs => ⟨cellsV (k := 6) hs rfl _ 0 (Nat.le_of_ble_eq_true (by kernel_rfl)) rfl, cellsV (k := 10) hs rfl _ 0 (Nat.le_of_ble_eq_true (by kernel_rfl)) rfl⟩) (fun w hS => trivial) (fun w hs => trivial) ?_
        refine at_xend (by kernel_rfl) ?_
        refine at_thn ?_
        by_cases h118 : b10 = true
        · rw [if_pos h118] at H
          refine at_cond_f rfl (not_ff (h118)) ?_
          refine at_skip ?_
          refine at_thn ?_
          refine at_seq ?_
          refine at_seq ?_
          refine at_ops [0, 1, 2, 3, 4] rfl ?_
          refine at_seg [0, 1] [2, 3, 4] rfl [] [1, 2, 6, 7, 8, 9, 43, 44] (L2 := [(1, .slice A6 p5.length c7), (2, .pointer (some ⟨g9, 0, none⟩)), (6, .pointer (some ⟨g54, 0, none⟩)), (7, .pointer (some ⟨g65, 0, none⟩)), (8, .slice A72 b6.length c73), (9, .pointer (some ⟨g92, 0, none⟩)), (43, .slice A72 b6.length c73), (44, .slice A6 p5.length c7)]) (obs := []) (by kernel_rfl) ?_ ?_
          · intro w hs; exact trivial
          refine at_eff rfl rfl ?_
          obtain ⟨b11, H119, H⟩ := bind_some H
          have hm_ := laws_toInt64S.calls (I0 := J103) H119 hr8
          refine eff_call rfl rfl ok9 rfl rfl (show Meets Try.prog 9 ([.slice A6 p5.length c7] : List Value).toArray _ [] _ from hm_) (Mr := (s63 :: s109 :: s90 :: s52 :: [(g92, .cells #[.slice A88 b7.Items.length c89, .int .i64 b7.At] 27 (0, 0))] :: s74 :: [(g65, .cells #[.slice A61 b5.Items.length c62, .int .i64 b5.At] 27 (0, 0))] :: [(g54, .cells #[.slice A50 b4.Items.length c51, .int .i64 b4.At] 27 (0, 0))] :: s26 :: s36 :: [(g9, .cells #[.slice A2 p1.Items.length c3, .int .i64 p1.At] 24 (0, 0))] :: Fs)) (List.Perm.refl _) (fun v120 J121 M122 hq123 hJ124 => ?_)
          replace hle := hle.trans hJ124
          replace ho53 := ho53.mono hJ124
          replace ho64 := ho64.mono hJ124
          replace ho75 := ho75.mono hJ124
          replace ho91 := ho91.mono hJ124
          replace hr4 := hr4.mono hJ124
          replace hr8 := hr8.mono hJ124
          obtain ⟨A125, c126, s127, rfl, rfl, ho128⟩ := hq123
          refine at_eff rfl rfl ?_
          obtain ⟨b12, H129, H⟩ := bind_some H
          refine eff_read rfl rfl (rv := .bool b12) (Ms' := (s74 :: s127 :: s63 :: s109 :: s90 :: s52 :: [(g92, .cells #[.slice A88 b7.Items.length c89, .int .i64 b7.At] 27 (0, 0))] :: [(g65, .cells #[.slice A61 b5.Items.length c62, .int .i64 b5.At] 27 (0, 0))] :: [(g54, .cells #[.slice A50 b4.Items.length c51, .int .i64 b4.At] 27 (0, 0))] :: s26 :: s36 :: [(g9, .cells #[.slice A2 p1.Items.length c3, .int .i64 p1.At] 24 (0, 0))] :: Fs)) ok12 rfl rfl ?_ ?_
          · refine Reads.lend (k := 6) rfl (fun J130 hJ131 hin132 => ?_)
            refine Reads.lend (k := 0) rfl (fun J133 hJ134 hin135 => ?_)
            have hm_ := laws_eqInt64S.calls (I0 := J133) H129 (ho75.rd (hJ131.trans hJ134) (hin132.mono hJ134)) (ho128.rd (hJ131.trans hJ134) hin135)
            exact Reads.of_meets (Mr := (s63 :: s109 :: s90 :: s52 :: [(g92, .cells #[.slice A88 b7.Items.length c89, .int .i64 b7.At] 27 (0, 0))] :: [(g65, .cells #[.slice A61 b5.Items.length c62, .int .i64 b5.At] 27 (0, 0))] :: [(g54, .cells #[.slice A50 b4.Items.length c51, .int .i64 b4.At] 27 (0, 0))] :: s26 :: s36 :: [(g9, .cells #[.slice A2 p1.Items.length c3, .int .i64 p1.At] 24 (0, 0))] :: Fs)) (show Meets Try.prog 12 ([.slice A72 b6.length c73, .slice A125 b11.length c126] : List Value).toArray J133 [] _ from hm_) (List.Perm.refl _)
          refine at_seg [4] [] rfl [] [1, 2, 6, 7, 8, 9, 47] (L2 := [(1, .slice A6 p5.length c7), (2, .pointer (some ⟨g9, 0, none⟩)), (6, .pointer (some ⟨g54, 0, none⟩)), (7, .pointer (some ⟨g65, 0, none⟩)), (8, .slice A72 b6.length c73), (9, .pointer (some ⟨g92, 0, none⟩)), (47, .bool (!b12))]) (obs := []) (by kernel_rfl) ?_ ?_
          · intro w hs; exact trivial
          refine at_end ?_
          refine at_thn ?_
          by_cases h136 : b12 = true
          · rw [if_pos h136] at H
            refine at_cond_f rfl (not_ff (h136)) ?_
            refine at_skip ?_
            refine at_thn ?_
            refine at_seq ?_
            refine at_reg [] [1, 2, 6, 7, 8, 9, 10] (L2 := [(1, .slice A6 p5.length c7), (2, .pointer (some ⟨g9, 0, none⟩)), (6, .pointer (some ⟨g54, 0, none⟩)), (7, .pointer (some ⟨g65, 0, none⟩)), (8, .slice A72 b6.length c73), (9, .pointer (some ⟨g92, 0, none⟩)), (10, .int .i64 1)]) (obs := []) (by kernel_rfl) ?_ ?_
            · intro w hs; exact trivial
            refine at_thn ?_
            refine at_seq ?_
            refine at_ops [0, 1, 2, 3] rfl ?_
            refine at_seg [0, 1] [2, 3] rfl [(0, .agg #[.slice A61 b5.Items.length c62, .int .i64 b5.At])] [1, 2, 6, 8, 9, 10, 48, 49] (L2 := [(1, .slice A6 p5.length c7), (2, .pointer (some ⟨g9, 0, none⟩)), (6, .pointer (some ⟨g54, 0, none⟩)), (8, .slice A72 b6.length c73), (9, .pointer (some ⟨g92, 0, none⟩)), (10, .int .i64 1), (48, .agg #[.slice A61 b5.Items.length c62, .int .i64 b5.At]), (49, .int .i64 1)]) (obs := [fun w => CellsAt w ⟨g65, 0, none⟩ [.slice A61 b5.Items.length c62, .int .i64 b5.At] 0]) (by kernel_rfl) ?_ ?_
            · intro w hs; exact cellsV (k := 7) hs rfl _ 0 (Nat.le_of_ble_eq_true (by kernel_rfl)) rfl
            refine at_eff rfl rfl ?_
            obtain ⟨b13, H137, H⟩ := bind_some H
            have hm_ := laws_markRing.calls (I0 := J121) H137 ho64
            refine eff_call rfl rfl ok13 rfl rfl (show Meets Try.prog 13 ([.agg #[.slice A61 b5.Items.length c62, .int .i64 b5.At], .int .i64 1] : List Value).toArray _ [s63] _ from hm_) (Mr := (s74 :: s127 :: s109 :: s90 :: s52 :: [(g92, .cells #[.slice A88 b7.Items.length c89, .int .i64 b7.At] 27 (0, 0))] :: [(g65, .cells #[.slice A61 b5.Items.length c62, .int .i64 b5.At] 27 (0, 0))] :: [(g54, .cells #[.slice A50 b4.Items.length c51, .int .i64 b4.At] 27 (0, 0))] :: s26 :: s36 :: [(g9, .cells #[.slice A2 p1.Items.length c3, .int .i64 p1.At] 24 (0, 0))] :: Fs)) ((perm_at (k := 2) rfl).trans ((List.Perm.refl _).cons _)) (fun v138 J139 M140 hq141 hJ142 => ?_)
            replace hle := hle.trans hJ142
            replace ho53 := ho53.mono hJ142
            replace ho64 := ho64.mono hJ142
            replace ho75 := ho75.mono hJ142
            replace ho91 := ho91.mono hJ142
            replace hr4 := hr4.mono hJ142
            replace hr8 := hr8.mono hJ142
            obtain ⟨s143, rfl, rfl, ho144, hl145⟩ := hq141
            refine at_keep [1, 2, 6, 8, 9, 10, 48, 49, 50] (L2 := [(1, .slice A6 p5.length c7), (2, .pointer (some ⟨g9, 0, none⟩)), (6, .pointer (some ⟨g54, 0, none⟩)), (8, .slice A72 b6.length c73), (9, .pointer (some ⟨g92, 0, none⟩)), (10, .int .i64 1), (48, .agg #[.slice A61 b5.Items.length c62, .int .i64 b5.At]), (49, .int .i64 1), (50, .int .i64 b13.1)]) rfl ?_
            refine at_eqL2 (L1 := [(1, .slice A6 p5.length c7), (2, .pointer (some ⟨g9, 0, none⟩)), (6, .pointer (some ⟨g54, 0, none⟩)), (8, .slice A72 b6.length c73), (9, .pointer (some ⟨g92, 0, none⟩)), (10, .int .i64 1), (48, .agg #[.slice A61 b5.Items.length c62, .int .i64 b5.At]), (49, .int .i64 1), (50, .int .i64 b13.1)]) (L2 := [(1, .slice A6 p5.length c7), (2, .pointer (some ⟨g9, 0, none⟩)), (6, .pointer (some ⟨g54, 0, none⟩)), (8, .slice A72 b6.length c73), (9, .pointer (some ⟨g92, 0, none⟩)), (10, .int .i64 1), (48, .agg #[.slice A61 b13.2.length c62, .int .i64 b5.At]), (49, .int .i64 1), (50, .int .i64 b13.1)]) rfl (by rw [hl145]) ?_
            refine at_eqM (M1 := (s143 :: s74 :: s127 :: s109 :: s90 :: s52 :: [(g92, .cells #[.slice A88 b7.Items.length c89, .int .i64 b7.At] 27 (0, 0))] :: [(g65, .cells #[.slice A61 b5.Items.length c62, .int .i64 b5.At] 27 (0, 0))] :: [(g54, .cells #[.slice A50 b4.Items.length c51, .int .i64 b4.At] 27 (0, 0))] :: s26 :: s36 :: [(g9, .cells #[.slice A2 p1.Items.length c3, .int .i64 p1.At] 24 (0, 0))] :: Fs)) (M2 := (s143 :: s74 :: s127 :: s109 :: s90 :: s52 :: [(g92, .cells #[.slice A88 b7.Items.length c89, .int .i64 b7.At] 27 (0, 0))] :: [(g65, .cells #[.slice A61 b13.2.length c62, .int .i64 b5.At] 27 (0, 0))] :: [(g54, .cells #[.slice A50 b4.Items.length c51, .int .i64 b4.At] 27 (0, 0))] :: s26 :: s36 :: [(g9, .cells #[.slice A2 p1.Items.length c3, .int .i64 p1.At] 24 (0, 0))] :: Fs)) rfl (by rw [hl145]) ?_
            refine at_seg [3] [] rfl [] [1, 2, 6, 8, 9, 10] (L2 := [(1, .slice A6 p5.length c7), (2, .pointer (some ⟨g9, 0, none⟩)), (6, .pointer (some ⟨g54, 0, none⟩)), (8, .slice A72 b6.length c73), (9, .pointer (some ⟨g92, 0, none⟩)), (10, .int .i64 b13.1)]) (obs := []) (by kernel_rfl) ?_ ?_
            · intro w hs; exact trivial
            refine at_end ?_
            refine at_thn ?_
            refine at_seq ?_
            refine at_ops [0, 1, 2, 3] rfl ?_
            refine at_seg [0, 1] [2, 3] rfl [] [1, 2, 6, 9, 10, 51, 52] (L2 := [(1, .slice A6 p5.length c7), (2, .pointer (some ⟨g9, 0, none⟩)), (6, .pointer (some ⟨g54, 0, none⟩)), (9, .pointer (some ⟨g92, 0, none⟩)), (10, .int .i64 b13.1), (51, .slice A72 b6.length c73), (52, .int .i64 b13.1)]) (obs := []) (by kernel_rfl) ?_ ?_
            · intro w hs; exact trivial
            refine at_eff rfl rfl ?_
            obtain ⟨b14, H146, H⟩ := bind_some H
            have hm_ := laws_markInt64S.calls (I0 := J139) H146 ho75
            refine eff_call rfl rfl ok14 rfl rfl (show Meets Try.prog 14 ([.slice A72 b6.length c73, .int .i64 b13.1] : List Value).toArray _ [s74] _ from hm_) (Mr := (s143 :: s127 :: s109 :: s90 :: s52 :: [(g92, .cells #[.slice A88 b7.Items.length c89, .int .i64 b7.At] 27 (0, 0))] :: [(g65, .cells #[.slice A61 b13.2.length c62, .int .i64 b5.At] 27 (0, 0))] :: [(g54, .cells #[.slice A50 b4.Items.length c51, .int .i64 b4.At] 27 (0, 0))] :: s26 :: s36 :: [(g9, .cells #[.slice A2 p1.Items.length c3, .int .i64 p1.At] 24 (0, 0))] :: Fs)) ((perm_at (k := 1) rfl).trans ((List.Perm.refl _).cons _)) (fun v147 J148 M149 hq150 hJ151 => ?_)
            replace hle := hle.trans hJ151
            replace ho144 := ho144.mono hJ151
            replace ho53 := ho53.mono hJ151
            replace ho75 := ho75.mono hJ151
            replace ho91 := ho91.mono hJ151
            replace hr4 := hr4.mono hJ151
            replace hr8 := hr8.mono hJ151
            obtain ⟨s152, rfl, rfl, ho153, hl154⟩ := hq150
            refine at_keep [1, 2, 6, 9, 10, 51, 52, 53] (L2 := [(1, .slice A6 p5.length c7), (2, .pointer (some ⟨g9, 0, none⟩)), (6, .pointer (some ⟨g54, 0, none⟩)), (9, .pointer (some ⟨g92, 0, none⟩)), (10, .int .i64 b13.1), (51, .slice A72 b6.length c73), (52, .int .i64 b13.1), (53, .int .i64 b14.1)]) rfl ?_
            refine at_eqL2 (L1 := [(1, .slice A6 p5.length c7), (2, .pointer (some ⟨g9, 0, none⟩)), (6, .pointer (some ⟨g54, 0, none⟩)), (9, .pointer (some ⟨g92, 0, none⟩)), (10, .int .i64 b13.1), (51, .slice A72 b6.length c73), (52, .int .i64 b13.1), (53, .int .i64 b14.1)]) (L2 := [(1, .slice A6 p5.length c7), (2, .pointer (some ⟨g9, 0, none⟩)), (6, .pointer (some ⟨g54, 0, none⟩)), (9, .pointer (some ⟨g92, 0, none⟩)), (10, .int .i64 b13.1), (51, .slice A72 b14.2.length c73), (52, .int .i64 b13.1), (53, .int .i64 b14.1)]) rfl (by rw [hl154]) ?_
            refine at_seg [3] [] rfl [] [1, 2, 6, 9, 10] (L2 := [(1, .slice A6 p5.length c7), (2, .pointer (some ⟨g9, 0, none⟩)), (6, .pointer (some ⟨g54, 0, none⟩)), (9, .pointer (some ⟨g92, 0, none⟩)), (10, .int .i64 b14.1)]) (obs := []) (by kernel_rfl) ?_ ?_
            · intro w hs; exact trivial
            refine at_end ?_
            refine at_thn ?_
            refine at_seq ?_
            refine at_seq ?_
            refine at_ops [0, 1, 2, 3, 4, 5, 6, 7] rfl ?_
            by_cases h155 : b14.1 < 0
            · rw [if_pos h155] at H
              refine at_seg [0, 1, 2, 3, 4] [5, 6, 7] rfl [(2, .bool true)] [1, 2, 6, 9, 56, 57, 58] (L2 := [(1, .slice A6 p5.length c7), (2, .pointer (some ⟨g9, 0, none⟩)), (6, .pointer (some ⟨g54, 0, none⟩)), (9, .pointer (some ⟨g92, 0, none⟩)), (56, .bool true), (57, undef), (58, undef)]) (obs := [fun _ => (.bool (decide (b14.1 < 0)) : Value) = .bool true]) (by kernel_rfl) ?_ ?_
              · intro w hs; exact congrArg Value.bool (decide_eq_true h155)
              refine at_seg [5, 6, 7] [] rfl [] [1, 2, 6, 9, 61] (L2 := [(1, .slice A6 p5.length c7), (2, .pointer (some ⟨g9, 0, none⟩)), (6, .pointer (some ⟨g54, 0, none⟩)), (9, .pointer (some ⟨g92, 0, none⟩)), (61, .bool true)]) (obs := []) (by kernel_rfl) ?_ ?_
              · intro w hs; exact trivial
              refine at_end ?_
              refine at_thn ?_
              refine at_cond_t rfl (rfl) ?_
              refine at_seq ?_
              refine at_reg [] [4] (L2 := [(4, .bool false)]) (obs := []) (by kernel_rfl) ?_ ?_
              · intro w hs; exact trivial
              refine at_thn ?_
              refine at_ret ?_
              refine at_then_ret ?_
              obtain rfl := Option.some.inj H
              refine at_drop (k := 0) rfl rfl ?_
              refine at_drop (k := 0) rfl rfl ?_
              refine at_drop (k := 0) rfl rfl ?_
              refine at_drop (k := 0) rfl rfl ?_
              refine at_drop (k := 0) rfl rfl ?_
              refine at_drop (k := 0) rfl rfl ?_
              refine at_drop (k := 0) rfl rfl ?_
              refine at_drop (k := 0) rfl rfl ?_
              refine at_drop (k := 0) rfl rfl ?_
              refine at_drop (k := 0) rfl rfl ?_
              refine at_drop (k := 0) rfl rfl ?_
              refine at_drop (k := 0) rfl rfl ?_
              refine at_done (vs := [.bool false]) (obs := []) (.inl rfl) [.tmp 4] [] rfl (by kernel_rfl) (fun w hs => trivial) (fun w hs => ⟨_, _, [], rfl, ⟨rfl, rfl⟩, hle, hs⟩)
            · rw [if_neg h155] at H
              refine at_seg [0, 1, 2, 3, 4] [5, 6, 7] rfl [(2, .bool false), (3, .agg #[.slice A88 b7.Items.length c89, .int .i64 b7.At]), (4, .agg #[.slice A50 b4.Items.length c51, .int .i64 b4.At])] [1, 2, 6, 9, 56, 57, 58] (L2 := [(1, .slice A6 p5.length c7), (2, .pointer (some ⟨g9, 0, none⟩)), (6, .pointer (some ⟨g54, 0, none⟩)), (9, .pointer (some ⟨g92, 0, none⟩)), (56, .bool false), (57, .agg #[.slice A88 b7.Items.length c89, .int .i64 b7.At]), (58, .agg #[.slice A50 b4.Items.length c51, .int .i64 b4.At])]) (obs := [fun _ => (.bool (decide (b14.1 < 0)) : Value) = .bool false, fun w => CellsAt w ⟨g92, 0, none⟩ [.slice A88 b7.Items.length c89, .int .i64 b7.At] 0, fun w => CellsAt w ⟨g54, 0, none⟩ [.slice A50 b4.Items.length c51, .int .i64 b4.At] 0]) (by kernel_rfl) ?_ ?_
              · intro w hs; exact ⟨congrArg Value.bool (decide_eq_false h155), cellsV (k := 6) hs rfl _ 0 (Nat.le_of_ble_eq_true (by kernel_rfl)) rfl, cellsV (k := 8) hs rfl _ 0 (Nat.le_of_ble_eq_true (by kernel_rfl)) rfl⟩
              refine at_eff rfl rfl ?_
              obtain ⟨b15, H156, H⟩ := bind_some H
              refine eff_read rfl rfl (rv := .bool b15) (Ms' := (s90 :: s52 :: s152 :: s143 :: s127 :: s109 :: [(g92, .cells #[.slice A88 b7.Items.length c89, .int .i64 b7.At] 27 (0, 0))] :: [(g65, .cells #[.slice A61 b13.2.length c62, .int .i64 b5.At] 27 (0, 0))] :: [(g54, .cells #[.slice A50 b4.Items.length c51, .int .i64 b4.At] 27 (0, 0))] :: s26 :: s36 :: [(g9, .cells #[.slice A2 p1.Items.length c3, .int .i64 p1.At] 24 (0, 0))] :: Fs)) ok11 rfl rfl ?_ ?_
              · refine Reads.lend (k := 4) rfl (fun J157 hJ158 hin159 => ?_)
                refine Reads.lend (k := 4) rfl (fun J160 hJ161 hin162 => ?_)
                have hm_ := laws_eqRing.calls (I0 := J160) H156 (ho91.rd (hJ158.trans hJ161) (hin159.mono hJ161)) (ho53.rd (hJ158.trans hJ161) hin162)
                exact Reads.of_meets (Mr := (s152 :: s143 :: s127 :: s109 :: [(g92, .cells #[.slice A88 b7.Items.length c89, .int .i64 b7.At] 27 (0, 0))] :: [(g65, .cells #[.slice A61 b13.2.length c62, .int .i64 b5.At] 27 (0, 0))] :: [(g54, .cells #[.slice A50 b4.Items.length c51, .int .i64 b4.At] 27 (0, 0))] :: s26 :: s36 :: [(g9, .cells #[.slice A2 p1.Items.length c3, .int .i64 p1.At] 24 (0, 0))] :: Fs)) (show Meets Try.prog 11 ([.agg #[.slice A88 b7.Items.length c89, .int .i64 b7.At], .agg #[.slice A50 b4.Items.length c51, .int .i64 b4.At]] : List Value).toArray J160 [] _ from hm_) (List.Perm.refl _)
              refine at_seg [6, 7] [] rfl [] [1, 2, 6, 9, 61] (L2 := [(1, .slice A6 p5.length c7), (2, .pointer (some ⟨g9, 0, none⟩)), (6, .pointer (some ⟨g54, 0, none⟩)), (9, .pointer (some ⟨g92, 0, none⟩)), (61, .bool (!b15))]) (obs := []) (by kernel_rfl) ?_ ?_
              · intro w hs; exact trivial
              refine at_end ?_
              refine at_thn ?_
              by_cases h163 : b15 = true
              · rw [if_pos h163] at H
                refine at_cond_f rfl (not_ff (h163)) ?_
                refine at_skip ?_
                refine at_thn ?_
                refine at_seq ?_
                refine at_reg [] [1, 2, 6, 9, 11] (L2 := [(1, .slice A6 p5.length c7), (2, .pointer (some ⟨g9, 0, none⟩)), (6, .pointer (some ⟨g54, 0, none⟩)), (9, .pointer (some ⟨g92, 0, none⟩)), (11, .int .i64 1)]) (obs := []) (by kernel_rfl) ?_ ?_
                · intro w hs; exact trivial
                refine at_thn ?_
                refine at_seq ?_
                refine at_ops [0, 1, 2, 3] rfl ?_
                refine at_seg [0, 1] [2, 3] rfl [(0, .agg #[.slice A88 b7.Items.length c89, .int .i64 b7.At])] [1, 2, 6, 9, 11, 62, 63] (L2 := [(1, .slice A6 p5.length c7), (2, .pointer (some ⟨g9, 0, none⟩)), (6, .pointer (some ⟨g54, 0, none⟩)), (9, .pointer (some ⟨g92, 0, none⟩)), (11, .int .i64 1), (62, .agg #[.slice A88 b7.Items.length c89, .int .i64 b7.At]), (63, .int .i64 1)]) (obs := [fun w => CellsAt w ⟨g92, 0, none⟩ [.slice A88 b7.Items.length c89, .int .i64 b7.At] 0]) (by kernel_rfl) ?_ ?_
                · intro w hs; exact cellsV (k := 6) hs rfl _ 0 (Nat.le_of_ble_eq_true (by kernel_rfl)) rfl
                refine at_eff rfl rfl ?_
                obtain ⟨b16, H164, H⟩ := bind_some H
                have hm_ := laws_markRing.calls (I0 := J148) H164 ho91
                refine eff_call rfl rfl ok13 rfl rfl (show Meets Try.prog 13 ([.agg #[.slice A88 b7.Items.length c89, .int .i64 b7.At], .int .i64 1] : List Value).toArray _ [s90] _ from hm_) (Mr := (s52 :: s152 :: s143 :: s127 :: s109 :: [(g92, .cells #[.slice A88 b7.Items.length c89, .int .i64 b7.At] 27 (0, 0))] :: [(g65, .cells #[.slice A61 b13.2.length c62, .int .i64 b5.At] 27 (0, 0))] :: [(g54, .cells #[.slice A50 b4.Items.length c51, .int .i64 b4.At] 27 (0, 0))] :: s26 :: s36 :: [(g9, .cells #[.slice A2 p1.Items.length c3, .int .i64 p1.At] 24 (0, 0))] :: Fs)) (List.Perm.refl _) (fun v165 J166 M167 hq168 hJ169 => ?_)
                replace hle := hle.trans hJ169
                replace ho144 := ho144.mono hJ169
                replace ho53 := ho53.mono hJ169
                replace ho91 := ho91.mono hJ169
                replace hr4 := hr4.mono hJ169
                replace hr8 := hr8.mono hJ169
                obtain ⟨s170, rfl, rfl, ho171, hl172⟩ := hq168
                refine at_keep [1, 2, 6, 9, 11, 62, 63, 64] (L2 := [(1, .slice A6 p5.length c7), (2, .pointer (some ⟨g9, 0, none⟩)), (6, .pointer (some ⟨g54, 0, none⟩)), (9, .pointer (some ⟨g92, 0, none⟩)), (11, .int .i64 1), (62, .agg #[.slice A88 b7.Items.length c89, .int .i64 b7.At]), (63, .int .i64 1), (64, .int .i64 b16.1)]) rfl ?_
                refine at_eqL2 (L1 := [(1, .slice A6 p5.length c7), (2, .pointer (some ⟨g9, 0, none⟩)), (6, .pointer (some ⟨g54, 0, none⟩)), (9, .pointer (some ⟨g92, 0, none⟩)), (11, .int .i64 1), (62, .agg #[.slice A88 b7.Items.length c89, .int .i64 b7.At]), (63, .int .i64 1), (64, .int .i64 b16.1)]) (L2 := [(1, .slice A6 p5.length c7), (2, .pointer (some ⟨g9, 0, none⟩)), (6, .pointer (some ⟨g54, 0, none⟩)), (9, .pointer (some ⟨g92, 0, none⟩)), (11, .int .i64 1), (62, .agg #[.slice A88 b16.2.length c89, .int .i64 b7.At]), (63, .int .i64 1), (64, .int .i64 b16.1)]) rfl (by rw [hl172]) ?_
                refine at_eqM (M1 := (s170 :: s52 :: s152 :: s143 :: s127 :: s109 :: [(g92, .cells #[.slice A88 b7.Items.length c89, .int .i64 b7.At] 27 (0, 0))] :: [(g65, .cells #[.slice A61 b13.2.length c62, .int .i64 b5.At] 27 (0, 0))] :: [(g54, .cells #[.slice A50 b4.Items.length c51, .int .i64 b4.At] 27 (0, 0))] :: s26 :: s36 :: [(g9, .cells #[.slice A2 p1.Items.length c3, .int .i64 p1.At] 24 (0, 0))] :: Fs)) (M2 := (s170 :: s52 :: s152 :: s143 :: s127 :: s109 :: [(g92, .cells #[.slice A88 b16.2.length c89, .int .i64 b7.At] 27 (0, 0))] :: [(g65, .cells #[.slice A61 b13.2.length c62, .int .i64 b5.At] 27 (0, 0))] :: [(g54, .cells #[.slice A50 b4.Items.length c51, .int .i64 b4.At] 27 (0, 0))] :: s26 :: s36 :: [(g9, .cells #[.slice A2 p1.Items.length c3, .int .i64 p1.At] 24 (0, 0))] :: Fs)) rfl (by rw [hl172]) ?_
                refine at_seg [3] [] rfl [] [1, 2, 6, 9, 11] (L2 := [(1, .slice A6 p5.length c7), (2, .pointer (some ⟨g9, 0, none⟩)), (6, .pointer (some ⟨g54, 0, none⟩)), (9, .pointer (some ⟨g92, 0, none⟩)), (11, .int .i64 b16.1)]) (obs := []) (by kernel_rfl) ?_ ?_
                · intro w hs; exact trivial
                refine at_end ?_
                refine at_thn ?_
                refine at_seq ?_
                refine at_reg [] [1, 2, 6, 9, 11, 12] (L2 := [(1, .slice A6 p5.length c7), (2, .pointer (some ⟨g9, 0, none⟩)), (6, .pointer (some ⟨g54, 0, none⟩)), (9, .pointer (some ⟨g92, 0, none⟩)), (11, .int .i64 b16.1), (12, .int .i64 1)]) (obs := []) (by kernel_rfl) ?_ ?_
                · intro w hs; exact trivial
                refine at_thn ?_
                refine at_seq ?_
                refine at_ops [0, 1, 2, 3] rfl ?_
                refine at_seg [0, 1] [2, 3] rfl [(0, .agg #[.slice A88 b16.2.length c89, .int .i64 b7.At])] [1, 2, 6, 9, 11, 12, 65, 66] (L2 := [(1, .slice A6 p5.length c7), (2, .pointer (some ⟨g9, 0, none⟩)), (6, .pointer (some ⟨g54, 0, none⟩)), (9, .pointer (some ⟨g92, 0, none⟩)), (11, .int .i64 b16.1), (12, .int .i64 1), (65, .agg #[.slice A88 b16.2.length c89, .int .i64 b7.At]), (66, .int .i64 1)]) (obs := [fun w => CellsAt w ⟨g92, 0, none⟩ [.slice A88 b16.2.length c89, .int .i64 b7.At] 0]) (by kernel_rfl) ?_ ?_
                · intro w hs; exact cellsV (k := 6) hs rfl _ 0 (Nat.le_of_ble_eq_true (by kernel_rfl)) rfl
                refine at_eff rfl rfl ?_
                obtain ⟨b17, H173, H⟩ := bind_some H
                refine eff_read rfl rfl (rv := .int .i64 b17) (Ms' := (s170 :: s52 :: s152 :: s143 :: s127 :: s109 :: [(g92, .cells #[.slice A88 b16.2.length c89, .int .i64 b7.At] 27 (0, 0))] :: [(g65, .cells #[.slice A61 b13.2.length c62, .int .i64 b5.At] 27 (0, 0))] :: [(g54, .cells #[.slice A50 b4.Items.length c51, .int .i64 b4.At] 27 (0, 0))] :: s26 :: s36 :: [(g9, .cells #[.slice A2 p1.Items.length c3, .int .i64 p1.At] 24 (0, 0))] :: Fs)) ok15 rfl rfl ?_ ?_
                · refine Reads.lend (k := 0) rfl (fun J174 hJ175 hin176 => ?_)
                  have hm_ := laws_heldRing.calls (I0 := J174) H173 (ho171.rd hJ175 hin176)
                  exact Reads.of_meets (Mr := (s52 :: s152 :: s143 :: s127 :: s109 :: [(g92, .cells #[.slice A88 b16.2.length c89, .int .i64 b7.At] 27 (0, 0))] :: [(g65, .cells #[.slice A61 b13.2.length c62, .int .i64 b5.At] 27 (0, 0))] :: [(g54, .cells #[.slice A50 b4.Items.length c51, .int .i64 b4.At] 27 (0, 0))] :: s26 :: s36 :: [(g9, .cells #[.slice A2 p1.Items.length c3, .int .i64 p1.At] 24 (0, 0))] :: Fs)) (show Meets Try.prog 15 ([.agg #[.slice A88 b16.2.length c89, .int .i64 b7.At], .int .i64 1] : List Value).toArray J174 [] _ from hm_) (List.Perm.refl _)
                refine at_seg [3] [] rfl [] [1, 2, 6, 9, 11, 12] (L2 := [(1, .slice A6 p5.length c7), (2, .pointer (some ⟨g9, 0, none⟩)), (6, .pointer (some ⟨g54, 0, none⟩)), (9, .pointer (some ⟨g92, 0, none⟩)), (11, .int .i64 b16.1), (12, .int .i64 b17)]) (obs := []) (by kernel_rfl) ?_ ?_
                · intro w hs; exact trivial
                refine at_end ?_
                refine at_thn ?_
                refine at_seq ?_
                refine at_seq ?_
                refine at_reg [] [1, 2, 6, 9, 11, 12, 69] (L2 := [(1, .slice A6 p5.length c7), (2, .pointer (some ⟨g9, 0, none⟩)), (6, .pointer (some ⟨g54, 0, none⟩)), (9, .pointer (some ⟨g92, 0, none⟩)), (11, .int .i64 b16.1), (12, .int .i64 b17), (69, .bool (decide (b17 < 0)))]) (obs := []) (by kernel_rfl) ?_ ?_
                · intro w hs; exact trivial
                refine at_thn ?_
                by_cases h177 : b17 < 0
                · rw [if_pos h177] at H
                  refine at_cond_t rfl (decide_eq_true h177) ?_
                  refine at_seq ?_
                  refine at_reg [] [4] (L2 := [(4, .bool false)]) (obs := []) (by kernel_rfl) ?_ ?_
                  · intro w hs; exact trivial
                  refine at_thn ?_
                  refine at_ret ?_
                  refine at_then_ret ?_
                  obtain rfl := Option.some.inj H
                  refine at_drop (k := 0) rfl rfl ?_
                  refine at_drop (k := 0) rfl rfl ?_
                  refine at_drop (k := 0) rfl rfl ?_
                  refine at_drop (k := 0) rfl rfl ?_
                  refine at_drop (k := 0) rfl rfl ?_
                  refine at_drop (k := 0) rfl rfl ?_
                  refine at_drop (k := 0) rfl rfl ?_
                  refine at_drop (k := 0) rfl rfl ?_
                  refine at_drop (k := 0) rfl rfl ?_
                  refine at_drop (k := 0) rfl rfl ?_
                  refine at_drop (k := 0) rfl rfl ?_
                  refine at_drop (k := 0) rfl rfl ?_
                  refine at_done (vs := [.bool false]) (obs := []) (.inl rfl) [.tmp 4] [] rfl (by kernel_rfl) (fun w hs => trivial) (fun w hs => ⟨_, _, [], rfl, ⟨rfl, rfl⟩, hle, hs⟩)
                · rw [if_neg h177] at H
                  refine at_cond_f rfl (decide_eq_false h177) ?_
                  refine at_skip ?_
                  refine at_thn ?_
                  refine at_seq ?_
                  refine at_seq ?_
                  refine at_reg [] [1, 2, 6, 9, 11, 72] (L2 := [(1, .slice A6 p5.length c7), (2, .pointer (some ⟨g9, 0, none⟩)), (6, .pointer (some ⟨g54, 0, none⟩)), (9, .pointer (some ⟨g92, 0, none⟩)), (11, .int .i64 b16.1), (72, .bool (b17 != b16.1))]) (obs := []) (by kernel_rfl) ?_ ?_
                  · intro w hs; exact trivial
                  refine at_thn ?_
                  by_cases h178 : b17 = b16.1
                  · rw [if_pos h178] at H
                    refine at_cond_f rfl (bne_eq_false_iff_eq.2 h178) ?_
                    refine at_skip ?_
                    refine at_thn ?_
                    refine at_seq ?_
                    refine at_ops [0, 1, 2, 3, 4, 5, 6] rfl ?_
                    refine at_seg [0] [1, 2, 3, 4, 5, 6] rfl [(0, .agg #[.slice A2 p1.Items.length c3, .int .i64 p1.At])] [1, 6, 9, 11, 73] (L2 := [(1, .slice A6 p5.length c7), (6, .pointer (some ⟨g54, 0, none⟩)), (9, .pointer (some ⟨g92, 0, none⟩)), (11, .int .i64 b16.1), (73, .agg #[.slice A2 p1.Items.length c3, .int .i64 p1.At])]) (obs := [fun w => CellsAt w ⟨g9, 0, none⟩ [.slice A2 p1.Items.length c3, .int .i64 p1.At] 0]) (by kernel_rfl) ?_ ?_
                    · intro w hs; exact cellsV (k := 11) hs rfl _ 0 (Nat.le_of_ble_eq_true (by kernel_rfl)) rfl
                    refine at_eff rfl rfl ?_
                    obtain ⟨b18, H179, H⟩ := bind_some H
                    have hm_ := laws_toRing.calls (I0 := J166) H179 hr4
                    refine eff_call rfl rfl ok8 rfl rfl (show Meets Try.prog 8 ([.agg #[.slice A2 p1.Items.length c3, .int .i64 p1.At]] : List Value).toArray _ [] _ from hm_) (Mr := (s170 :: s52 :: s152 :: s143 :: s127 :: s109 :: [(g92, .cells #[.slice A88 b16.2.length c89, .int .i64 b7.At] 27 (0, 0))] :: [(g65, .cells #[.slice A61 b13.2.length c62, .int .i64 b5.At] 27 (0, 0))] :: [(g54, .cells #[.slice A50 b4.Items.length c51, .int .i64 b4.At] 27 (0, 0))] :: s26 :: s36 :: [(g9, .cells #[.slice A2 p1.Items.length c3, .int .i64 p1.At] 24 (0, 0))] :: Fs)) (List.Perm.refl _) (fun v180 J181 M182 hq183 hJ184 => ?_)
                    replace hle := hle.trans hJ184
                    replace ho144 := ho144.mono hJ184
                    replace ho171 := ho171.mono hJ184
                    replace ho53 := ho53.mono hJ184
                    replace hr4 := hr4.mono hJ184
                    replace hr8 := hr8.mono hJ184
                    obtain ⟨A185, c186, s187, rfl, rfl, ho188⟩ := hq183
                    refine at_seg [2] [3, 4, 5, 6] rfl [] [6, 9, 11, 74, 75] (L2 := [(6, .pointer (some ⟨g54, 0, none⟩)), (9, .pointer (some ⟨g92, 0, none⟩)), (11, .int .i64 b16.1), (74, .agg #[.slice A185 b18.Items.length c186, .int .i64 b18.At]), (75, .slice A6 p5.length c7)]) (obs := []) (by kernel_rfl) ?_ ?_
                    · intro w hs; exact trivial
                    refine at_eff rfl rfl ?_
                    obtain ⟨b19, H189, H⟩ := bind_some H
                    have hm_ := laws_toInt64S.calls (I0 := J181) H189 hr8
                    refine eff_call rfl rfl ok9 rfl rfl (show Meets Try.prog 9 ([.slice A6 p5.length c7] : List Value).toArray _ [] _ from hm_) (Mr := (s187 :: s170 :: s52 :: s152 :: s143 :: s127 :: s109 :: [(g92, .cells #[.slice A88 b16.2.length c89, .int .i64 b7.At] 27 (0, 0))] :: [(g65, .cells #[.slice A61 b13.2.length c62, .int .i64 b5.At] 27 (0, 0))] :: [(g54, .cells #[.slice A50 b4.Items.length c51, .int .i64 b4.At] 27 (0, 0))] :: s26 :: s36 :: [(g9, .cells #[.slice A2 p1.Items.length c3, .int .i64 p1.At] 24 (0, 0))] :: Fs)) (List.Perm.refl _) (fun v190 J191 M192 hq193 hJ194 => ?_)
                    replace hle := hle.trans hJ194
                    replace ho144 := ho144.mono hJ194
                    replace ho171 := ho171.mono hJ194
                    replace ho188 := ho188.mono hJ194
                    replace ho53 := ho53.mono hJ194
                    replace hr4 := hr4.mono hJ194
                    replace hr8 := hr8.mono hJ194
                    obtain ⟨A195, c196, s197, rfl, rfl, ho198⟩ := hq193
                    refine at_eff rfl rfl ?_
                    obtain ⟨b20, H199, H⟩ := bind_some H
                    refine eff_lend rfl rfl (post := fun v M => ∃ (A_1 : Option Addr) (c_2 : Nat) (s_3 : Seg), v = .agg #[.slice A_1 b20.Items.length c_2, .int .i64 b20.At] ∧ M = [s_3] ∧ DOwn (DK.sl (Kd.int .i64) 2) 25 J191 A_1 c_2 b20.Items s_3) (lent := [s187, s197]) (Mr := (s170 :: s52 :: s152 :: s143 :: s127 :: s109 :: [(g92, .cells #[.slice A88 b16.2.length c89, .int .i64 b7.At] 27 (0, 0))] :: [(g65, .cells #[.slice A61 b13.2.length c62, .int .i64 b5.At] 27 (0, 0))] :: [(g54, .cells #[.slice A50 b4.Items.length c51, .int .i64 b4.At] 27 (0, 0))] :: s26 :: s36 :: [(g9, .cells #[.slice A2 p1.Items.length c3, .int .i64 p1.At] 24 (0, 0))] :: Fs)) ok10 rfl rfl ?_ (fun v200 M202 hq203 => ?_)
                    · refine Lends.lend (k := 1) rfl (fun J205 hJ206 hin207 => ?_)
                      refine Lends.lend (k := 0) rfl (fun J208 hJ209 hin210 => ?_)
                      have hm_ := impl_RingPush.calls (I0 := J208) H199 (ho188.rd (hJ206.trans hJ209) (hin207.mono hJ209)) (ho198.rd (hJ206.trans hJ209) hin210)
                      exact Lends.of_meets (Mc := []) (show Meets Try.prog 10 ([.agg #[.slice A185 b18.Items.length c186, .int .i64 b18.At], .slice A195 b19.length c196] : List Value).toArray J208 [] _ from hm_) (fun v J M h_ => by obtain ⟨a0_, a1_, a2_, e1_, e2_, h0_⟩ := h_; exact ⟨a0_, a1_, a2_, e1_, e2_, h0_.flat (fun h => h)⟩) (List.Perm.refl _)
                    obtain ⟨A211, c212, s213, rfl, rfl, ho214⟩ := hq203
                    refine at_eff rfl rfl ?_
                    obtain ⟨i_, hi_, hz_, _, _⟩ := info27
                    refine eff_alloc rfl rfl hi_ hz_ #[.slice none ([] : List (List Int)).length 0, .int .i64 0] rfl (fun g215 => ?_)
                    refine at_eff rfl rfl ?_
                    refine eff_store 0 rfl rfl rfl rfl rfl rfl (.inl (Nat.le_refl _)) rfl (Nat.le_of_ble_eq_true (by kernel_rfl)) rfl ?_
                    refine at_end ?_
                    refine at_thn ?_
                    refine at_seq ?_
                    refine at_seq ?_
                    refine at_ops [0, 1, 2, 3] rfl ?_
                    refine at_seg [0, 1] [2, 3] rfl [(0, .agg #[.slice A211 b20.Items.length c212, .int .i64 b20.At]), (1, .agg #[.slice A50 b4.Items.length c51, .int .i64 b4.At])] [9, 11, 78, 79] (L2 := [(9, .pointer (some ⟨g92, 0, none⟩)), (11, .int .i64 b16.1), (78, .agg #[.slice A211 b20.Items.length c212, .int .i64 b20.At]), (79, .agg #[.slice A50 b4.Items.length c51, .int .i64 b4.At])]) (obs := [fun w => CellsAt w ⟨g215, 0, none⟩ [.slice A211 b20.Items.length c212, .int .i64 b20.At] 0, fun w => CellsAt w ⟨g54, 0, none⟩ [.slice A50 b4.Items.length c51, .int .i64 b4.At] 0]) (by kernel_rfl) ?_ ?_
                    · intro w hs; exact ⟨cellsV (k := 0) hs rfl _ 0 (Nat.le_of_ble_eq_true (by kernel_rfl)) rfl, cellsV (k := 12) hs rfl _ 0 (Nat.le_of_ble_eq_true (by kernel_rfl)) rfl⟩
                    refine at_eff rfl rfl ?_
                    obtain ⟨b21, H216, H⟩ := bind_some H
                    refine eff_read rfl rfl (rv := .bool b21) (Ms' := (s213 :: s52 :: [(g215, .cells #[.slice A211 b20.Items.length c212, .int .i64 b20.At] 27 (0, 0))] :: s187 :: s197 :: s170 :: s152 :: s143 :: s127 :: s109 :: [(g92, .cells #[.slice A88 b16.2.length c89, .int .i64 b7.At] 27 (0, 0))] :: [(g65, .cells #[.slice A61 b13.2.length c62, .int .i64 b5.At] 27 (0, 0))] :: [(g54, .cells #[.slice A50 b4.Items.length c51, .int .i64 b4.At] 27 (0, 0))] :: s26 :: s36 :: [(g9, .cells #[.slice A2 p1.Items.length c3, .int .i64 p1.At] 24 (0, 0))] :: Fs)) ok11 rfl rfl ?_ ?_
                    · refine Reads.lend (k := 3) rfl (fun J217 hJ218 hin219 => ?_)
                      refine Reads.lend (k := 4) rfl (fun J220 hJ221 hin222 => ?_)
                      have hm_ := laws_eqRing.calls (I0 := J220) H216 (ho214.rd (hJ218.trans hJ221) (hin219.mono hJ221)) (ho53.rd (hJ218.trans hJ221) hin222)
                      exact Reads.of_meets (Mr := ([(g215, .cells #[.slice A211 b20.Items.length c212, .int .i64 b20.At] 27 (0, 0))] :: s187 :: s197 :: s170 :: s152 :: s143 :: s127 :: s109 :: [(g92, .cells #[.slice A88 b16.2.length c89, .int .i64 b7.At] 27 (0, 0))] :: [(g65, .cells #[.slice A61 b13.2.length c62, .int .i64 b5.At] 27 (0, 0))] :: [(g54, .cells #[.slice A50 b4.Items.length c51, .int .i64 b4.At] 27 (0, 0))] :: s26 :: s36 :: [(g9, .cells #[.slice A2 p1.Items.length c3, .int .i64 p1.At] 24 (0, 0))] :: Fs)) (show Meets Try.prog 11 ([.agg #[.slice A211 b20.Items.length c212, .int .i64 b20.At], .agg #[.slice A50 b4.Items.length c51, .int .i64 b4.At]] : List Value).toArray J220 [] _ from hm_) (List.Perm.refl _)
                    refine at_seg [3] [] rfl [] [9, 11, 81] (L2 := [(9, .pointer (some ⟨g92, 0, none⟩)), (11, .int .i64 b16.1), (81, .bool (!b21))]) (obs := []) (by kernel_rfl) ?_ ?_
                    · intro w hs; exact trivial
                    refine at_end ?_
                    refine at_thn ?_
                    by_cases h223 : b21 = true
                    · rw [if_pos h223] at H
                      refine at_cond_f rfl (not_ff (h223)) ?_
                      refine at_skip ?_
                      refine at_thn ?_
                      refine at_seq ?_
                      refine at_reg [] [9, 11, 12] (L2 := [(9, .pointer (some ⟨g92, 0, none⟩)), (11, .int .i64 b16.1), (12, .int .i64 1)]) (obs := []) (by kernel_rfl) ?_ ?_
                      · intro w hs; exact trivial
                      refine at_thn ?_
                      refine at_seq ?_
                      refine at_ops [0, 1, 2, 3] rfl ?_
                      refine at_seg [0, 1] [2, 3] rfl [(0, .agg #[.slice A88 b16.2.length c89, .int .i64 b7.At])] [11, 12, 82, 83] (L2 := [(11, .int .i64 b16.1), (12, .int .i64 1), (82, .agg #[.slice A88 b16.2.length c89, .int .i64 b7.At]), (83, .int .i64 1)]) (obs := [fun w => CellsAt w ⟨g92, 0, none⟩ [.slice A88 b16.2.length c89, .int .i64 b7.At] 0]) (by kernel_rfl) ?_ ?_
                      · intro w hs; exact cellsV (k := 10) hs rfl _ 0 (Nat.le_of_ble_eq_true (by kernel_rfl)) rfl
                      refine at_eff rfl rfl ?_
                      obtain ⟨b22, H224, H⟩ := bind_some H
                      refine eff_read rfl rfl (rv := .int .i64 b22) (Ms' := (s170 :: s213 :: s52 :: [(g215, .cells #[.slice A211 b20.Items.length c212, .int .i64 b20.At] 27 (0, 0))] :: s187 :: s197 :: s152 :: s143 :: s127 :: s109 :: [(g92, .cells #[.slice A88 b16.2.length c89, .int .i64 b7.At] 27 (0, 0))] :: [(g65, .cells #[.slice A61 b13.2.length c62, .int .i64 b5.At] 27 (0, 0))] :: [(g54, .cells #[.slice A50 b4.Items.length c51, .int .i64 b4.At] 27 (0, 0))] :: s26 :: s36 :: [(g9, .cells #[.slice A2 p1.Items.length c3, .int .i64 p1.At] 24 (0, 0))] :: Fs)) ok15 rfl rfl ?_ ?_
                      · refine Reads.lend (k := 5) rfl (fun J225 hJ226 hin227 => ?_)
                        have hm_ := laws_heldRing.calls (I0 := J225) H224 (ho171.rd hJ226 hin227)
                        exact Reads.of_meets (Mr := (s213 :: s52 :: [(g215, .cells #[.slice A211 b20.Items.length c212, .int .i64 b20.At] 27 (0, 0))] :: s187 :: s197 :: s152 :: s143 :: s127 :: s109 :: [(g92, .cells #[.slice A88 b16.2.length c89, .int .i64 b7.At] 27 (0, 0))] :: [(g65, .cells #[.slice A61 b13.2.length c62, .int .i64 b5.At] 27 (0, 0))] :: [(g54, .cells #[.slice A50 b4.Items.length c51, .int .i64 b4.At] 27 (0, 0))] :: s26 :: s36 :: [(g9, .cells #[.slice A2 p1.Items.length c3, .int .i64 p1.At] 24 (0, 0))] :: Fs)) (show Meets Try.prog 15 ([.agg #[.slice A88 b16.2.length c89, .int .i64 b7.At], .int .i64 1] : List Value).toArray J225 [] _ from hm_) (List.Perm.refl _)
                      refine at_seg [3] [] rfl [] [11, 12] (L2 := [(11, .int .i64 b16.1), (12, .int .i64 b22)]) (obs := []) (by kernel_rfl) ?_ ?_
                      · intro w hs; exact trivial
                      refine at_end ?_
                      refine at_thn ?_
                      refine at_seq ?_
                      refine at_seq ?_
                      refine at_reg [] [11, 12, 86] (L2 := [(11, .int .i64 b16.1), (12, .int .i64 b22), (86, .bool (decide (b22 < 0)))]) (obs := []) (by kernel_rfl) ?_ ?_
                      · intro w hs; exact trivial
                      refine at_thn ?_
                      by_cases h228 : b22 < 0
                      · rw [if_pos h228] at H
                        refine at_cond_t rfl (decide_eq_true h228) ?_
                        refine at_seq ?_
                        refine at_reg [] [4] (L2 := [(4, .bool false)]) (obs := []) (by kernel_rfl) ?_ ?_
                        · intro w hs; exact trivial
                        refine at_thn ?_
                        refine at_ret ?_
                        refine at_then_ret ?_
                        obtain rfl := Option.some.inj H
                        refine at_drop (k := 0) rfl rfl ?_
                        refine at_drop (k := 0) rfl rfl ?_
                        refine at_drop (k := 0) rfl rfl ?_
                        refine at_drop (k := 0) rfl rfl ?_
                        refine at_drop (k := 0) rfl rfl ?_
                        refine at_drop (k := 0) rfl rfl ?_
                        refine at_drop (k := 0) rfl rfl ?_
                        refine at_drop (k := 0) rfl rfl ?_
                        refine at_drop (k := 0) rfl rfl ?_
                        refine at_drop (k := 0) rfl rfl ?_
                        refine at_drop (k := 0) rfl rfl ?_
                        refine at_drop (k := 0) rfl rfl ?_
                        refine at_drop (k := 0) rfl rfl ?_
                        refine at_drop (k := 0) rfl rfl ?_
                        refine at_drop (k := 0) rfl rfl ?_
                        refine at_drop (k := 0) rfl rfl ?_
                        refine at_done (vs := [.bool false]) (obs := []) (.inl rfl) [.tmp 4] [] rfl (by kernel_rfl) (fun w hs => trivial) (fun w hs => ⟨_, _, [], rfl, ⟨rfl, rfl⟩, hle, hs⟩)
                      · rw [if_neg h228] at H
                        refine at_cond_f rfl (decide_eq_false h228) ?_
                        refine at_skip ?_
                        refine at_thn ?_
                        refine at_seq ?_
                        refine at_seq ?_
                        refine at_reg [] [89] (L2 := [(89, .bool (b22 != b16.1))]) (obs := []) (by kernel_rfl) ?_ ?_
                        · intro w hs; exact trivial
                        refine at_thn ?_
                        by_cases h229 : b22 = b16.1
                        · rw [if_pos h229] at H
                          refine at_cond_f rfl (bne_eq_false_iff_eq.2 h229) ?_
                          refine at_skip ?_
                          refine at_thn ?_
                          refine at_seq ?_
                          refine at_reg [] [4] (L2 := [(4, .bool true)]) (obs := []) (by kernel_rfl) ?_ ?_
                          · intro w hs; exact trivial
                          refine at_thn ?_
                          refine at_ret ?_
                          obtain rfl := Option.some.inj H
                          refine at_drop (k := 0) rfl rfl ?_
                          refine at_drop (k := 0) rfl rfl ?_
                          refine at_drop (k := 0) rfl rfl ?_
                          refine at_drop (k := 0) rfl rfl ?_
                          refine at_drop (k := 0) rfl rfl ?_
                          refine at_drop (k := 0) rfl rfl ?_
                          refine at_drop (k := 0) rfl rfl ?_
                          refine at_drop (k := 0) rfl rfl ?_
                          refine at_drop (k := 0) rfl rfl ?_
                          refine at_drop (k := 0) rfl rfl ?_
                          refine at_drop (k := 0) rfl rfl ?_
                          refine at_drop (k := 0) rfl rfl ?_
                          refine at_drop (k := 0) rfl rfl ?_
                          refine at_drop (k := 0) rfl rfl ?_
                          refine at_drop (k := 0) rfl rfl ?_
                          refine at_drop (k := 0) rfl rfl ?_
                          refine at_done (vs := [.bool true]) (obs := []) (.inl rfl) [.tmp 4] [] rfl (by kernel_rfl) (fun w hs => trivial) (fun w hs => ⟨_, _, [], rfl, ⟨rfl, rfl⟩, hle, hs⟩)
                        · rw [if_neg h229] at H
                          refine at_cond_t rfl (bne_iff_ne.2 h229) ?_
                          refine at_seq ?_
                          refine at_reg [] [4] (L2 := [(4, .bool false)]) (obs := []) (by kernel_rfl) ?_ ?_
                          · intro w hs; exact trivial
                          refine at_thn ?_
                          refine at_ret ?_
                          refine at_then_ret ?_
                          obtain rfl := Option.some.inj H
                          refine at_drop (k := 0) rfl rfl ?_
                          refine at_drop (k := 0) rfl rfl ?_
                          refine at_drop (k := 0) rfl rfl ?_
                          refine at_drop (k := 0) rfl rfl ?_
                          refine at_drop (k := 0) rfl rfl ?_
                          refine at_drop (k := 0) rfl rfl ?_
                          refine at_drop (k := 0) rfl rfl ?_
                          refine at_drop (k := 0) rfl rfl ?_
                          refine at_drop (k := 0) rfl rfl ?_
                          refine at_drop (k := 0) rfl rfl ?_
                          refine at_drop (k := 0) rfl rfl ?_
                          refine at_drop (k := 0) rfl rfl ?_
                          refine at_drop (k := 0) rfl rfl ?_
                          refine at_drop (k := 0) rfl rfl ?_
                          refine at_drop (k := 0) rfl rfl ?_
                          refine at_drop (k := 0) rfl rfl ?_
                          refine at_done (vs := [.bool false]) (obs := []) (.inl rfl) [.tmp 4] [] rfl (by kernel_rfl) (fun w hs => trivial) (fun w hs => ⟨_, _, [], rfl, ⟨rfl, rfl⟩, hle, hs⟩)
                    · rw [if_neg h223] at H
                      refine at_cond_t rfl (not_tt (ff_of h223)) ?_
                      refine at_seq ?_
                      refine at_reg [] [4] (L2 := [(4, .bool false)]) (obs := []) (by kernel_rfl) ?_ ?_
                      · intro w hs; exact trivial
                      refine at_thn ?_
                      refine at_ret ?_
                      refine at_then_ret ?_
                      obtain rfl := Option.some.inj H
                      refine at_drop (k := 0) rfl rfl ?_
                      refine at_drop (k := 0) rfl rfl ?_
                      refine at_drop (k := 0) rfl rfl ?_
                      refine at_drop (k := 0) rfl rfl ?_
                      refine at_drop (k := 0) rfl rfl ?_
                      refine at_drop (k := 0) rfl rfl ?_
                      refine at_drop (k := 0) rfl rfl ?_
                      refine at_drop (k := 0) rfl rfl ?_
                      refine at_drop (k := 0) rfl rfl ?_
                      refine at_drop (k := 0) rfl rfl ?_
                      refine at_drop (k := 0) rfl rfl ?_
                      refine at_drop (k := 0) rfl rfl ?_
                      refine at_drop (k := 0) rfl rfl ?_
                      refine at_drop (k := 0) rfl rfl ?_
                      refine at_drop (k := 0) rfl rfl ?_
                      refine at_drop (k := 0) rfl rfl ?_
                      refine at_done (vs := [.bool false]) (obs := []) (.inl rfl) [.tmp 4] [] rfl (by kernel_rfl) (fun w hs => trivial) (fun w hs => ⟨_, _, [], rfl, ⟨rfl, rfl⟩, hle, hs⟩)
                  · rw [if_neg h178] at H
                    refine at_cond_t rfl (bne_iff_ne.2 h178) ?_
                    refine at_seq ?_
                    refine at_reg [] [4] (L2 := [(4, .bool false)]) (obs := []) (by kernel_rfl) ?_ ?_
                    · intro w hs; exact trivial
                    refine at_thn ?_
                    refine at_ret ?_
                    refine at_then_ret ?_
                    obtain rfl := Option.some.inj H
                    refine at_drop (k := 0) rfl rfl ?_
                    refine at_drop (k := 0) rfl rfl ?_
                    refine at_drop (k := 0) rfl rfl ?_
                    refine at_drop (k := 0) rfl rfl ?_
                    refine at_drop (k := 0) rfl rfl ?_
                    refine at_drop (k := 0) rfl rfl ?_
                    refine at_drop (k := 0) rfl rfl ?_
                    refine at_drop (k := 0) rfl rfl ?_
                    refine at_drop (k := 0) rfl rfl ?_
                    refine at_drop (k := 0) rfl rfl ?_
                    refine at_drop (k := 0) rfl rfl ?_
                    refine at_drop (k := 0) rfl rfl ?_
                    refine at_done (vs := [.bool false]) (obs := []) (.inl rfl) [.tmp 4] [] rfl (by kernel_rfl) (fun w hs => trivial) (fun w hs => ⟨_, _, [], rfl, ⟨rfl, rfl⟩, hle, hs⟩)
              · rw [if_neg h163] at H
                refine at_cond_t rfl (not_tt (ff_of h163)) ?_
                refine at_seq ?_
                refine at_reg [] [4] (L2 := [(4, .bool false)]) (obs := []) (by kernel_rfl) ?_ ?_
                · intro w hs; exact trivial
                refine at_thn ?_
                refine at_ret ?_
                refine at_then_ret ?_
                obtain rfl := Option.some.inj H
                refine at_drop (k := 0) rfl rfl ?_
                refine at_drop (k := 0) rfl rfl ?_
                refine at_drop (k := 0) rfl rfl ?_
                refine at_drop (k := 0) rfl rfl ?_
                refine at_drop (k := 0) rfl rfl ?_
                refine at_drop (k := 0) rfl rfl ?_
                refine at_drop (k := 0) rfl rfl ?_
                refine at_drop (k := 0) rfl rfl ?_
                refine at_drop (k := 0) rfl rfl ?_
                refine at_drop (k := 0) rfl rfl ?_
                refine at_drop (k := 0) rfl rfl ?_
                refine at_drop (k := 0) rfl rfl ?_
                refine at_done (vs := [.bool false]) (obs := []) (.inl rfl) [.tmp 4] [] rfl (by kernel_rfl) (fun w hs => trivial) (fun w hs => ⟨_, _, [], rfl, ⟨rfl, rfl⟩, hle, hs⟩)
          · rw [if_neg h136] at H
            refine at_cond_t rfl (not_tt (ff_of h136)) ?_
            refine at_seq ?_
            refine at_reg [] [4] (L2 := [(4, .bool false)]) (obs := []) (by kernel_rfl) ?_ ?_
            · intro w hs; exact trivial
            refine at_thn ?_
            refine at_ret ?_
            refine at_then_ret ?_
            obtain rfl := Option.some.inj H
            refine at_drop (k := 0) rfl rfl ?_
            refine at_drop (k := 0) rfl rfl ?_
            refine at_drop (k := 0) rfl rfl ?_
            refine at_drop (k := 0) rfl rfl ?_
            refine at_drop (k := 0) rfl rfl ?_
            refine at_drop (k := 0) rfl rfl ?_
            refine at_drop (k := 0) rfl rfl ?_
            refine at_drop (k := 0) rfl rfl ?_
            refine at_drop (k := 0) rfl rfl ?_
            refine at_drop (k := 0) rfl rfl ?_
            refine at_drop (k := 0) rfl rfl ?_
            refine at_drop (k := 0) rfl rfl ?_
            refine at_done (vs := [.bool false]) (obs := []) (.inl rfl) [.tmp 4] [] rfl (by kernel_rfl) (fun w hs => trivial) (fun w hs => ⟨_, _, [], rfl, ⟨rfl, rfl⟩, hle, hs⟩)
        · rw [if_neg h118] at H
          refine at_cond_t rfl (not_tt (ff_of h118)) ?_
          refine at_seq ?_
          refine at_reg [] [4] (L2 := [(4, .bool false)]) (obs := []) (by kernel_rfl) ?_ ?_
          · intro w hs; exact trivial
          refine at_thn ?_
          refine at_ret ?_
          refine at_then_ret ?_
          obtain rfl := Option.some.inj H
          refine at_drop (k := 0) rfl rfl ?_
          refine at_drop (k := 0) rfl rfl ?_
          refine at_drop (k := 0) rfl rfl ?_
          refine at_drop (k := 0) rfl rfl ?_
          refine at_drop (k := 0) rfl rfl ?_
          refine at_drop (k := 0) rfl rfl ?_
          refine at_drop (k := 0) rfl rfl ?_
          refine at_drop (k := 0) rfl rfl ?_
          refine at_drop (k := 0) rfl rfl ?_
          refine at_drop (k := 0) rfl rfl ?_
          refine at_drop (k := 0) rfl rfl ?_
          refine at_done (vs := [.bool false]) (obs := []) (.inl rfl) [.tmp 4] [] rfl (by kernel_rfl) (fun w hs => trivial) (fun w hs => ⟨_, _, [], rfl, ⟨rfl, rfl⟩, hle, hs⟩)
      · rw [if_neg h100] at H
        refine at_cond_t rfl (not_tt (ff_of h100)) ?_
        refine at_seq ?_
        refine at_reg [] [4] (L2 := [(4, .bool false)]) (obs := []) (by kernel_rfl) ?_ ?_
        · intro w hs; exact trivial
        refine at_thn ?_
        refine at_ret ?_
        refine at_then_ret ?_
        obtain rfl := Option.some.inj H
        refine at_drop (k := 0) rfl rfl ?_
        refine at_drop (k := 0) rfl rfl ?_
        refine at_drop (k := 0) rfl rfl ?_
        refine at_drop (k := 0) rfl rfl ?_
        refine at_drop (k := 0) rfl rfl ?_
        refine at_drop (k := 0) rfl rfl ?_
        refine at_drop (k := 0) rfl rfl ?_
        refine at_drop (k := 0) rfl rfl ?_
        refine at_drop (k := 0) rfl rfl ?_
        refine at_drop (k := 0) rfl rfl ?_
        refine at_done (vs := [.bool false]) (obs := []) (.inl rfl) [.tmp 4] [] rfl (by kernel_rfl) (fun w hs => trivial) (fun w hs => ⟨_, _, [], rfl, ⟨rfl, rfl⟩, hle, hs⟩)
end Go.Proofs.Ytabdhegmepaeiaa
