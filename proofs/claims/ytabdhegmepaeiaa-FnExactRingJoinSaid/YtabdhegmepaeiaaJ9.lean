import Derived.Test.YtabdhegmepaeiaaJ8
namespace Go.Proofs.Ytabdhegmepaeiaa
open Go Eng
set_option linter.unusedVariables false
set_option linter.unusedSimpArgs false
/-! ### loop.example/g00146/laws.FnExactRingJoin: function 5 -/
def laws_FnExactRingJoin (k : Nat) (p1 : T_laws_Ring) (p5 : List Int) (p9 : Bool) : Option Bool := if (p5.length : Int) > 1048576 then (some true) else ((laws_szRing k p1 1048576).bind fun b1 => (if b1 < 0 then (some true) else ((laws_toRing k p1).bind fun b2 => ((laws_toInt64S k p5).bind fun b3 => ((spec_RingJoin k b2 b3 p9).bind fun b4 => ((laws_toRing k p1).bind fun b5 => ((laws_toInt64S k p5).bind fun b6 => ((impl_RingJoin k b5 b6 p9).bind fun b7 => ((laws_eqRing k b7 b4).bind fun b8 => (if b8 = true then ((laws_toRing k p1).bind fun b9 => ((laws_eqRing k b5 b9).bind fun b10 => (if b10 = true then ((laws_toInt64S k p5).bind fun b11 => ((laws_eqInt64S k b6 b11).bind fun b12 => (if b12 = true then ((laws_markRing k b5 1).bind fun b13 => ((laws_markInt64S k b6 b13.1).bind fun b14 => (if b14.1 < 0 then (some false) else ((laws_eqRing k b7 b4).bind fun b15 => (if b15 = true then ((laws_markRing k b7 1).bind fun b16 => ((laws_heldRing k (⟨b16.2, b7.At⟩ : T_impl_Ring) 1).bind fun b17 => (if b17 < 0 then (some false) else (if b17 = b16.1 then ((laws_toRing k p1).bind fun b18 => ((laws_toInt64S k p5).bind fun b19 => ((impl_RingJoin k b18 b19 p9).bind fun b20 => ((laws_eqRing k b20 b4).bind fun b21 => (if b21 = true then ((laws_heldRing k (⟨b16.2, b7.At⟩ : T_impl_Ring) 1).bind fun b22 => (if b22 < 0 then (some false) else (if b22 = b16.1 then (some true) else (some false)))) else (some false)))))) else (some false))))) else (some false)))))) else (some false)))) else (some false)))) else (some false)))))))))))
set_option maxHeartbeats 4000000 in
set_option maxRecDepth 100000 in
theorem laws_FnExactRingJoin.calls {k : Nat} {p1 : T_laws_Ring} {p5 : List Int} {p9 : Bool} {r : Bool} {I0 : Imm} {A2 : Option Addr} {c3 : Nat} {A6 : Option Addr} {c7 : Nat} (H : laws_FnExactRingJoin k p1 p5 p9 = some r) (hr4 : Rd (Kd.slice (Kd.int .i64)) I0 A2 c3 p1.Items) (hr8 : Rd (Kd.int .i64) I0 A6 c7 p5) :
    Meets Try.prog 5 ([.agg #[.slice A2 p1.Items.length c3, .int .i64 p1.At], .slice A6 p5.length c7, .bool p9] : List Value).toArray I0 [] (fun v J M => v = .bool r ∧ M = []) := by
  have hle := ImmLe.refl I0
  unfold laws_FnExactRingJoin at H
  refine fn_intro (fn := Try.f5) 95 Try.func5 rfl rfl rfl (fun E Fs => ?_)
  refine at_seq ?_
  refine at_ops [0, 1] rfl ?_
  refine at_eff rfl rfl ?_
  refine eff_box rfl rfl rfl #[.slice A2 p1.Items.length c3, .int .i64 p1.At] rfl (fun g10 => ?_)
  refine at_seg [1] [] rfl [] [1, 2, 3] (L2 := [(1, .slice A6 p5.length c7), (2, .bool p9), (3, .pointer (some ⟨g10, 0, none⟩))]) (obs := []) (by kernel_rfl) ?_ ?_
  · intro w hs; exact trivial
  refine at_end ?_
  refine at_thn ?_
  refine at_seq ?_
  refine at_seq ?_
  refine at_reg [] [1, 2, 3, 18] (L2 := [(1, .slice A6 p5.length c7), (2, .bool p9), (3, .pointer (some ⟨g10, 0, none⟩)), (18, .bool (decide ((p5.length : Int) > 1048576)))]) (obs := []) (by kernel_rfl) ?_ ?_
  · intro w hs; exact trivial
  refine at_thn ?_
  by_cases h11 : (p5.length : Int) > 1048576
  · rw [if_pos h11] at H
    refine at_cond_t rfl (decide_eq_true h11) ?_
    refine at_seq ?_
    refine at_reg [] [6] (L2 := [(6, .bool true)]) (obs := []) (by kernel_rfl) ?_ ?_
    · intro w hs; exact trivial
    refine at_thn ?_
    refine at_ret ?_
    refine at_then_ret ?_
    obtain rfl := Option.some.inj H
    refine at_drop (k := 0) rfl rfl ?_
    refine at_done (vs := [.bool true]) (obs := []) (.inl rfl) [.tmp 6] [] rfl (by kernel_rfl) (fun w hs => trivial) (fun w hs => ⟨_, _, [], rfl, ⟨rfl, rfl⟩, hle, hs⟩)
  · rw [if_neg h11] at H
    refine at_cond_f rfl (decide_eq_false h11) ?_
    refine at_skip ?_
    refine at_thn ?_
    refine at_seq ?_
    refine at_reg [] [1, 2, 3, 7] (L2 := [(1, .slice A6 p5.length c7), (2, .bool p9), (3, .pointer (some ⟨g10, 0, none⟩)), (7, .int .i64 1048576)]) (obs := []) (by kernel_rfl) ?_ ?_
    · intro w hs; exact trivial
    refine at_thn ?_
    refine at_seq ?_
    refine at_ops [0, 1, 2, 3] rfl ?_
    refine at_seg [0, 1] [2, 3] rfl [(0, .agg #[.slice A2 p1.Items.length c3, .int .i64 p1.At])] [1, 2, 3, 7, 19, 20] (L2 := [(1, .slice A6 p5.length c7), (2, .bool p9), (3, .pointer (some ⟨g10, 0, none⟩)), (7, .int .i64 1048576), (19, .agg #[.slice A2 p1.Items.length c3, .int .i64 p1.At]), (20, .int .i64 1048576)]) (obs := [fun w => CellsAt w ⟨g10, 0, none⟩ [.slice A2 p1.Items.length c3, .int .i64 p1.At] 0]) (by kernel_rfl) ?_ ?_
    · intro w hs; exact cellsV (k := 0) hs rfl _ 0 (Nat.le_of_ble_eq_true (by kernel_rfl)) rfl
    refine at_eff rfl rfl ?_
    obtain ⟨b1, H12, H⟩ := bind_some H
    have hm_ := laws_szRing.calls (I0 := I0) H12 hr4
    refine eff_call rfl rfl ok6 rfl rfl (show Meets Try.prog 6 ([.agg #[.slice A2 p1.Items.length c3, .int .i64 p1.At], .int .i64 1048576] : List Value).toArray _ [] _ from hm_) (Mr := ([(g10, .cells #[.slice A2 p1.Items.length c3, .int .i64 p1.At] 24 (0, 0))] :: Fs)) (List.Perm.refl _) (fun v13 J14 M15 hq16 hJ17 => ?_)
    replace hle := hle.trans hJ17
    replace hr4 := hr4.mono hJ17
    replace hr8 := hr8.mono hJ17
    obtain ⟨rfl, rfl⟩ := hq16
    refine at_seg [3] [] rfl [] [1, 2, 3, 7] (L2 := [(1, .slice A6 p5.length c7), (2, .bool p9), (3, .pointer (some ⟨g10, 0, none⟩)), (7, .int .i64 b1)]) (obs := []) (by kernel_rfl) ?_ ?_
    · intro w hs; exact trivial
    refine at_end ?_
    refine at_thn ?_
    refine at_seq ?_
    refine at_seq ?_
    refine at_reg [] [1, 2, 3, 23] (L2 := [(1, .slice A6 p5.length c7), (2, .bool p9), (3, .pointer (some ⟨g10, 0, none⟩)), (23, .bool (decide (b1 < 0)))]) (obs := []) (by kernel_rfl) ?_ ?_
    · intro w hs; exact trivial
    refine at_thn ?_
    by_cases h18 : b1 < 0
    · rw [if_pos h18] at H
      refine at_cond_t rfl (decide_eq_true h18) ?_
      refine at_seq ?_
      refine at_reg [] [6] (L2 := [(6, .bool true)]) (obs := []) (by kernel_rfl) ?_ ?_
      · intro w hs; exact trivial
      refine at_thn ?_
      refine at_ret ?_
      refine at_then_ret ?_
      obtain rfl := Option.some.inj H
      refine at_drop (k := 0) rfl rfl ?_
      refine at_done (vs := [.bool true]) (obs := []) (.inl rfl) [.tmp 6] [] rfl (by kernel_rfl) (fun w hs => trivial) (fun w hs => ⟨_, _, [], rfl, ⟨rfl, rfl⟩, hle, hs⟩)
    · rw [if_neg h18] at H
      refine at_cond_f rfl (decide_eq_false h18) ?_
      refine at_skip ?_
      refine at_thn ?_
      refine at_seq ?_
      refine at_ops [0, 1, 2, 3, 4, 5, 6, 7] rfl ?_
      refine at_seg [0] [1, 2, 3, 4, 5, 6, 7] rfl [(0, .agg #[.slice A2 p1.Items.length c3, .int .i64 p1.At])] [1, 2, 3, 24] (L2 := [(1, .slice A6 p5.length c7), (2, .bool p9), (3, .pointer (some ⟨g10, 0, none⟩)), (24, .agg #[.slice A2 p1.Items.length c3, .int .i64 p1.At])]) (obs := [fun w => CellsAt w ⟨g10, 0, none⟩ [.slice A2 p1.Items.length c3, .int .i64 p1.At] 0]) (by kernel_rfl) ?_ ?_
      · intro w hs; exact cellsV (k := 0) hs rfl _ 0 (Nat.le_of_ble_eq_true (by kernel_rfl)) rfl
      refine at_eff rfl rfl ?_
      obtain ⟨b2, H19, H⟩ := bind_some H
      have hm_ := laws_toRing.calls (I0 := J14) H19 hr4
      refine eff_call rfl rfl ok8 rfl rfl (show Meets Try.prog 8 ([.agg #[.slice A2 p1.Items.length c3, .int .i64 p1.At]] : List Value).toArray _ [] _ from hm_) (Mr := ([(g10, .cells #[.slice A2 p1.Items.length c3, .int .i64 p1.At] 24 (0, 0))] :: Fs)) (List.Perm.refl _) (fun v20 J21 M22 hq23 hJ24 => ?_)
      replace hle := hle.trans hJ24
      replace hr4 := hr4.mono hJ24
      replace hr8 := hr8.mono hJ24
      obtain ⟨A25, c26, s27, rfl, rfl, ho28⟩ := hq23
      refine at_seg [2] [3, 4, 5, 6, 7] rfl [] [1, 2, 3, 25, 26] (L2 := [(1, .slice A6 p5.length c7), (2, .bool p9), (3, .pointer (some ⟨g10, 0, none⟩)), (25, .agg #[.slice A25 b2.Items.length c26, .int .i64 b2.At]), (26, .slice A6 p5.length c7)]) (obs := []) (by kernel_rfl) ?_ ?_
      · intro w hs; exact trivial
      refine at_eff rfl rfl ?_
      obtain ⟨b3, H29, H⟩ := bind_some H
      have hm_ := laws_toInt64S.calls (I0 := J21) H29 hr8
      refine eff_call rfl rfl ok9 rfl rfl (show Meets Try.prog 9 ([.slice A6 p5.length c7] : List Value).toArray _ [] _ from hm_) (Mr := (s27 :: [(g10, .cells #[.slice A2 p1.Items.length c3, .int .i64 p1.At] 24 (0, 0))] :: Fs)) (List.Perm.refl _) (fun v30 J31 M32 hq33 hJ34 => ?_)
      replace hle := hle.trans hJ34
      replace ho28 := ho28.mono hJ34
      replace hr4 := hr4.mono hJ34
      replace hr8 := hr8.mono hJ34
      obtain ⟨A35, c36, s37, rfl, rfl, ho38⟩ := hq33
      refine at_seg [4] [5, 6, 7] rfl [] [1, 2, 3, 25, 27, 28] (L2 := [(1, .slice A6 p5.length c7), (2, .bool p9), (3, .pointer (some ⟨g10, 0, none⟩)), (25, .agg #[.slice A25 b2.Items.length c26, .int .i64 b2.At]), (27, .slice A35 b3.length c36), (28, .bool p9)]) (obs := []) (by kernel_rfl) ?_ ?_
      · intro w hs; exact trivial
      refine at_eff rfl rfl ?_
      obtain ⟨b4, H39, H⟩ := bind_some H
      refine eff_lend rfl rfl (post := fun v M => ∃ (A_1 : Option Addr) (c_2 : Nat) (s_3 : Seg), v = .agg #[.slice A_1 b4.Items.length c_2, .int .i64 b4.At] ∧ M = [s_3] ∧ DOwn (DK.sl (Kd.int .i64) 2) 25 J31 A_1 c_2 b4.Items s_3) (lent := [s27, s37]) (Mr := ([(g10, .cells #[.slice A2 p1.Items.length c3, .int .i64 p1.At] 24 (0, 0))] :: Fs)) ok25 rfl rfl ?_ (fun v40 M42 hq43 => ?_)
      · refine Lends.lend (k := 1) rfl (fun J45 hJ46 hin47 => ?_)
        refine Lends.lend (k := 0) rfl (fun J48 hJ49 hin50 => ?_)
        have hm_ := spec_RingJoin.calls (I0 := J48) H39 (ho28.rd (hJ46.trans hJ49) (hin47.mono hJ49)) (ho38.rd (hJ46.trans hJ49) hin50)
        exact Lends.of_meets (Mc := []) (show Meets Try.prog 25 ([.agg #[.slice A25 b2.Items.length c26, .int .i64 b2.At], .slice A35 b3.length c36, .bool p9] : List Value).toArray J48 [] _ from hm_) (fun v J M h_ => by obtain ⟨a0_, a1_, a2_, e1_, e2_, h0_⟩ := h_; exact ⟨a0_, a1_, a2_, e1_, e2_, h0_.flat (fun h => h)⟩) (List.Perm.refl _)
      obtain ⟨A51, c52, s53, rfl, rfl, ho54⟩ := hq43
      refine at_eff rfl rfl ?_
      obtain ⟨i_, hi_, hz_, _, _⟩ := info27
      refine eff_alloc rfl rfl hi_ hz_ #[.slice none ([] : List (List Int)).length 0, .int .i64 0] rfl (fun g55 => ?_)
      refine at_eff rfl rfl ?_
      refine eff_store 0 rfl rfl rfl rfl rfl rfl (.inl (Nat.le_refl _)) rfl (Nat.le_of_ble_eq_true (by kernel_rfl)) rfl ?_
      refine at_end ?_
      refine at_thn ?_
      refine at_seq ?_
      refine at_ops [0, 1, 2, 3] rfl ?_
      refine at_seg [0] [1, 2, 3] rfl [(0, .agg #[.slice A2 p1.Items.length c3, .int .i64 p1.At])] [1, 2, 3, 8, 30] (L2 := [(1, .slice A6 p5.length c7), (2, .bool p9), (3, .pointer (some ⟨g10, 0, none⟩)), (8, .pointer (some ⟨g55, 0, none⟩)), (30, .agg #[.slice A2 p1.Items.length c3, .int .i64 p1.At])]) (obs := [fun w => CellsAt w ⟨g10, 0, none⟩ [.slice A2 p1.Items.length c3, .int .i64 p1.At] 0]) (by kernel_rfl) ?_ ?_
      · intro w hs; exact cellsV (k := 4) hs rfl _ 0 (Nat.le_of_ble_eq_true (by kernel_rfl)) rfl
      refine at_eff rfl rfl ?_
      obtain ⟨b5, H56, H⟩ := bind_some H
      have hm_ := laws_toRing.calls (I0 := J31) H56 hr4
      refine eff_call rfl rfl ok8 rfl rfl (show Meets Try.prog 8 ([.agg #[.slice A2 p1.Items.length c3, .int .i64 p1.At]] : List Value).toArray _ [] _ from hm_) (Mr := ([(g55, .cells #[.slice A51 b4.Items.length c52, .int .i64 b4.At] 27 (0, 0))] :: s27 :: s37 :: s53 :: [(g10, .cells #[.slice A2 p1.Items.length c3, .int .i64 p1.At] 24 (0, 0))] :: Fs)) (List.Perm.refl _) (fun v57 J58 M59 hq60 hJ61 => ?_)
      replace hle := hle.trans hJ61
      replace ho54 := ho54.mono hJ61
      replace hr4 := hr4.mono hJ61
      replace hr8 := hr8.mono hJ61
      obtain ⟨A62, c63, s64, rfl, rfl, ho65⟩ := hq60
      refine at_eff rfl rfl ?_
      obtain ⟨i_, hi_, hz_, _, _⟩ := info27
      refine eff_alloc rfl rfl hi_ hz_ #[.slice none ([] : List (List Int)).length 0, .int .i64 0] rfl (fun g66 => ?_)
      refine at_eff rfl rfl ?_
      refine eff_store 0 rfl rfl rfl rfl rfl rfl (.inl (Nat.le_refl _)) rfl (Nat.le_of_ble_eq_true (by kernel_rfl)) rfl ?_
      refine at_end ?_
      refine at_thn ?_
      refine at_seq ?_
      refine at_ops [0, 1, 2] rfl ?_
      refine at_seg [0] [1, 2] rfl [] [1, 2, 3, 8, 9, 32] (L2 := [(1, .slice A6 p5.length c7), (2, .bool p9), (3, .pointer (some ⟨g10, 0, none⟩)), (8, .pointer (some ⟨g55, 0, none⟩)), (9, .pointer (some ⟨g66, 0, none⟩)), (32, .slice A6 p5.length c7)]) (obs := []) (by kernel_rfl) ?_ ?_
      · intro w hs; exact trivial
      refine at_eff rfl rfl ?_
      obtain ⟨b6, H67, H⟩ := bind_some H
      have hm_ := laws_toInt64S.calls (I0 := J58) H67 hr8
      refine eff_call rfl rfl ok9 rfl rfl (show Meets Try.prog 9 ([.slice A6 p5.length c7] : List Value).toArray _ [] _ from hm_) (Mr := ([(g66, .cells #[.slice A62 b5.Items.length c63, .int .i64 b5.At] 27 (0, 0))] :: s64 :: [(g55, .cells #[.slice A51 b4.Items.length c52, .int .i64 b4.At] 27 (0, 0))] :: s27 :: s37 :: s53 :: [(g10, .cells #[.slice A2 p1.Items.length c3, .int .i64 p1.At] 24 (0, 0))] :: Fs)) (List.Perm.refl _) (fun v68 J69 M70 hq71 hJ72 => ?_)
      replace hle := hle.trans hJ72
      replace ho54 := ho54.mono hJ72
      replace ho65 := ho65.mono hJ72
      replace hr4 := hr4.mono hJ72
      replace hr8 := hr8.mono hJ72
      obtain ⟨A73, c74, s75, rfl, rfl, ho76⟩ := hq71
      refine at_seg [2] [] rfl [] [1, 2, 3, 8, 9, 10] (L2 := [(1, .slice A6 p5.length c7), (2, .bool p9), (3, .pointer (some ⟨g10, 0, none⟩)), (8, .pointer (some ⟨g55, 0, none⟩)), (9, .pointer (some ⟨g66, 0, none⟩)), (10, .slice A73 b6.length c74)]) (obs := []) (by kernel_rfl) ?_ ?_
      · intro w hs; exact trivial
      refine at_end ?_
      refine at_thn ?_
      refine at_seq ?_
      refine at_ops [0, 1, 2, 3, 4, 5] rfl ?_
      refine at_seg [0, 1, 2] [3, 4, 5] rfl [(0, .agg #[.slice A62 b5.Items.length c63, .int .i64 b5.At])] [1, 2, 3, 8, 9, 10, 34, 35, 36] (L2 := [(1, .slice A6 p5.length c7), (2, .bool p9), (3, .pointer (some ⟨g10, 0, none⟩)), (8, .pointer (some ⟨g55, 0, none⟩)), (9, .pointer (some ⟨g66, 0, none⟩)), (10, .slice A73 b6.length c74), (34, .agg #[.slice A62 b5.Items.length c63, .int .i64 b5.At]), (35, .slice A73 b6.length c74), (36, .bool p9)]) (obs := [fun w => CellsAt w ⟨g66, 0, none⟩ [.slice A62 b5.Items.length c63, .int .i64 b5.At] 0]) (by kernel_rfl) ?_ ?_
      · intro w hs; exact cellsV (k := 1) hs rfl _ 0 (Nat.le_of_ble_eq_true (by kernel_rfl)) rfl
      refine at_eff rfl rfl ?_
      obtain ⟨b7, H77, H⟩ := bind_some H
      refine eff_lend rfl rfl (post := fun v M => ∃ (A_1 : Option Addr) (c_2 : Nat) (s_3 : Seg), v = .agg #[.slice A_1 b7.Items.length c_2, .int .i64 b7.At] ∧ M = [s_3] ∧ DOwn (DK.sl (Kd.int .i64) 2) 25 J69 A_1 c_2 b7.Items s_3) (lent := [s64, s75]) (Mr := ([(g66, .cells #[.slice A62 b5.Items.length c63, .int .i64 b5.At] 27 (0, 0))] :: [(g55, .cells #[.slice A51 b4.Items.length c52, .int .i64 b4.At] 27 (0, 0))] :: s27 :: s37 :: s53 :: [(g10, .cells #[.slice A2 p1.Items.length c3, .int .i64 p1.At] 24 (0, 0))] :: Fs)) ok26 rfl rfl ?_ (fun v78 M80 hq81 => ?_)
      · refine Lends.lend (k := 2) rfl (fun J83 hJ84 hin85 => ?_)
        refine Lends.lend (k := 0) rfl (fun J86 hJ87 hin88 => ?_)
        have hm_ := impl_RingJoin.calls (I0 := J86) H77 (ho65.rd (hJ84.trans hJ87) (hin85.mono hJ87)) (ho76.rd (hJ84.trans hJ87) hin88)
        exact Lends.of_meets (Mc := []) (show Meets Try.prog 26 ([.agg #[.slice A62 b5.Items.length c63, .int .i64 b5.At], .slice A73 b6.length c74, .bool p9] : List Value).toArray J86 [] _ from hm_) (fun v J M h_ => by obtain ⟨a0_, a1_, a2_, e1_, e2_, h0_⟩ := h_; exact ⟨a0_, a1_, a2_, e1_, e2_, h0_.flat (fun h => h)⟩) (List.Perm.refl _)
      obtain ⟨A89, c90, s91, rfl, rfl, ho92⟩ := hq81
      refine at_eff rfl rfl ?_
      obtain ⟨i_, hi_, hz_, _, _⟩ := info27
      refine eff_alloc rfl rfl hi_ hz_ #[.slice none ([] : List (List Int)).length 0, .int .i64 0] rfl (fun g93 => ?_)
      refine at_eff rfl rfl ?_
      refine eff_store 0 rfl rfl rfl rfl rfl rfl (.inl (Nat.le_refl _)) rfl (Nat.le_of_ble_eq_true (by kernel_rfl)) rfl ?_
      refine at_end ?_
      refine at_thn ?_
      refine at_seq ?_
      refine at_seq ?_
      refine at_ops [0, 1, 2, 3] rfl ?_
      refine at_seg [0, 1] [2, 3] rfl [(0, .agg #[.slice A89 b7.Items.length c90, .int .i64 b7.At]), (1, .agg #[.slice A51 b4.Items.length c52, .int .i64 b4.At])] [1, 2, 3, 8, 9, 10, 11, 38, 39] (L2 := [(1, .slice A6 p5.length c7), (2, .bool p9), (3, .pointer (some ⟨g10, 0, none⟩)), (8, .pointer (some ⟨g55, 0, none⟩)), (9, .pointer (some ⟨g66, 0, none⟩)), (10, .slice A73 b6.length c74), (11, .pointer (some ⟨g93, 0, none⟩)), (38, .agg #[.slice A89 b7.Items.length c90, .int .i64 b7.At]), (39, .agg #[.slice A51 b4.Items.length c52, .int .i64 b4.At])]) (obs := [fun w => CellsAt w ⟨g93, 0, none⟩ [.slice A89 b7.Items.length c90, .int .i64 b7.At] 0, fun w => CellsAt w ⟨g55, 0, none⟩ [.slice A51 b4.Items.length c52, .int .i64 b4.At] 0]) (by kernel_rfl) ?_ ?_
      · intro w hs; exact ⟨cellsV (k := 0) hs rfl _ 0 (Nat.le_of_ble_eq_true (by kernel_rfl)) rfl, cellsV (k := 5) hs rfl _ 0 (Nat.le_of_ble_eq_true (by kernel_rfl)) rfl⟩
      refine at_eff rfl rfl ?_
      obtain ⟨b8, H94, H⟩ := bind_some H
      refine eff_read rfl rfl (rv := .bool b8) (Ms' := (s91 :: s53 :: [(g93, .cells #[.slice A89 b7.Items.length c90, .int .i64 b7.At] 27 (0, 0))] :: s64 :: s75 :: [(g66, .cells #[.slice A62 b5.Items.length c63, .int .i64 b5.At] 27 (0, 0))] :: [(g55, .cells #[.slice A51 b4.Items.length c52, .int .i64 b4.At] 27 (0, 0))] :: s27 :: s37 :: [(g10, .cells #[.slice A2 p1.Items.length c3, .int .i64 p1.At] 24 (0, 0))] :: Fs)) ok11 rfl rfl ?_ ?_
      · refine Reads.lend (k := 3) rfl (fun J95 hJ96 hin97 => ?_)
        refine Reads.lend (k := 7) rfl (fun J98 hJ99 hin100 => ?_)
        have hm_ := laws_eqRing.calls (I0 := J98) H94 (ho92.rd (hJ96.trans hJ99) (hin97.mono hJ99)) (ho54.rd (hJ96.trans hJ99) hin100)
        exact Reads.of_meets (Mr := ([(g93, .cells #[.slice A89 b7.Items.length c90, .int .i64 b7.At] 27 (0, 0))] :: s64 :: s75 :: [(g66, .cells #[.slice A62 b5.Items.length c63, .int .i64 b5.At] 27 (0, 0))] :: [(g55, .cells #[.slice A51 b4.Items.length c52, .int .i64 b4.At] 27 (0, 0))] :: s27 :: s37 :: [(g10, .cells #[.slice A2 p1.Items.length c3, .int .i64 p1.At] 24 (0, 0))] :: Fs)) (show Meets Try.prog 11 ([.agg #[.slice A89 b7.Items.length c90, .int .i64 b7.At], .agg #[.slice A51 b4.Items.length c52, .int .i64 b4.At]] : List Value).toArray J98 [] _ from hm_) (List.Perm.refl _)
      refine at_seg [3] [] rfl [] [1, 2, 3, 8, 9, 10, 11, 41] (L2 := [(1, .slice A6 p5.length c7), (2, .bool p9), (3, .pointer (some ⟨g10, 0, none⟩)), (8, .pointer (some ⟨g55, 0, none⟩)), (9, .pointer (some ⟨g66, 0, none⟩)), (10, .slice A73 b6.length c74), (11, .pointer (some ⟨g93, 0, none⟩)), (41, .bool (!b8))]) (obs := []) (by kernel_rfl) ?_ ?_
      · intro w hs; exact trivial
      refine at_end ?_
      refine at_thn ?_
      by_cases h101 : b8 = true
      · rw [if_pos h101] at H
        refine at_cond_f rfl (not_ff (h101)) ?_
        refine at_skip ?_
        refine at_thn ?_
        refine at_seq ?_
        refine at_seq ?_
        refine at_x hmo (fun w => CellsAt w ⟨g66, 0, none⟩ [.slice A62 b5.Items.length c63, .int .i64 b5.At] 0 ∧ CellsAt w ⟨g10, 0, none⟩ [.slice A2 p1.Items.length c3, .int .i64 p1.At] 0) [] ?_
        refine at_xseg [0, 1] 3 (#[true, true, false, false, false]) rfl (by kernel_rfl) [(0, .agg #[.slice A62 b5.Items.length c63, .int .i64 b5.At]), (1, .agg #[.slice A2 p1.Items.length c3, .int .i64 p1.At])] [1, 2, 3, 8, 9, 10, 11, 42, 43] (L2 := [(1, .slice A6 p5.length c7), (2, .bool p9), (3, .pointer (some ⟨g10, 0, none⟩)), (8, .pointer (some ⟨g55, 0, none⟩)), (9, .pointer (some ⟨g66, 0, none⟩)), (10, .slice A73 b6.length c74), (11, .pointer (some ⟨g93, 0, none⟩)), (42, .agg #[.slice A62 b5.Items.length c63, .int .i64 b5.At]), (43, .agg #[.slice A2 p1.Items.length c3, .int .i64 p1.At])]) (obs := [fun w => CellsAt w ⟨g66, 0, none⟩ [.slice A62 b5.Items.length c63, .int .i64 b5.At] 0, fun w => CellsAt w ⟨g10, 0, none⟩ [.slice A2 p1.Items.length c3, .int .i64 p1.At] 0]) (by kernel_rfl) (by kernel_rfl) (by kernel_rfl) (.inr fun w hs => ⟨cellsV (k := 5) hs rfl _ 0 (Nat.le_of_ble_eq_true (by kernel_rfl)) rfl, cellsV (k := 9) hs rfl _ 0 (Nat.le_of_ble_eq_true (by kernel_rfl)) rfl⟩) (fun w hS => ⟨hS.1, hS.2⟩) (fun w hs => ⟨cellsV (k := 5) hs rfl _ 0 (Nat.le_of_ble_eq_true (by kernel_rfl)) rfl, cellsV (k := 9) hs rfl _ 0 (Nat.le_of_ble_eq_true (by kernel_rfl)) rfl⟩) ?_
        refine at_x1 2 2 (#[true, true, true, false, false]) rfl (by kernel_rfl) (by kernel_rfl) rfl rfl ?_
        obtain ⟨b9, H102, H⟩ := bind_some H
        have hm_ := laws_toRing.calls (I0 := J69) H102 hr4
        refine eff_call rfl rfl ok8 rfl rfl (show Meets Try.prog 8 ([.agg #[.slice A2 p1.Items.length c3, .int .i64 p1.At]] : List Value).toArray _ [] _ from hm_) (Mr := (s91 :: s53 :: [(g93, .cells #[.slice A89 b7.Items.length c90, .int .i64 b7.At] 27 (0, 0))] :: s64 :: s75 :: [(g66, .cells #[.slice A62 b5.Items.length c63, .int .i64 b5.At] 27 (0, 0))] :: [(g55, .cells #[.slice A51 b4.Items.length c52, .int .i64 b4.At] 27 (0, 0))] :: s27 :: s37 :: [(g10, .cells #[.slice A2 p1.Items.length c3, .int .i64 p1.At] 24 (0, 0))] :: Fs)) (List.Perm.refl _) (fun v103 J104 M105 hq106 hJ107 => ?_)
        replace hle := hle.trans hJ107
        replace ho54 := ho54.mono hJ107
        replace ho65 := ho65.mono hJ107
        replace ho76 := ho76.mono hJ107
        replace ho92 := ho92.mono hJ107
        replace hr4 := hr4.mono hJ107
        replace hr8 := hr8.mono hJ107
        obtain ⟨A108, c109, s110, rfl, rfl, ho111⟩ := hq106
        refine at_xS (fun w hs => ⟨cellsV (k := 6) hs rfl _ 0 (Nat.le_of_ble_eq_true (by kernel_rfl)) rfl, cellsV (k := 10) hs rfl _ 0 (Nat.le_of_ble_eq_true (by kernel_rfl)) rfl⟩) ?_
        refine at_x1 1 3 (#[true, true, true, true, false]) rfl (by kernel_rfl) (by kernel_rfl) rfl rfl ?_
        obtain ⟨b10, H112, H⟩ := bind_some H
        refine eff_read rfl rfl (rv := .bool b10) (Ms' := (s64 :: s110 :: s91 :: s53 :: [(g93, .cells #[.slice A89 b7.Items.length c90, .int .i64 b7.At] 27 (0, 0))] :: s75 :: [(g66, .cells #[.slice A62 b5.Items.length c63, .int .i64 b5.At] 27 (0, 0))] :: [(g55, .cells #[.slice A51 b4.Items.length c52, .int .i64 b4.At] 27 (0, 0))] :: s27 :: s37 :: [(g10, .cells #[.slice A2 p1.Items.length c3, .int .i64 p1.At] 24 (0, 0))] :: Fs)) ok11 rfl rfl ?_ ?_
        · refine Reads.lend (k := 4) rfl (fun J113 hJ114 hin115 => ?_)
          refine Reads.lend (k := 0) rfl (fun J116 hJ117 hin118 => ?_)
          have hm_ := laws_eqRing.calls (I0 := J116) H112 (ho65.rd (hJ114.trans hJ117) (hin115.mono hJ117)) (ho111.rd (hJ114.trans hJ117) hin118)
          exact Reads.of_meets (Mr := (s91 :: s53 :: [(g93, .cells #[.slice A89 b7.Items.length c90, .int .i64 b7.At] 27 (0, 0))] :: s75 :: [(g66, .cells #[.slice A62 b5.Items.length c63, .int .i64 b5.At] 27 (0, 0))] :: [(g55, .cells #[.slice A51 b4.Items.length c52, .int .i64 b4.At] 27 (0, 0))] :: s27 :: s37 :: [(g10, .cells #[.slice A2 p1.Items.length c3, .int .i64 p1.At] 24 (0, 0))] :: Fs)) (show Meets Try.prog 11 ([.agg #[.slice A62 b5.Items.length c63, .int .i64 b5.At], .agg #[.slice A108 b9.Items.length c109, .int .i64 b9.At]] : List Value).toArray J116 [] _ from hm_) (List.Perm.refl _)
        refine at_xS (fun w hs => ⟨cellsV (k := 6) hs rfl _ 0 (Nat.le_of_ble_eq_true (by kernel_rfl)) rfl, cellsV (k := 10) hs rfl _ 0 (Nat.le_of_ble_eq_true (by kernel_rfl)) rfl⟩) ?_
        refine at_xseg [4] 0 (#[true, true, true, true, true]) rfl (by kernel_rfl) [] [1, 2, 3, 8, 9, 10, 11, 46] (L2 := [(1, .slice A6 p5.length c7), (2, .bool p9), (3, .pointer (some ⟨g10, 0, none⟩)), (8, .pointer (some ⟨g55, 0, none⟩)), (9, .pointer (some ⟨g66, 0, none⟩)), (10, .slice A73 b6.length c74), (11, .pointer (some ⟨g93, 0, none⟩)), (46, .bool (!b10))]) (obs := []) (by kernel_rfl) (by kernel_rfl) (by kernel_rfl) (.inr fun w hs => ⟨cellsV (k := 6) hs rfl _ 0 (Nat.le_of_ble_eq_true (by kernel_rfl)) rfl, cellsV (k := 10) hs rfl _ 0 (Nat.le_of_ble_eq_true (by kernel_rfl)) rfl⟩) (fun w hS => trivial) (fun w hs => trivial) ?_
        refine at_xend (by kernel_rfl) ?_
        refine at_thn ?_
        by_cases h119 : b10 = true
        · rw [if_pos h119] at H
          refine at_cond_f rfl (not_ff (h119)) ?_
          refine at_skip ?_
          refine at_thn ?_
          refine at_seq ?_
          refine at_seq ?_
          refine at_ops [0, 1, 2, 3, 4] rfl ?_
          refine at_seg [0, 1] [2, 3, 4] rfl [] [1, 2, 3, 8, 9, 10, 11, 47, 48] (L2 := [(1, .slice A6 p5.length c7), (2, .bool p9), (3, .pointer (some ⟨g10, 0, none⟩)), (8, .pointer (some ⟨g55, 0, none⟩)), (9, .pointer (some ⟨g66, 0, none⟩)), (10, .slice A73 b6.length c74), (11, .pointer (some ⟨g93, 0, none⟩)), (47, .slice A73 b6.length c74), (48, .slice A6 p5.length c7)]) (obs := []) (by kernel_rfl) ?_ ?_
          · intro w hs; exact trivial
          refine at_eff rfl rfl ?_
          obtain ⟨b11, H120, H⟩ := bind_some H
          have hm_ := laws_toInt64S.calls (I0 := J104) H120 hr8
          refine eff_call rfl rfl ok9 rfl rfl (show Meets Try.prog 9 ([.slice A6 p5.length c7] : List Value).toArray _ [] _ from hm_) (Mr := (s64 :: s110 :: s91 :: s53 :: [(g93, .cells #[.slice A89 b7.Items.length c90, .int .i64 b7.At] 27 (0, 0))] :: s75 :: [(g66, .cells #[.slice A62 b5.Items.length c63, .int .i64 b5.At] 27 (0, 0))] :: [(g55, .cells #[.slice A51 b4.Items.length c52, .int .i64 b4.At] 27 (0, 0))] :: s27 :: s37 :: [(g10, .cells #[.slice A2 p1.Items.length c3, .int .i64 p1.At] 24 (0, 0))] :: Fs)) (List.Perm.refl _) (fun v121 J122 M123 hq124 hJ125 => ?_)
          replace hle := hle.trans hJ125
          replace ho54 := ho54.mono hJ125
          replace ho65 := ho65.mono hJ125
          replace ho76 := ho76.mono hJ125
          replace ho92 := ho92.mono hJ125
          replace hr4 := hr4.mono hJ125
          replace hr8 := hr8.mono hJ125
          obtain ⟨A126, c127, s128, rfl, rfl, ho129⟩ := hq124
          refine at_eff rfl rfl ?_
          obtain ⟨b12, H130, H⟩ := bind_some H
          refine eff_read rfl rfl (rv := .bool b12) (Ms' := (s75 :: s128 :: s64 :: s110 :: s91 :: s53 :: [(g93, .cells #[.slice A89 b7.Items.length c90, .int .i64 b7.At] 27 (0, 0))] :: [(g66, .cells #[.slice A62 b5.Items.length c63, .int .i64 b5.At] 27 (0, 0))] :: [(g55, .cells #[.slice A51 b4.Items.length c52, .int .i64 b4.At] 27 (0, 0))] :: s27 :: s37 :: [(g10, .cells #[.slice A2 p1.Items.length c3, .int .i64 p1.At] 24 (0, 0))] :: Fs)) ok12 rfl rfl ?_ ?_
          · refine Reads.lend (k := 6) rfl (fun J131 hJ132 hin133 => ?_)
            refine Reads.lend (k := 0) rfl (fun J134 hJ135 hin136 => ?_)
            have hm_ := laws_eqInt64S.calls (I0 := J134) H130 (ho76.rd (hJ132.trans hJ135) (hin133.mono hJ135)) (ho129.rd (hJ132.trans hJ135) hin136)
            exact Reads.of_meets (Mr := (s64 :: s110 :: s91 :: s53 :: [(g93, .cells #[.slice A89 b7.Items.length c90, .int .i64 b7.At] 27 (0, 0))] :: [(g66, .cells #[.slice A62 b5.Items.length c63, .int .i64 b5.At] 27 (0, 0))] :: [(g55, .cells #[.slice A51 b4.Items.length c52, .int .i64 b4.At] 27 (0, 0))] :: s27 :: s37 :: [(g10, .cells #[.slice A2 p1.Items.length c3, .int .i64 p1.At] 24 (0, 0))] :: Fs)) (show Meets Try.prog 12 ([.slice A73 b6.length c74, .slice A126 b11.length c127] : List Value).toArray J134 [] _ from hm_) (List.Perm.refl _)
          refine at_seg [4] [] rfl [] [1, 2, 3, 8, 9, 10, 11, 51] (L2 := [(1, .slice A6 p5.length c7), (2, .bool p9), (3, .pointer (some ⟨g10, 0, none⟩)), (8, .pointer (some ⟨g55, 0, none⟩)), (9, .pointer (some ⟨g66, 0, none⟩)), (10, .slice A73 b6.length c74), (11, .pointer (some ⟨g93, 0, none⟩)), (51, .bool (!b12))]) (obs := []) (by kernel_rfl) ?_ ?_
          · intro w hs; exact trivial
          refine at_end ?_
          refine at_thn ?_
          by_cases h137 : b12 = true
          · rw [if_pos h137] at H
            refine at_cond_f rfl (not_ff (h137)) ?_
            refine at_skip ?_
            refine at_thn ?_
            refine at_seq ?_
            refine at_reg [] [1, 2, 3, 8, 9, 10, 11, 12] (L2 := [(1, .slice A6 p5.length c7), (2, .bool p9), (3, .pointer (some ⟨g10, 0, none⟩)), (8, .pointer (some ⟨g55, 0, none⟩)), (9, .pointer (some ⟨g66, 0, none⟩)), (10, .slice A73 b6.length c74), (11, .pointer (some ⟨g93, 0, none⟩)), (12, .int .i64 1)]) (obs := []) (by kernel_rfl) ?_ ?_
            · intro w hs; exact trivial
            refine at_thn ?_
            refine at_seq ?_
            refine at_ops [0, 1, 2, 3] rfl ?_
            refine at_seg [0, 1] [2, 3] rfl [(0, .agg #[.slice A62 b5.Items.length c63, .int .i64 b5.At])] [1, 2, 3, 8, 10, 11, 12, 52, 53] (L2 := [(1, .slice A6 p5.length c7), (2, .bool p9), (3, .pointer (some ⟨g10, 0, none⟩)), (8, .pointer (some ⟨g55, 0, none⟩)), (10, .slice A73 b6.length c74), (11, .pointer (some ⟨g93, 0, none⟩)), (12, .int .i64 1), (52, .agg #[.slice A62 b5.Items.length c63, .int .i64 b5.At]), (53, .int .i64 1)]) (obs := [fun w => CellsAt w ⟨g66, 0, none⟩ [.slice A62 b5.Items.length c63, .int .i64 b5.At] 0]) (by kernel_rfl) ?_ ?_
            · intro w hs; exact cellsV (k := 7) hs rfl _ 0 (Nat.le_of_ble_eq_true (by kernel_rfl)) rfl
            refine at_eff rfl rfl ?_
            obtain ⟨b13, H138, H⟩ := bind_some H
            have hm_ := laws_markRing.calls (I0 := J122) H138 ho65
            refine eff_call rfl rfl ok13 rfl rfl (show Meets Try.prog 13 ([.agg #[.slice A62 b5.Items.length c63, .int .i64 b5.At], .int .i64 1] : List Value).toArray _ [s64] _ from hm_) (Mr := (s75 :: s128 :: s110 :: s91 :: s53 :: [(g93, .cells #[.slice A89 b7.Items.length c90, .int .i64 b7.At] 27 (0, 0))] :: [(g66, .cells #[.slice A62 b5.Items.length c63, .int .i64 b5.At] 27 (0, 0))] :: [(g55, .cells #[.slice A51 b4.Items.length c52, .int .i64 b4.At] 27 (0, 0))] :: s27 :: s37 :: [(g10, .cells #[.slice A2 p1.Items.length c3, .int .i64 p1.At] 24 (0, 0))] :: Fs)) ((perm_at (k := 2) rfl).trans ((List.Perm.refl _).cons _)) (fun v139 J140 M141 hq142 hJ143 => ?_)
            replace hle := hle.trans hJ143
            replace ho54 := ho54.mono hJ143
            replace ho65 := ho65.mono hJ143
            replace ho76 := ho76.mono hJ143
            replace ho92 := ho92.mono hJ143
            replace hr4 := hr4.mono hJ143
            replace hr8 := hr8.mono hJ143
            obtain ⟨s144, rfl, rfl, ho145, hl146⟩ := hq142
            refine at_keep [1, 2, 3, 8, 10, 11, 12, 52, 53, 54] (L2 := [(1, .slice A6 p5.length c7), (2, .bool p9), (3, .pointer (some ⟨g10, 0, none⟩)), (8, .pointer (some ⟨g55, 0, none⟩)), (10, .slice A73 b6.length c74), (11, .pointer (some ⟨g93, 0, none⟩)), (12, .int .i64 1), (52, .agg #[.slice A62 b5.Items.length c63, .int .i64 b5.At]), (53, .int .i64 1), (54, .int .i64 b13.1)]) rfl ?_
            refine at_eqL2 (L1 := [(1, .slice A6 p5.length c7), (2, .bool p9), (3, .pointer (some ⟨g10, 0, none⟩)), (8, .pointer (some ⟨g55, 0, none⟩)), (10, .slice A73 b6.length c74), (11, .pointer (some ⟨g93, 0, none⟩)), (12, .int .i64 1), (52, .agg #[.slice A62 b5.Items.length c63, .int .i64 b5.At]), (53, .int .i64 1), (54, .int .i64 b13.1)]) (L2 := [(1, .slice A6 p5.length c7), (2, .bool p9), (3, .pointer (some ⟨g10, 0, none⟩)), (8, .pointer (some ⟨g55, 0, none⟩)), (10, .slice A73 b6.length c74), (11, .pointer (some ⟨g93, 0, none⟩)), (12, .int .i64 1), (52, .agg #[.slice A62 b13.2.length c63, .int .i64 b5.At]), (53, .int .i64 1), (54, .int .i64 b13.1)]) rfl (by rw [hl146]) ?_
            refine at_eqM (M1 := (s144 :: s75 :: s128 :: s110 :: s91 :: s53 :: [(g93, .cells #[.slice A89 b7.Items.length c90, .int .i64 b7.At] 27 (0, 0))] :: [(g66, .cells #[.slice A62 b5.Items.length c63, .int .i64 b5.At] 27 (0, 0))] :: [(g55, .cells #[.slice A51 b4.Items.length c52, .int .i64 b4.At] 27 (0, 0))] :: s27 :: s37 :: [(g10, .cells #[.slice A2 p1.Items.length c3, .int .i64 p1.At] 24 (0, 0))] :: Fs)) (M2 := (s144 :: s75 :: s128 :: s110 :: s91 :: s53 :: [(g93, .cells #[.slice A89 b7.Items.length c90, .int .i64 b7.At] 27 (0, 0))] :: [(g66, .cells #[.slice A62 b13.2.length c63, .int .i64 b5.At] 27 (0, 0))] :: [(g55, .cells #[.slice A51 b4.Items.length c52, .int .i64 b4.At] 27 (0, 0))] :: s27 :: s37 :: [(g10, .cells #[.slice A2 p1.Items.length c3, .int .i64 p1.At] 24 (0, 0))] :: Fs)) rfl (by rw [hl146]) ?_
            refine at_seg [3] [] rfl [] [1, 2, 3, 8, 10, 11, 12] (L2 := [(1, .slice A6 p5.length c7), (2, .bool p9), (3, .pointer (some ⟨g10, 0, none⟩)), (8, .pointer (some ⟨g55, 0, none⟩)), (10, .slice A73 b6.length c74), (11, .pointer (some ⟨g93, 0, none⟩)), (12, .int .i64 b13.1)]) (obs := []) (by kernel_rfl) ?_ ?_
            · intro w hs; exact trivial
            refine at_end ?_
            refine at_thn ?_
            refine at_seq ?_
            refine at_ops [0, 1, 2, 3] rfl ?_
            refine at_seg [0, 1] [2, 3] rfl [] [1, 2, 3, 8, 11, 12, 55, 56] (L2 := [(1, .slice A6 p5.length c7), (2, .bool p9), (3, .pointer (some ⟨g10, 0, none⟩)), (8, .pointer (some ⟨g55, 0, none⟩)), (11, .pointer (some ⟨g93, 0, none⟩)), (12, .int .i64 b13.1), (55, .slice A73 b6.length c74), (56, .int .i64 b13.1)]) (obs := []) (by kernel_rfl) ?_ ?_
            · intro w hs; exact trivial
            refine at_eff rfl rfl ?_
            obtain ⟨b14, H147, H⟩ := bind_some H
            have hm_ := laws_markInt64S.calls (I0 := J140) H147 ho76
            refine eff_call rfl rfl ok14 rfl rfl (show Meets Try.prog 14 ([.slice A73 b6.length c74, .int .i64 b13.1] : List Value).toArray _ [s75] _ from hm_) (Mr := (s144 :: s128 :: s110 :: s91 :: s53 :: [(g93, .cells #[.slice A89 b7.Items.length c90, .int .i64 b7.At] 27 (0, 0))] :: [(g66, .cells #[.slice A62 b13.2.length c63, .int .i64 b5.At] 27 (0, 0))] :: [(g55, .cells #[.slice A51 b4.Items.length c52, .int .i64 b4.At] 27 (0, 0))] :: s27 :: s37 :: [(g10, .cells #[.slice A2 p1.Items.length c3, .int .i64 p1.At] 24 (0, 0))] :: Fs)) ((perm_at (k := 1) rfl).trans ((List.Perm.refl _).cons _)) (fun v148 J149 M150 hq151 hJ152 => ?_)
            replace hle := hle.trans hJ152
            replace ho145 := ho145.mono hJ152
            replace ho54 := ho54.mono hJ152
            replace ho76 := ho76.mono hJ152
            replace ho92 := ho92.mono hJ152
            replace hr4 := hr4.mono hJ152
            replace hr8 := hr8.mono hJ152
            obtain ⟨s153, rfl, rfl, ho154, hl155⟩ := hq151
            refine at_keep [1, 2, 3, 8, 11, 12, 55, 56, 57] (L2 := [(1, .slice A6 p5.length c7), (2, .bool p9), (3, .pointer (some ⟨g10, 0, none⟩)), (8, .pointer (some ⟨g55, 0, none⟩)), (11, .pointer (some ⟨g93, 0, none⟩)), (12, .int .i64 b13.1), (55, .slice A73 b6.length c74), (56, .int .i64 b13.1), (57, .int .i64 b14.1)]) rfl ?_
            refine at_eqL2 (L1 := [(1, .slice A6 p5.length c7), (2, .bool p9), (3, .pointer (some ⟨g10, 0, none⟩)), (8, .pointer (some ⟨g55, 0, none⟩)), (11, .pointer (some ⟨g93, 0, none⟩)), (12, .int .i64 b13.1), (55, .slice A73 b6.length c74), (56, .int .i64 b13.1), (57, .int .i64 b14.1)]) (L2 := [(1, .slice A6 p5.length c7), (2, .bool p9), (3, .pointer (some ⟨g10, 0, none⟩)), (8, .pointer (some ⟨g55, 0, none⟩)), (11, .pointer (some ⟨g93, 0, none⟩)), (12, .int .i64 b13.1), (55, .slice A73 b14.2.length c74), (56, .int .i64 b13.1), (57, .int .i64 b14.1)]) rfl (by rw [hl155]) ?_
            refine at_seg [3] [] rfl [] [1, 2, 3, 8, 11, 12] (L2 := [(1, .slice A6 p5.length c7), (2, .bool p9), (3, .pointer (some ⟨g10, 0, none⟩)), (8, .pointer (some ⟨g55, 0, none⟩)), (11, .pointer (some ⟨g93, 0, none⟩)), (12, .int .i64 b14.1)]) (obs := []) (by kernel_rfl) ?_ ?_
            · intro w hs; exact trivial
            refine at_end ?_
            refine at_thn ?_
            refine at_seq ?_
            refine at_seq ?_
            refine at_ops [0, 1, 2, 3, 4, 5, 6, 7] rfl ?_
            by_cases h156 : b14.1 < 0
            · rw [if_pos h156] at H
              refine at_seg [0, 1, 2, 3, 4] [5, 6, 7] rfl [(2, .bool true)] [1, 2, 3, 8, 11, 60, 61, 62] (L2 := [(1, .slice A6 p5.length c7), (2, .bool p9), (3, .pointer (some ⟨g10, 0, none⟩)), (8, .pointer (some ⟨g55, 0, none⟩)), (11, .pointer (some ⟨g93, 0, none⟩)), (60, .bool true), (61, undef), (62, undef)]) (obs := [fun _ => (.bool (decide (b14.1 < 0)) : Value) = .bool true]) (by kernel_rfl) ?_ ?_
              · intro w hs; exact congrArg Value.bool (decide_eq_true h156)
              refine at_seg [5, 6, 7] [] rfl [] [1, 2, 3, 8, 11, 65] (L2 := [(1, .slice A6 p5.length c7), (2, .bool p9), (3, .pointer (some ⟨g10, 0, none⟩)), (8, .pointer (some ⟨g55, 0, none⟩)), (11, .pointer (some ⟨g93, 0, none⟩)), (65, .bool true)]) (obs := []) (by kernel_rfl) ?_ ?_
              · intro w hs; exact trivial
              refine at_end ?_
              refine at_thn ?_
              refine at_cond_t rfl (rfl) ?_
              refine at_seq ?_
              refine at_reg [] [6] (L2 := [(6, .bool false)]) (obs := []) (by kernel_rfl) ?_ ?_
              · intro w hs; exact trivial
              refine at_thn ?_
              refine at_ret ?_
              refine at_then_ret ?_
              obtain rfl := Option.some.inj H
              refine at_drop (k := 0) rfl rfl ?_
              refine at_drop (k := 0) rfl rfl ?_
              refine at_drop (k := 0) rfl rfl ?_
              refine at_drop (k := 0) rfl rfl ?_
              refine at_drop (k := 0) rfl rfl ?_
              refine at_drop (k := 0) rfl rfl ?_
              refine at_drop (k := 0) rfl rfl ?_
              refine at_drop (k := 0) rfl rfl ?_
              refine at_drop (k := 0) rfl rfl ?_
              refine at_drop (k := 0) rfl rfl ?_
              refine at_drop (k := 0) rfl rfl ?_
              refine at_drop (k := 0) rfl rfl ?_
              refine at_done (vs := [.bool false]) (obs := []) (.inl rfl) [.tmp 6] [] rfl (by kernel_rfl) (fun w hs => trivial) (fun w hs => ⟨_, _, [], rfl, ⟨rfl, rfl⟩, hle, hs⟩)
            · rw [if_neg h156] at H
              refine at_seg [0, 1, 2, 3, 4] [5, 6, 7] rfl [(2, .bool false), (3, .agg #[.slice A89 b7.Items.length c90, .int .i64 b7.At]), (4, .agg #[.slice A51 b4.Items.length c52, .int .i64 b4.At])] [1, 2, 3, 8, 11, 60, 61, 62] (L2 := [(1, .slice A6 p5.length c7), (2, .bool p9), (3, .pointer (some ⟨g10, 0, none⟩)), (8, .pointer (some ⟨g55, 0, none⟩)), (11, .pointer (some ⟨g93, 0, none⟩)), (60, .bool false), (61, .agg #[.slice A89 b7.Items.length c90, .int .i64 b7.At]), (62, .agg #[.slice A51 b4.Items.length c52, .int .i64 b4.At])]) (obs := [fun _ => (.bool (decide (b14.1 < 0)) : Value) = .bool false, fun w => CellsAt w ⟨g93, 0, none⟩ [.slice A89 b7.Items.length c90, .int .i64 b7.At] 0, fun w => CellsAt w ⟨g55, 0, none⟩ [.slice A51 b4.Items.length c52, .int .i64 b4.At] 0]) (by kernel_rfl) ?_ ?_
              · intro w hs; exact ⟨congrArg Value.bool (decide_eq_false h156), cellsV (k := 6) hs rfl _ 0 (Nat.le_of_ble_eq_true (by kernel_rfl)) rfl, cellsV (k := 8) hs rfl _ 0 (Nat.le_of_ble_eq_true (by kernel_rfl)) rfl⟩
              refine at_eff rfl rfl ?_
              obtain ⟨b15, H157, H⟩ := bind_some H
              refine eff_read rfl rfl (rv := .bool b15) (Ms' := (s91 :: s53 :: s153 :: s144 :: s128 :: s110 :: [(g93, .cells #[.slice A89 b7.Items.length c90, .int .i64 b7.At] 27 (0, 0))] :: [(g66, .cells #[.slice A62 b13.2.length c63, .int .i64 b5.At] 27 (0, 0))] :: [(g55, .cells #[.slice A51 b4.Items.length c52, .int .i64 b4.At] 27 (0, 0))] :: s27 :: s37 :: [(g10, .cells #[.slice A2 p1.Items.length c3, .int .i64 p1.At] 24 (0, 0))] :: Fs)) ok11 rfl rfl ?_ ?_
              · refine Reads.lend (k := 4) rfl (fun J158 hJ159 hin160 => ?_)
                refine Reads.lend (k := 4) rfl (fun J161 hJ162 hin163 => ?_)
                have hm_ := laws_eqRing.calls (I0 := J161) H157 (ho92.rd (hJ159.trans hJ162) (hin160.mono hJ162)) (ho54.rd (hJ159.trans hJ162) hin163)
                exact Reads.of_meets (Mr := (s153 :: s144 :: s128 :: s110 :: [(g93, .cells #[.slice A89 b7.Items.length c90, .int .i64 b7.At] 27 (0, 0))] :: [(g66, .cells #[.slice A62 b13.2.length c63, .int .i64 b5.At] 27 (0, 0))] :: [(g55, .cells #[.slice A51 b4.Items.length c52, .int .i64 b4.At] 27 (0, 0))] :: s27 :: s37 :: [(g10, .cells #[.slice A2 p1.Items.length c3, .int .i64 p1.At] 24 (0, 0))] :: Fs)) (show Meets Try.prog 11 ([.agg #[.slice A89 b7.Items.length c90, .int .i64 b7.At], .agg #[.slice A51 b4.Items.length c52, .int .i64 b4.At]] : List Value).toArray J161 [] _ from hm_) (List.Perm.refl _)
              refine at_seg [6, 7] [] rfl [] [1, 2, 3, 8, 11, 65] (L2 := [(1, .slice A6 p5.length c7), (2, .bool p9), (3, .pointer (some ⟨g10, 0, none⟩)), (8, .pointer (some ⟨g55, 0, none⟩)), (11, .pointer (some ⟨g93, 0, none⟩)), (65, .bool (!b15))]) (obs := []) (by kernel_rfl) ?_ ?_
              · intro w hs; exact trivial
              refine at_end ?_
              refine at_thn ?_
              by_cases h164 : b15 = true
              · rw [if_pos h164] at H
                refine at_cond_f rfl (not_ff (h164)) ?_
                refine at_skip ?_
                refine at_thn ?_
                refine at_seq ?_
                refine at_reg [] [1, 2, 3, 8, 11, 13] (L2 := [(1, .slice A6 p5.length c7), (2, .bool p9), (3, .pointer (some ⟨g10, 0, none⟩)), (8, .pointer (some ⟨g55, 0, none⟩)), (11, .pointer (some ⟨g93, 0, none⟩)), (13, .int .i64 1)]) (obs := []) (by kernel_rfl) ?_ ?_
                · intro w hs; exact trivial
                refine at_thn ?_
                refine at_seq ?_
                refine at_ops [0, 1, 2, 3] rfl ?_
                refine at_seg [0, 1] [2, 3] rfl [(0, .agg #[.slice A89 b7.Items.length c90, .int .i64 b7.At])] [1, 2, 3, 8, 11, 13, 66, 67] (L2 := [(1, .slice A6 p5.length c7), (2, .bool p9), (3, .pointer (some ⟨g10, 0, none⟩)), (8, .pointer (some ⟨g55, 0, none⟩)), (11, .pointer (some ⟨g93, 0, none⟩)), (13, .int .i64 1), (66, .agg #[.slice A89 b7.Items.length c90, .int .i64 b7.At]), (67, .int .i64 1)]) (obs := [fun w => CellsAt w ⟨g93, 0, none⟩ [.slice A89 b7.Items.length c90, .int .i64 b7.At] 0]) (by kernel_rfl) ?_ ?_
                · intro w hs; exact cellsV (k := 6) hs rfl _ 0 (Nat.le_of_ble_eq_true (by kernel_rfl)) rfl
                refine at_eff rfl rfl ?_
                obtain ⟨b16, H165, H⟩ := bind_some H
                have hm_ := laws_markRing.calls (I0 := J149) H165 ho92
                refine eff_call rfl rfl ok13 rfl rfl (show Meets Try.prog 13 ([.agg #[.slice A89 b7.Items.length c90, .int .i64 b7.At], .int .i64 1] : List Value).toArray _ [s91] _ from hm_) (Mr := (s53 :: s153 :: s144 :: s128 :: s110 :: [(g93, .cells #[.slice A89 b7.Items.length c90, .int .i64 b7.At] 27 (0, 0))] :: [(g66, .cells #[.slice A62 b13.2.length c63, .int .i64 b5.At] 27 (0, 0))] :: [(g55, .cells #[.slice A51 b4.Items.length c52, .int .i64 b4.At] 27 (0, 0))] :: s27 :: s37 :: [(g10, .cells #[.slice A2 p1.Items.length c3, .int .i64 p1.At] 24 (0, 0))] :: Fs)) (List.Perm.refl _) (fun v166 J167 M168 hq169 hJ170 => ?_)
                replace hle := hle.trans hJ170
                replace ho145 := ho145.mono hJ170
                replace ho54 := ho54.mono hJ170
                replace ho92 := ho92.mono hJ170
                replace hr4 := hr4.mono hJ170
                replace hr8 := hr8.mono hJ170
                obtain ⟨s171, rfl, rfl, ho172, hl173⟩ := hq169
                refine at_keep [1, 2, 3, 8, 11, 13, 66, 67, 68] (L2 := [(1, .slice A6 p5.length c7), (2, .bool p9), (3, .pointer (some ⟨g10, 0, none⟩)), (8, .pointer (some ⟨g55, 0, none⟩)), (11, .pointer (some ⟨g93, 0, none⟩)), (13, .int .i64 1), (66, .agg #[.slice A89 b7.Items.length c90, .int .i64 b7.At]), (67, .int .i64 1), (68, .int .i64 b16.1)]) rfl ?_
                refine at_eqL2 (L1 := [(1, .slice A6 p5.length c7), (2, .bool p9), (3, .pointer (some ⟨g10, 0, none⟩)), (8, .pointer (some ⟨g55, 0, none⟩)), (11, .pointer (some ⟨g93, 0, none⟩)), (13, .int .i64 1), (66, .agg #[.slice A89 b7.Items.length c90, .int .i64 b7.At]), (67, .int .i64 1), (68, .int .i64 b16.1)]) (L2 := [(1, .slice A6 p5.length c7), (2, .bool p9), (3, .pointer (some ⟨g10, 0, none⟩)), (8, .pointer (some ⟨g55, 0, none⟩)), (11, .pointer (some ⟨g93, 0, none⟩)), (13, .int .i64 1), (66, .agg #[.slice A89 b16.2.length c90, .int .i64 b7.At]), (67, .int .i64 1), (68, .int .i64 b16.1)]) rfl (by rw [hl173]) ?_
                refine at_eqM (M1 := (s171 :: s53 :: s153 :: s144 :: s128 :: s110 :: [(g93, .cells #[.slice A89 b7.Items.length c90, .int .i64 b7.At] 27 (0, 0))] :: [(g66, .cells #[.slice A62 b13.2.length c63, .int .i64 b5.At] 27 (0, 0))] :: [(g55, .cells #[.slice A51 b4.Items.length c52, .int .i64 b4.At] 27 (0, 0))] :: s27 :: s37 :: [(g10, .cells #[.slice A2 p1.Items.length c3, .int .i64 p1.At] 24 (0, 0))] :: Fs)) (M2 := (s171 :: s53 :: s153 :: s144 :: s128 :: s110 :: [(g93, .cells #[.slice A89 b16.2.length c90, .int .i64 b7.At] 27 (0, 0))] :: [(g66, .cells #[.slice A62 b13.2.length c63, .int .i64 b5.At] 27 (0, 0))] :: [(g55, .cells #[.slice A51 b4.Items.length c52, .int .i64 b4.At] 27 (0, 0))] :: s27 :: s37 :: [(g10, .cells #[.slice A2 p1.Items.length c3, .int .i64 p1.At] 24 (0, 0))] :: Fs)) rfl (by rw [hl173]) ?_
                refine at_seg [3] [] rfl [] [1, 2, 3, 8, 11, 13] (L2 := [(1, .slice A6 p5.length c7), (2, .bool p9), (3, .pointer (some ⟨g10, 0, none⟩)), (8, .pointer (some ⟨g55, 0, none⟩)), (11, .pointer (some ⟨g93, 0, none⟩)), (13, .int .i64 b16.1)]) (obs := []) (by kernel_rfl) ?_ ?_
                · intro w hs; exact trivial
                refine at_end ?_
                refine at_thn ?_
                refine at_seq ?_
                refine at_reg [] [1, 2, 3, 8, 11, 13, 14] (L2 := [(1, .slice A6 p5.length c7), (2, .bool p9), (3, .pointer (some ⟨g10, 0, none⟩)), (8, .pointer (some ⟨g55, 0, none⟩)), (11, .pointer (some ⟨g93, 0, none⟩)), (13, .int .i64 b16.1), (14, .int .i64 1)]) (obs := []) (by kernel_rfl) ?_ ?_
                · intro w hs; exact trivial
                refine at_thn ?_
                refine at_seq ?_
                refine at_ops [0, 1, 2, 3] rfl ?_
                refine at_seg [0, 1] [2, 3] rfl [(0, .agg #[.slice A89 b16.2.length c90, .int .i64 b7.At])] [1, 2, 3, 8, 11, 13, 14, 69, 70] (L2 := [(1, .slice A6 p5.length c7), (2, .bool p9), (3, .pointer (some ⟨g10, 0, none⟩)), (8, .pointer (some ⟨g55, 0, none⟩)), (11, .pointer (some ⟨g93, 0, none⟩)), (13, .int .i64 b16.1), (14, .int .i64 1), (69, .agg #[.slice A89 b16.2.length c90, .int .i64 b7.At]), (70, .int .i64 1)]) (obs := [fun w => CellsAt w ⟨g93, 0, none⟩ [.slice A89 b16.2.length c90, .int .i64 b7.At] 0]) (by kernel_rfl) ?_ ?_
                · intro w hs; exact cellsV (k := 6) hs rfl _ 0 (Nat.le_of_ble_eq_true (by kernel_rfl)) rfl
                refine at_eff rfl rfl ?_
                obtain ⟨b17, H174, H⟩ := bind_some H
                refine eff_read rfl rfl (rv := .int .i64 b17) (Ms' := (s171 :: s53 :: s153 :: s144 :: s128 :: s110 :: [(g93, .cells #[.slice A89 b16.2.length c90, .int .i64 b7.At] 27 (0, 0))] :: [(g66, .cells #[.slice A62 b13.2.length c63, .int .i64 b5.At] 27 (0, 0))] :: [(g55, .cells #[.slice A51 b4.Items.length c52, .int .i64 b4.At] 27 (0, 0))] :: s27 :: s37 :: [(g10, .cells #[.slice A2 p1.Items.length c3, .int .i64 p1.At] 24 (0, 0))] :: Fs)) ok15 rfl rfl ?_ ?_
                · refine Reads.lend (k := 0) rfl (fun J175 hJ176 hin177 => ?_)
                  have hm_ := laws_heldRing.calls (I0 := J175) H174 (ho172.rd hJ176 hin177)
                  exact Reads.of_meets (Mr := (s53 :: s153 :: s144 :: s128 :: s110 :: [(g93, .cells #[.slice A89 b16.2.length c90, .int .i64 b7.At] 27 (0, 0))] :: [(g66, .cells #[.slice A62 b13.2.length c63, .int .i64 b5.At] 27 (0, 0))] :: [(g55, .cells #[.slice A51 b4.Items.length c52, .int .i64 b4.At] 27 (0, 0))] :: s27 :: s37 :: [(g10, .cells #[.slice A2 p1.Items.length c3, .int .i64 p1.At] 24 (0, 0))] :: Fs)) (show Meets Try.prog 15 ([.agg #[.slice A89 b16.2.length c90, .int .i64 b7.At], .int .i64 1] : List Value).toArray J175 [] _ from hm_) (List.Perm.refl _)
                refine at_seg [3] [] rfl [] [1, 2, 3, 8, 11, 13, 14] (L2 := [(1, .slice A6 p5.length c7), (2, .bool p9), (3, .pointer (some ⟨g10, 0, none⟩)), (8, .pointer (some ⟨g55, 0, none⟩)), (11, .pointer (some ⟨g93, 0, none⟩)), (13, .int .i64 b16.1), (14, .int .i64 b17)]) (obs := []) (by kernel_rfl) ?_ ?_
                · intro w hs; exact trivial
                refine at_end ?_
                refine at_thn ?_
                refine at_seq ?_
                refine at_seq ?_
                refine at_reg [] [1, 2, 3, 8, 11, 13, 14, 73] (L2 := [(1, .slice A6 p5.length c7), (2, .bool p9), (3, .pointer (some ⟨g10, 0, none⟩)), (8, .pointer (some ⟨g55, 0, none⟩)), (11, .pointer (some ⟨g93, 0, none⟩)), (13, .int .i64 b16.1), (14, .int .i64 b17), (73, .bool (decide (b17 < 0)))]) (obs := []) (by kernel_rfl) ?_ ?_
                · intro w hs; exact trivial
                refine at_thn ?_
                by_cases h178 : b17 < 0
                · rw [if_pos h178] at H
                  refine at_cond_t rfl (decide_eq_true h178) ?_
                  refine at_seq ?_
                  refine at_reg [] [6] (L2 := [(6, .bool false)]) (obs := []) (by kernel_rfl) ?_ ?_
                  · intro w hs; exact trivial
                  refine at_thn ?_
                  refine at_ret ?_
                  refine at_then_ret ?_
                  obtain rfl := Option.some.inj H
                  refine at_drop (k := 0) rfl rfl ?_
                  refine at_drop (k := 0) rfl rfl ?_
                  refine at_drop (k := 0) rfl rfl ?_
                  refine at_drop (k := 0) rfl rfl ?_
                  refine at_drop (k := 0) rfl rfl ?_
                  refine at_drop (k := 0) rfl rfl ?_
                  refine at_drop (k := 0) rfl rfl ?_
                  refine at_drop (k := 0) rfl rfl ?_
                  refine at_drop (k := 0) rfl rfl ?_
                  refine at_drop (k := 0) rfl rfl ?_
                  refine at_drop (k := 0) rfl rfl ?_
                  refine at_drop (k := 0) rfl rfl ?_
                  refine at_done (vs := [.bool false]) (obs := []) (.inl rfl) [.tmp 6] [] rfl (by kernel_rfl) (fun w hs => trivial) (fun w hs => ⟨_, _, [], rfl, ⟨rfl, rfl⟩, hle, hs⟩)
                · rw [if_neg h178] at H
                  refine at_cond_f rfl (decide_eq_false h178) ?_
                  refine at_skip ?_
                  refine at_thn ?_
                  refine at_seq ?_
                  refine at_seq ?_
                  refine at_reg [] [1, 2, 3, 8, 11, 13, 76] (L2 := [(1, .slice A6 p5.length c7), (2, .bool p9), (3, .pointer (some ⟨g10, 0, none⟩)), (8, .pointer (some ⟨g55, 0, none⟩)), (11, .pointer (some ⟨g93, 0, none⟩)), (13, .int .i64 b16.1), (76, .bool (b17 != b16.1))]) (obs := []) (by kernel_rfl) ?_ ?_
                  · intro w hs; exact trivial
                  refine at_thn ?_
                  by_cases h179 : b17 = b16.1
                  · rw [if_pos h179] at H
                    refine at_cond_f rfl (bne_eq_false_iff_eq.2 h179) ?_
                    refine at_skip ?_
                    refine at_thn ?_
                    refine at_seq ?_
                    refine at_ops [0, 1, 2, 3, 4, 5, 6, 7] rfl ?_
                    refine at_seg [0] [1, 2, 3, 4, 5, 6, 7] rfl [(0, .agg #[.slice A2 p1.Items.length c3, .int .i64 p1.At])] [1, 2, 8, 11, 13, 77] (L2 := [(1, .slice A6 p5.length c7), (2, .bool p9), (8, .pointer (some ⟨g55, 0, none⟩)), (11, .pointer (some ⟨g93, 0, none⟩)), (13, .int .i64 b16.1), (77, .agg #[.slice A2 p1.Items.length c3, .int .i64 p1.At])]) (obs := [fun w => CellsAt w ⟨g10, 0, none⟩ [.slice A2 p1.Items.length c3, .int .i64 p1.At] 0]) (by kernel_rfl) ?_ ?_
                    · intro w hs; exact cellsV (k := 11) hs rfl _ 0 (Nat.le_of_ble_eq_true (by kernel_rfl)) rfl
                    refine at_eff rfl rfl ?_
                    obtain ⟨b18, H180, H⟩ := bind_some H
                    have hm_ := laws_toRing.calls (I0 := J167) H180 hr4
                    refine eff_call rfl rfl ok8 rfl rfl (show Meets Try.prog 8 ([.agg #[.slice A2 p1.Items.length c3, .int .i64 p1.At]] : List Value).toArray _ [] _ from hm_) (Mr := (s171 :: s53 :: s153 :: s144 :: s128 :: s110 :: [(g93, .cells #[.slice A89 b16.2.length c90, .int .i64 b7.At] 27 (0, 0))] :: [(g66, .cells #[.slice A62 b13.2.length c63, .int .i64 b5.At] 27 (0, 0))] :: [(g55, .cells #[.slice A51 b4.Items.length c52, .int .i64 b4.At] 27 (0, 0))] :: s27 :: s37 :: [(g10, .cells #[.slice A2 p1.Items.length c3, .int .i64 p1.At] 24 (0, 0))] :: Fs)) (List.Perm.refl _) (fun v181 J182 M183 hq184 hJ185 => ?_)
                    replace hle := hle.trans hJ185
                    replace ho145 := ho145.mono hJ185
                    replace ho172 := ho172.mono hJ185
                    replace ho54 := ho54.mono hJ185
                    replace hr4 := hr4.mono hJ185
                    replace hr8 := hr8.mono hJ185
                    obtain ⟨A186, c187, s188, rfl, rfl, ho189⟩ := hq184
                    refine at_seg [2] [3, 4, 5, 6, 7] rfl [] [2, 8, 11, 13, 78, 79] (L2 := [(2, .bool p9), (8, .pointer (some ⟨g55, 0, none⟩)), (11, .pointer (some ⟨g93, 0, none⟩)), (13, .int .i64 b16.1), (78, .agg #[.slice A186 b18.Items.length c187, .int .i64 b18.At]), (79, .slice A6 p5.length c7)]) (obs := []) (by kernel_rfl) ?_ ?_
                    · intro w hs; exact trivial
                    refine at_eff rfl rfl ?_
                    obtain ⟨b19, H190, H⟩ := bind_some H
                    have hm_ := laws_toInt64S.calls (I0 := J182) H190 hr8
                    refine eff_call rfl rfl ok9 rfl rfl (show Meets Try.prog 9 ([.slice A6 p5.length c7] : List Value).toArray _ [] _ from hm_) (Mr := (s188 :: s171 :: s53 :: s153 :: s144 :: s128 :: s110 :: [(g93, .cells #[.slice A89 b16.2.length c90, .int .i64 b7.At] 27 (0, 0))] :: [(g66, .cells #[.slice A62 b13.2.length c63, .int .i64 b5.At] 27 (0, 0))] :: [(g55, .cells #[.slice A51 b4.Items.length c52, .int .i64 b4.At] 27 (0, 0))] :: s27 :: s37 :: [(g10, .cells #[.slice A2 p1.Items.length c3, .int .i64 p1.At] 24 (0, 0))] :: Fs)) (List.Perm.refl _) (fun v191 J192 M193 hq194 hJ195 => ?_)
                    replace hle := hle.trans hJ195
                    replace ho145 := ho145.mono hJ195
                    replace ho172 := ho172.mono hJ195
                    replace ho189 := ho189.mono hJ195
                    replace ho54 := ho54.mono hJ195
                    replace hr4 := hr4.mono hJ195
                    replace hr8 := hr8.mono hJ195
                    obtain ⟨A196, c197, s198, rfl, rfl, ho199⟩ := hq194
                    refine at_seg [4] [5, 6, 7] rfl [] [8, 11, 13, 78, 80, 81] (L2 := [(8, .pointer (some ⟨g55, 0, none⟩)), (11, .pointer (some ⟨g93, 0, none⟩)), (13, .int .i64 b16.1), (78, .agg #[.slice A186 b18.Items.length c187, .int .i64 b18.At]), (80, .slice A196 b19.length c197), (81, .bool p9)]) (obs := []) (by kernel_rfl) ?_ ?_
                    · intro w hs; exact trivial
                    refine at_eff rfl rfl ?_
                    obtain ⟨b20, H200, H⟩ := bind_some H
                    refine eff_lend rfl rfl (post := fun v M => ∃ (A_1 : Option Addr) (c_2 : Nat) (s_3 : Seg), v = .agg #[.slice A_1 b20.Items.length c_2, .int .i64 b20.At] ∧ M = [s_3] ∧ DOwn (DK.sl (Kd.int .i64) 2) 25 J192 A_1 c_2 b20.Items s_3) (lent := [s188, s198]) (Mr := (s171 :: s53 :: s153 :: s144 :: s128 :: s110 :: [(g93, .cells #[.slice A89 b16.2.length c90, .int .i64 b7.At] 27 (0, 0))] :: [(g66, .cells #[.slice A62 b13.2.length c63, .int .i64 b5.At] 27 (0, 0))] :: [(g55, .cells #[.slice A51 b4.Items.length c52, .int .i64 b4.At] 27 (0, 0))] :: s27 :: s37 :: [(g10, .cells #[.slice A2 p1.Items.length c3, .int .i64 p1.At] 24 (0, 0))] :: Fs)) ok26 rfl rfl ?_ (fun v201 M203 hq204 => ?_)
                    · refine Lends.lend (k := 1) rfl (fun J206 hJ207 hin208 => ?_)
                      refine Lends.lend (k := 0) rfl (fun J209 hJ210 hin211 => ?_)
                      have hm_ := impl_RingJoin.calls (I0 := J209) H200 (ho189.rd (hJ207.trans hJ210) (hin208.mono hJ210)) (ho199.rd (hJ207.trans hJ210) hin211)
                      exact Lends.of_meets (Mc := []) (show Meets Try.prog 26 ([.agg #[.slice A186 b18.Items.length c187, .int .i64 b18.At], .slice A196 b19.length c197, .bool p9] : List Value).toArray J209 [] _ from hm_) (fun v J M h_ => by obtain ⟨a0_, a1_, a2_, e1_, e2_, h0_⟩ := h_; exact ⟨a0_, a1_, a2_, e1_, e2_, h0_.flat (fun h => h)⟩) (List.Perm.refl _)
                    obtain ⟨A212, c213, s214, rfl, rfl, ho215⟩ := hq204
                    refine at_eff rfl rfl ?_
                    obtain ⟨i_, hi_, hz_, _, _⟩ := info27
                    refine eff_alloc rfl rfl hi_ hz_ #[.slice none ([] : List (List Int)).length 0, .int .i64 0] rfl (fun g216 => ?_)
                    refine at_eff rfl rfl ?_
                    refine eff_store 0 rfl rfl rfl rfl rfl rfl (.inl (Nat.le_refl _)) rfl (Nat.le_of_ble_eq_true (by kernel_rfl)) rfl ?_
                    refine at_end ?_
                    refine at_thn ?_
                    refine at_seq ?_
                    refine at_seq ?_
                    refine at_ops [0, 1, 2, 3] rfl ?_
                    refine at_seg [0, 1] [2, 3] rfl [(0, .agg #[.slice A212 b20.Items.length c213, .int .i64 b20.At]), (1, .agg #[.slice A51 b4.Items.length c52, .int .i64 b4.At])] [11, 13, 83, 84] (L2 := [(11, .pointer (some ⟨g93, 0, none⟩)), (13, .int .i64 b16.1), (83, .agg #[.slice A212 b20.Items.length c213, .int .i64 b20.At]), (84, .agg #[.slice A51 b4.Items.length c52, .int .i64 b4.At])]) (obs := [fun w => CellsAt w ⟨g216, 0, none⟩ [.slice A212 b20.Items.length c213, .int .i64 b20.At] 0, fun w => CellsAt w ⟨g55, 0, none⟩ [.slice A51 b4.Items.length c52, .int .i64 b4.At] 0]) (by kernel_rfl) ?_ ?_
                    · intro w hs; exact ⟨cellsV (k := 0) hs rfl _ 0 (Nat.le_of_ble_eq_true (by kernel_rfl)) rfl, cellsV (k := 12) hs rfl _ 0 (Nat.le_of_ble_eq_true (by kernel_rfl)) rfl⟩
                    refine at_eff rfl rfl ?_
                    obtain ⟨b21, H217, H⟩ := bind_some H
                    refine eff_read rfl rfl (rv := .bool b21) (Ms' := (s214 :: s53 :: [(g216, .cells #[.slice A212 b20.Items.length c213, .int .i64 b20.At] 27 (0, 0))] :: s188 :: s198 :: s171 :: s153 :: s144 :: s128 :: s110 :: [(g93, .cells #[.slice A89 b16.2.length c90, .int .i64 b7.At] 27 (0, 0))] :: [(g66, .cells #[.slice A62 b13.2.length c63, .int .i64 b5.At] 27 (0, 0))] :: [(g55, .cells #[.slice A51 b4.Items.length c52, .int .i64 b4.At] 27 (0, 0))] :: s27 :: s37 :: [(g10, .cells #[.slice A2 p1.Items.length c3, .int .i64 p1.At] 24 (0, 0))] :: Fs)) ok11 rfl rfl ?_ ?_
                    · refine Reads.lend (k := 3) rfl (fun J218 hJ219 hin220 => ?_)
                      refine Reads.lend (k := 4) rfl (fun J221 hJ222 hin223 => ?_)
                      have hm_ := laws_eqRing.calls (I0 := J221) H217 (ho215.rd (hJ219.trans hJ222) (hin220.mono hJ222)) (ho54.rd (hJ219.trans hJ222) hin223)
                      exact Reads.of_meets (Mr := ([(g216, .cells #[.slice A212 b20.Items.length c213, .int .i64 b20.At] 27 (0, 0))] :: s188 :: s198 :: s171 :: s153 :: s144 :: s128 :: s110 :: [(g93, .cells #[.slice A89 b16.2.length c90, .int .i64 b7.At] 27 (0, 0))] :: [(g66, .cells #[.slice A62 b13.2.length c63, .int .i64 b5.At] 27 (0, 0))] :: [(g55, .cells #[.slice A51 b4.Items.length c52, .int .i64 b4.At] 27 (0, 0))] :: s27 :: s37 :: [(g10, .cells #[.slice A2 p1.Items.length c3, .int .i64 p1.At] 24 (0, 0))] :: Fs)) (show Meets Try.prog 11 ([.agg #[.slice A212 b20.Items.length c213, .int .i64 b20.At], .agg #[.slice A51 b4.Items.length c52, .int .i64 b4.At]] : List Value).toArray J221 [] _ from hm_) (List.Perm.refl _)
                    refine at_seg [3] [] rfl [] [11, 13, 86] (L2 := [(11, .pointer (some ⟨g93, 0, none⟩)), (13, .int .i64 b16.1), (86, .bool (!b21))]) (obs := []) (by kernel_rfl) ?_ ?_
                    · intro w hs; exact trivial
                    refine at_end ?_
                    refine at_thn ?_
                    by_cases h224 : b21 = true
                    · rw [if_pos h224] at H
                      refine at_cond_f rfl (not_ff (h224)) ?_
                      refine at_skip ?_
                      refine at_thn ?_
                      refine at_seq ?_
                      refine at_reg [] [11, 13, 14] (L2 := [(11, .pointer (some ⟨g93, 0, none⟩)), (13, .int .i64 b16.1), (14, .int .i64 1)]) (obs := []) (by kernel_rfl) ?_ ?_
                      · intro w hs; exact trivial
                      refine at_thn ?_
                      refine at_seq ?_
                      refine at_ops [0, 1, 2, 3] rfl ?_
                      refine at_seg [0, 1] [2, 3] rfl [(0, .agg #[.slice A89 b16.2.length c90, .int .i64 b7.At])] [13, 14, 87, 88] (L2 := [(13, .int .i64 b16.1), (14, .int .i64 1), (87, .agg #[.slice A89 b16.2.length c90, .int .i64 b7.At]), (88, .int .i64 1)]) (obs := [fun w => CellsAt w ⟨g93, 0, none⟩ [.slice A89 b16.2.length c90, .int .i64 b7.At] 0]) (by kernel_rfl) ?_ ?_
                      · intro w hs; exact cellsV (k := 10) hs rfl _ 0 (Nat.le_of_ble_eq_true (by kernel_rfl)) rfl
                      refine at_eff rfl rfl ?_
                      obtain ⟨b22, H225, H⟩ := bind_some H
                      refine eff_read rfl rfl (rv := .int .i64 b22) (Ms' := (s171 :: s214 :: s53 :: [(g216, .cells #[.slice A212 b20.Items.length c213, .int .i64 b20.At] 27 (0, 0))] :: s188 :: s198 :: s153 :: s144 :: s128 :: s110 :: [(g93, .cells #[.slice A89 b16.2.length c90, .int .i64 b7.At] 27 (0, 0))] :: [(g66, .cells #[.slice A62 b13.2.length c63, .int .i64 b5.At] 27 (0, 0))] :: [(g55, .cells #[.slice A51 b4.Items.length c52, .int .i64 b4.At] 27 (0, 0))] :: s27 :: s37 :: [(g10, .cells #[.slice A2 p1.Items.length c3, .int .i64 p1.At] 24 (0, 0))] :: Fs)) ok15 rfl rfl ?_ ?_
                      · refine Reads.lend (k := 5) rfl (fun J226 hJ227 hin228 => ?_)
                        have hm_ := laws_heldRing.calls (I0 := J226) H225 (ho172.rd hJ227 hin228)
                        exact Reads.of_meets (Mr := (s214 :: s53 :: [(g216, .cells #[.slice A212 b20.Items.length c213, .int .i64 b20.At] 27 (0, 0))] :: s188 :: s198 :: s153 :: s144 :: s128 :: s110 :: [(g93, .cells #[.slice A89 b16.2.length c90, .int .i64 b7.At] 27 (0, 0))] :: [(g66, .cells #[.slice A62 b13.2.length c63, .int .i64 b5.At] 27 (0, 0))] :: [(g55, .cells #[.slice A51 b4.Items.length c52, .int .i64 b4.At] 27 (0, 0))] :: s27 :: s37 :: [(g10, .cells #[.slice A2 p1.Items.length c3, .int .i64 p1.At] 24 (0, 0))] :: Fs)) (show Meets Try.prog 15 ([.agg #[.slice A89 b16.2.length c90, .int .i64 b7.At], .int .i64 1] : List Value).toArray J226 [] _ from hm_) (List.Perm.refl _)
                      refine at_seg [3] [] rfl [] [13, 14] (L2 := [(13, .int .i64 b16.1), (14, .int .i64 b22)]) (obs := []) (by kernel_rfl) ?_ ?_
                      · intro w hs; exact trivial
                      refine at_end ?_
                      refine at_thn ?_
                      refine at_seq ?_
                      refine at_seq ?_
                      refine at_reg [] [13, 14, 91] (L2 := [(13, .int .i64 b16.1), (14, .int .i64 b22), (91, .bool (decide (b22 < 0)))]) (obs := []) (by kernel_rfl) ?_ ?_
                      · intro w hs; exact trivial
                      refine at_thn ?_
                      by_cases h229 : b22 < 0
                      · rw [if_pos h229] at H
                        refine at_cond_t rfl (decide_eq_true h229) ?_
                        refine at_seq ?_
                        refine at_reg [] [6] (L2 := [(6, .bool false)]) (obs := []) (by kernel_rfl) ?_ ?_
                        · intro w hs; exact trivial
                        refine at_thn ?_
                        refine at_ret ?_
                        refine at_then_ret ?_
                        obtain rfl := Option.some.inj H
                        refine at_drop (k := 0) rfl rfl ?_
                        refine at_drop (k := 0) rfl rfl ?_
                        refine at_drop (k := 0) rfl rfl ?_
                        refine at_drop (k := 0) rfl rfl ?_
                        refine at_drop (k := 0) rfl rfl ?_
                        refine at_drop (k := 0) rfl rfl ?_
                        refine at_drop (k := 0) rfl rfl ?_
                        refine at_drop (k := 0) rfl rfl ?_
                        refine at_drop (k := 0) rfl rfl ?_
                        refine at_drop (k := 0) rfl rfl ?_
                        refine at_drop (k := 0) rfl rfl ?_
                        refine at_drop (k := 0) rfl rfl ?_
                        refine at_drop (k := 0) rfl rfl ?_
                        refine at_drop (k := 0) rfl rfl ?_
                        refine at_drop (k := 0) rfl rfl ?_
                        refine at_drop (k := 0) rfl rfl ?_
                        refine at_done (vs := [.bool false]) (obs := []) (.inl rfl) [.tmp 6] [] rfl (by kernel_rfl) (fun w hs => trivial) (fun w hs => ⟨_, _, [], rfl, ⟨rfl, rfl⟩, hle, hs⟩)
                      · rw [if_neg h229] at H
                        refine at_cond_f rfl (decide_eq_false h229) ?_
                        refine at_skip ?_
                        refine at_thn ?_
                        refine at_seq ?_
                        refine at_seq ?_
                        refine at_reg [] [94] (L2 := [(94, .bool (b22 != b16.1))]) (obs := []) (by kernel_rfl) ?_ ?_
                        · intro w hs; exact trivial
                        refine at_thn ?_
                        by_cases h230 : b22 = b16.1
                        · rw [if_pos h230] at H
                          refine at_cond_f rfl (bne_eq_false_iff_eq.2 h230) ?_
                          refine at_skip ?_
                          refine at_thn ?_
                          refine at_seq ?_
                          refine at_reg [] [6] (L2 := [(6, .bool true)]) (obs := []) (by kernel_rfl) ?_ ?_
                          · intro w hs; exact trivial
                          refine at_thn ?_
                          refine at_ret ?_
                          obtain rfl := Option.some.inj H
                          refine at_drop (k := 0) rfl rfl ?_
                          refine at_drop (k := 0) rfl rfl ?_
                          refine at_drop (k := 0) rfl rfl ?_
                          refine at_drop (k := 0) rfl rfl ?_
                          refine at_drop (k := 0) rfl rfl ?_
                          refine at_drop (k := 0) rfl rfl ?_
                          refine at_drop (k := 0) rfl rfl ?_
                          refine at_drop (k := 0) rfl rfl ?_
                          refine at_drop (k := 0) rfl rfl ?_
                          refine at_drop (k := 0) rfl rfl ?_
                          refine at_drop (k := 0) rfl rfl ?_
                          refine at_drop (k := 0) rfl rfl ?_
                          refine at_drop (k := 0) rfl rfl ?_
                          refine at_drop (k := 0) rfl rfl ?_
                          refine at_drop (k := 0) rfl rfl ?_
                          refine at_drop (k := 0) rfl rfl ?_
                          refine at_done (vs := [.bool true]) (obs := []) (.inl rfl) [.tmp 6] [] rfl (by kernel_rfl) (fun w hs => trivial) (fun w hs => ⟨_, _, [], rfl, ⟨rfl, rfl⟩, hle, hs⟩)
                        · rw [if_neg h230] at H
                          refine at_cond_t rfl (bne_iff_ne.2 h230) ?_
                          refine at_seq ?_
                          refine at_reg [] [6] (L2 := [(6, .bool false)]) (obs := []) (by kernel_rfl) ?_ ?_
                          · intro w hs; exact trivial
                          refine at_thn ?_
                          refine at_ret ?_
                          refine at_then_ret ?_
                          obtain rfl := Option.some.inj H
                          refine at_drop (k := 0) rfl rfl ?_
                          refine at_drop (k := 0) rfl rfl ?_
                          refine at_drop (k := 0) rfl rfl ?_
                          refine at_drop (k := 0) rfl rfl ?_
                          refine at_drop (k := 0) rfl rfl ?_
                          refine at_drop (k := 0) rfl rfl ?_
                          refine at_drop (k := 0) rfl rfl ?_
                          refine at_drop (k := 0) rfl rfl ?_
                          refine at_drop (k := 0) rfl rfl ?_
                          refine at_drop (k := 0) rfl rfl ?_
                          refine at_drop (k := 0) rfl rfl ?_
                          refine at_drop (k := 0) rfl rfl ?_
                          refine at_drop (k := 0) rfl rfl ?_
                          refine at_drop (k := 0) rfl rfl ?_
                          refine at_drop (k := 0) rfl rfl ?_
                          refine at_drop (k := 0) rfl rfl ?_
                          refine at_done (vs := [.bool false]) (obs := []) (.inl rfl) [.tmp 6] [] rfl (by kernel_rfl) (fun w hs => trivial) (fun w hs => ⟨_, _, [], rfl, ⟨rfl, rfl⟩, hle, hs⟩)
                    · rw [if_neg h224] at H
                      refine at_cond_t rfl (not_tt (ff_of h224)) ?_
                      refine at_seq ?_
                      refine at_reg [] [6] (L2 := [(6, .bool false)]) (obs := []) (by kernel_rfl) ?_ ?_
                      · intro w hs; exact trivial
                      refine at_thn ?_
                      refine at_ret ?_
                      refine at_then_ret ?_
                      obtain rfl := Option.some.inj H
                      refine at_drop (k := 0) rfl rfl ?_
                      refine at_drop (k := 0) rfl rfl ?_
                      refine at_drop (k := 0) rfl rfl ?_
                      refine at_drop (k := 0) rfl rfl ?_
                      refine at_drop (k := 0) rfl rfl ?_
                      refine at_drop (k := 0) rfl rfl ?_
                      refine at_drop (k := 0) rfl rfl ?_
                      refine at_drop (k := 0) rfl rfl ?_
                      refine at_drop (k := 0) rfl rfl ?_
                      refine at_drop (k := 0) rfl rfl ?_
                      refine at_drop (k := 0) rfl rfl ?_
                      refine at_drop (k := 0) rfl rfl ?_
                      refine at_drop (k := 0) rfl rfl ?_
                      refine at_drop (k := 0) rfl rfl ?_
                      refine at_drop (k := 0) rfl rfl ?_
                      refine at_drop (k := 0) rfl rfl ?_
                      refine at_done (vs := [.bool false]) (obs := []) (.inl rfl) [.tmp 6] [] rfl (by kernel_rfl) (fun w hs => trivial) (fun w hs => ⟨_, _, [], rfl, ⟨rfl, rfl⟩, hle, hs⟩)
                  · rw [if_neg h179] at H
                    refine at_cond_t rfl (bne_iff_ne.2 h179) ?_
                    refine at_seq ?_
                    refine at_reg [] [6] (L2 := [(6, .bool false)]) (obs := []) (by kernel_rfl) ?_ ?_
                    · intro w hs; exact trivial
                    refine at_thn ?_
                    refine at_ret ?_
                    refine at_then_ret ?_
                    obtain rfl := Option.some.inj H
                    refine at_drop (k := 0) rfl rfl ?_
                    refine at_drop (k := 0) rfl rfl ?_
                    refine at_drop (k := 0) rfl rfl ?_
                    refine at_drop (k := 0) rfl rfl ?_
                    refine at_drop (k := 0) rfl rfl ?_
                    refine at_drop (k := 0) rfl rfl ?_
                    refine at_drop (k := 0) rfl rfl ?_
                    refine at_drop (k := 0) rfl rfl ?_
                    refine at_drop (k := 0) rfl rfl ?_
                    refine at_drop (k := 0) rfl rfl ?_
                    refine at_drop (k := 0) rfl rfl ?_
                    refine at_drop (k := 0) rfl rfl ?_
                    refine at_done (vs := [.bool false]) (obs := []) (.inl rfl) [.tmp 6] [] rfl (by kernel_rfl) (fun w hs => trivial) (fun w hs => ⟨_, _, [], rfl, ⟨rfl, rfl⟩, hle, hs⟩)
              · rw [if_neg h164] at H
                refine at_cond_t rfl (not_tt (ff_of h164)) ?_
                refine at_seq ?_
                refine at_reg [] [6] (L2 := [(6, .bool false)]) (obs := []) (by kernel_rfl) ?_ ?_
                · intro w hs; exact trivial
                refine at_thn ?_
                refine at_ret ?_
                refine at_then_ret ?_
                obtain rfl := Option.some.inj H
                refine at_drop (k := 0) rfl rfl ?_
                refine at_drop (k := 0) rfl rfl ?_
                refine at_drop (k := 0) rfl rfl ?_
                refine at_drop (k := 0) rfl rfl ?_
                refine at_drop (k := 0) rfl rfl ?_
                refine at_drop (k := 0) rfl rfl ?_
                refine at_drop (k := 0) rfl rfl ?_
                refine at_drop (k := 0) rfl rfl ?_
                refine at_drop (k := 0) rfl rfl ?_
                refine at_drop (k := 0) rfl rfl ?_
                refine at_drop (k := 0) rfl rfl ?_
                refine at_drop (k := 0) rfl rfl ?_
                refine at_done (vs := [.bool false]) (obs := []) (.inl rfl) [.tmp 6] [] rfl (by kernel_rfl) (fun w hs => trivial) (fun w hs => ⟨_, _, [], rfl, ⟨rfl, rfl⟩, hle, hs⟩)
          · rw [if_neg h137] at H
            refine at_cond_t rfl (not_tt (ff_of h137)) ?_
            refine at_seq ?_
            refine at_reg [] [6] (L2 := [(6, .bool false)]) (obs := []) (by kernel_rfl) ?_ ?_
            · intro w hs; exact trivial
            refine at_thn ?_
            refine at_ret ?_
            refine at_then_ret ?_
            obtain rfl := Option.some.inj H
            refine at_drop (k := 0) rfl rfl ?_
            refine at_drop (k := 0) rfl rfl ?_
            refine at_drop (k := 0) rfl rfl ?_
            refine at_drop (k := 0) rfl rfl ?_
            refine at_drop (k := 0) rfl rfl ?_
            refine at_drop (k := 0) rfl rfl ?_
            refine at_drop (k := 0) rfl rfl ?_
            refine at_drop (k := 0) rfl rfl ?_
            refine at_drop (k := 0) rfl rfl ?_
            refine at_drop (k := 0) rfl rfl ?_
            refine at_drop (k := 0) rfl rfl ?_
            refine at_drop (k := 0) rfl rfl ?_
            refine at_done (vs := [.bool false]) (obs := []) (.inl rfl) [.tmp 6] [] rfl (by kernel_rfl) (fun w hs => trivial) (fun w hs => ⟨_, _, [], rfl, ⟨rfl, rfl⟩, hle, hs⟩)
        · rw [if_neg h119] at H
          refine at_cond_t rfl (not_tt (ff_of h119)) ?_
          refine at_seq ?_
          refine at_reg [] [6] (L2 := [(6, .bool false)]) (obs := []) (by kernel_rfl) ?_ ?_
          · intro w hs; exact trivial
          refine at_thn ?_
          refine at_ret ?_
          refine at_then_ret ?_
          obtain rfl := Option.some.inj H
          refine at_drop (k := 0) rfl rfl ?_
          refine at_drop (k := 0) rfl rfl ?_
          refine at_drop (k := 0) rfl rfl ?_
          refine at_drop (k := 0) rfl rfl ?_
          refine at_drop (k := 0) rfl rfl ?_
          refine at_drop (k := 0) rfl rfl ?_
          refine at_drop (k := 0) rfl rfl ?_
          refine at_drop (k := 0) rfl rfl ?_
          refine at_drop (k := 0) rfl rfl ?_
          refine at_drop (k := 0) rfl rfl ?_
          refine at_drop (k := 0) rfl rfl ?_
          refine at_done (vs := [.bool false]) (obs := []) (.inl rfl) [.tmp 6] [] rfl (by kernel_rfl) (fun w hs => trivial) (fun w hs => ⟨_, _, [], rfl, ⟨rfl, rfl⟩, hle, hs⟩)
      · rw [if_neg h101] at H
        refine at_cond_t rfl (not_tt (ff_of h101)) ?_
        refine at_seq ?_
        refine at_reg [] [6] (L2 := [(6, .bool false)]) (obs := []) (by kernel_rfl) ?_ ?_
        · intro w hs; exact trivial
        refine at_thn ?_
        refine at_ret ?_
        refine at_then_ret ?_
        obtain rfl := Option.some.inj H
        refine at_drop (k := 0) rfl rfl ?_
        refine at_drop (k := 0) rfl rfl ?_
        refine at_drop (k := 0) rfl rfl ?_
        refine at_drop (k := 0) rfl rfl ?_
        refine at_drop (k := 0) rfl rfl ?_
        refine at_drop (k := 0) rfl rfl ?_
        refine at_drop (k := 0) rfl rfl ?_
        refine at_drop (k := 0) rfl rfl ?_
        refine at_drop (k := 0) rfl rfl ?_
        refine at_drop (k := 0) rfl rfl ?_
        refine at_done (vs := [.bool false]) (obs := []) (.inl rfl) [.tmp 6] [] rfl (by kernel_rfl) (fun w hs => trivial) (fun w hs => ⟨_, _, [], rfl, ⟨rfl, rfl⟩, hle, hs⟩)
end Go.Proofs.Ytabdhegmepaeiaa
