import Derived.Test.YtocfakbgefdgkaaG12
namespace Go.Proofs.Ytocfakbgefdgkaa
open Go Eng
set_option linter.unusedVariables false
set_option linter.unusedSimpArgs false
/-! ### loop.example/g00146/laws.FnRing: function 5 -/
def laws_FnRing_l0 : Nat → Int → (List (List Int)) → Int → T_impl_Ring → T_impl_Ring → Option Bool
  | 0, _, _, _, _, _ => none
  | k + 1, x444, x445, x449, b2, b4 => if x444 < (b2.Items.length : Int) then ((impl_RingTurn k (⟨x445, x449⟩ : T_impl_Ring)).bind fun b11 => (laws_FnRing_l0 k (IntKind.i64.wrap (x444 + 1)) b11.Items b11.At b2 b4)) else ((laws_lwRing k (⟨x445, x449⟩ : T_impl_Ring) b4).bind fun b12 => (some b12))
def laws_FnRing (k : Nat) (p1 : List Int) : Option Bool := if (p1.length : Int) > 1048576 then (some true) else ((spec_DrawRingPush k p1).bind fun b1 => ((spec_RingPush k (⟨b1.1.Items, b1.1.At⟩ : T_impl_Ring) b1.2).bind fun b2 => ((laws_lwCopy b1.2).bind fun b3 => ((impl_RingPush k (⟨b1.1.Items, b1.1.At⟩ : T_impl_Ring) b3).bind fun b4 => ((laws_lwRing k b4 b2).bind fun b5 => (if b5 = true then ((spec_RingRight k (⟨b1.1.Items, b1.1.At⟩ : T_impl_Ring)).bind fun b6 => (if b6 = true then ((spec_PointsRight k b1.2).bind fun b7 => (if b7 = true then (if (b1.2.length : Int) = 0 then (some true) else ((impl_RingRight k b4).bind fun b8 => (if b8 = true then ((impl_RingTop k b4).bind fun b9 => ((laws_lwSame k b9 b1.2).bind fun b10 => (if b10 = true then (laws_FnRing_l0 k 0 b4.Items b4.At b2 b4) else (some false)))) else (some false)))) else (some true))) else (some true))) else (some false)))))))
set_option maxHeartbeats 4000000 in
set_option maxRecDepth 100000 in
theorem laws_FnRing.calls {k : Nat} {p1 : List Int} {r : Bool} {I0 : Imm} {A2 : Option Addr} {c3 : Nat} (H : laws_FnRing k p1 = some r) (hr4 : Rd (Kd.int .u8) I0 A2 c3 p1) :
    Meets Try.prog 5 ([.slice A2 p1.length c3] : List Value).toArray I0 [] (fun v J M => v = .bool r ∧ M = []) := by
  have hle := ImmLe.refl I0
  unfold laws_FnRing at H
  refine fn_intro (fn := Try.f5) 64 Try.func5 rfl rfl rfl (fun E Fs => ?_)
  refine at_seq ?_
  refine at_reg [] [0] (L2 := [(0, .slice A2 p1.length c3)]) (obs := []) (by kernel_rfl) ?_ ?_
  · intro w hs; exact trivial
  refine at_thn ?_
  refine at_seq ?_
  refine at_seq ?_
  refine at_reg [] [0, 11] (L2 := [(0, .slice A2 p1.length c3), (11, .bool (decide ((p1.length : Int) > 1048576)))]) (obs := []) (by kernel_rfl) ?_ ?_
  · intro w hs; exact trivial
  refine at_thn ?_
  by_cases h5 : (p1.length : Int) > 1048576
  · rw [if_pos h5] at H
    refine at_cond_t rfl (decide_eq_true h5) ?_
    refine at_seq ?_
    refine at_reg [] [2] (L2 := [(2, .bool true)]) (obs := []) (by kernel_rfl) ?_ ?_
    · intro w hs; exact trivial
    refine at_thn ?_
    refine at_ret ?_
    refine at_then_ret ?_
    obtain rfl := Option.some.inj H
    refine at_done (vs := [.bool true]) (obs := []) (.inl rfl) [.tmp 2] [] rfl (by kernel_rfl) (fun w hs => trivial) (fun w hs => ⟨_, _, [], rfl, ⟨rfl, rfl⟩, hle, hs⟩)
  · rw [if_neg h5] at H
    refine at_cond_f rfl (decide_eq_false h5) ?_
    refine at_skip ?_
    refine at_thn ?_
    refine at_seq ?_
    refine at_ops [0, 1, 2, 3, 4, 5, 6, 7] rfl ?_
    refine at_seg [0] [1, 2, 3, 4, 5, 6, 7] rfl [] [13] (L2 := [(13, .slice A2 p1.length c3)]) (obs := []) (by kernel_rfl) ?_ ?_
    · intro w hs; exact trivial
    refine at_eff rfl rfl ?_
    obtain ⟨b1, H6, H⟩ := bind_some H
    have hm_ := spec_DrawRingPush.calls (I0 := I0) H6 hr4
    refine eff_call rfl rfl ok22 rfl rfl (show Meets Try.prog 22 ([.slice A2 p1.length c3] : List Value).toArray _ [] _ from hm_) (Mr := (Fs)) (List.Perm.refl _) (fun v7 J8 M9 hq10 hJ11 => ?_)
    replace hle := hle.trans hJ11
    replace hr4 := hr4.mono hJ11
    obtain ⟨A12, c13, s14, A16, c17, s18, rfl, rfl, ho15, ho19⟩ := hq10
    refine at_seg [2, 3, 4] [5, 6, 7] rfl [] [15, 16] (L2 := [(15, .agg #[.slice A12 b1.1.Items.length c13, .int .i64 b1.1.At]), (16, .slice A16 b1.2.length c17)]) (obs := []) (by kernel_rfl) ?_ ?_
    · intro w hs; exact trivial
    refine at_eff rfl rfl ?_
    obtain ⟨i_, hi_, hz_, _, _⟩ := info38
    refine eff_alloc rfl rfl hi_ hz_ #[.slice none ([] : List (List Int)).length 0, .int .i64 0] rfl (fun g20 => ?_)
    refine at_eff rfl rfl ?_
    refine eff_store 0 rfl rfl rfl rfl rfl rfl (.inl (Nat.le_refl _)) rfl (Nat.le_of_ble_eq_true (by kernel_rfl)) rfl ?_
    refine at_seg [7] [] rfl [] [3, 4] (L2 := [(3, .pointer (some ⟨g20, 0, none⟩)), (4, .slice A16 b1.2.length c17)]) (obs := []) (by kernel_rfl) ?_ ?_
    · intro w hs; exact trivial
    refine at_end ?_
    refine at_thn ?_
    refine at_seq ?_
    refine at_ops [0, 1, 2, 3, 4] rfl ?_
    refine at_seg [0, 1] [2, 3, 4] rfl [(0, .agg #[.slice A12 b1.1.Items.length c13, .int .i64 b1.1.At])] [3, 4, 17, 18] (L2 := [(3, .pointer (some ⟨g20, 0, none⟩)), (4, .slice A16 b1.2.length c17), (17, .agg #[.slice A12 b1.1.Items.length c13, .int .i64 b1.1.At]), (18, .slice A16 b1.2.length c17)]) (obs := [fun w => CellsAt w ⟨g20, 0, none⟩ [.slice A12 b1.1.Items.length c13, .int .i64 b1.1.At] 0]) (by kernel_rfl) ?_ ?_
    · intro w hs; exact cellsV (k := 0) hs rfl _ 0 (Nat.le_of_ble_eq_true (by kernel_rfl)) rfl
    refine at_eff rfl rfl ?_
    refine at_freeze (k := 2) rfl rfl (fun J21 hJ22 hin23 => ?_)
    replace hle := hle.trans hJ22
    replace ho15 := ho15.mono hJ22
    replace ho19 := ho19.mono hJ22
    have hr24 := ho19.rd (ImmLe.refl _) hin23
    refine at_freeze (k := 1) rfl rfl (fun J25 hJ26 hin27 => ?_)
    replace hle := hle.trans hJ26
    replace ho15 := ho15.mono hJ26
    replace hr24 := hr24.mono hJ26
    have hr28 := ho15.rd (ImmLe.refl _) hin27
    obtain ⟨b2, H29, H⟩ := bind_some H
    have hm_ := spec_RingPush.calls (I0 := J25) H29 hr28 hr24
    refine eff_call rfl rfl ok13 rfl rfl (show Meets Try.prog 13 ([.agg #[.slice A12 b1.1.Items.length c13, .int .i64 b1.1.At], .slice A16 b1.2.length c17] : List Value).toArray _ [] _ from hm_) (Mr := ([(g20, .cells #[.slice A12 b1.1.Items.length c13, .int .i64 b1.1.At] 38 (0, 0))] :: Fs)) (List.Perm.refl _) (fun v30 J31 M32 hq33 hJ34 => ?_)
    replace hle := hle.trans hJ34
    replace hr24 := hr24.mono hJ34
    replace hr28 := hr28.mono hJ34
    obtain ⟨A35, c36, s37, rfl, rfl, ho38⟩ := hq33
    refine at_eff rfl rfl ?_
    obtain ⟨i_, hi_, hz_, _, _⟩ := info38
    refine eff_alloc rfl rfl hi_ hz_ #[.slice none ([] : List (List Int)).length 0, .int .i64 0] rfl (fun g39 => ?_)
    refine at_eff rfl rfl ?_
    refine eff_store 0 rfl rfl rfl rfl rfl rfl (.inl (Nat.le_refl _)) rfl (Nat.le_of_ble_eq_true (by kernel_rfl)) rfl ?_
    refine at_end ?_
    refine at_thn ?_
    refine at_seq ?_
    refine at_x hmo (fun w => CellsAt w ⟨g20, 0, none⟩ [.slice A12 b1.1.Items.length c13, .int .i64 b1.1.At] 0) [5] ?_
    refine at_xseg [0, 1] 4 (#[true, true, false, false, false, false]) rfl (by kernel_rfl) [(0, .agg #[.slice A12 b1.1.Items.length c13, .int .i64 b1.1.At])] [3, 4, 5, 20, 21] (L2 := [(3, .pointer (some ⟨g20, 0, none⟩)), (4, .slice A16 b1.2.length c17), (5, .pointer (some ⟨g39, 0, none⟩)), (20, .agg #[.slice A12 b1.1.Items.length c13, .int .i64 b1.1.At]), (21, .slice A16 b1.2.length c17)]) (obs := [fun w => CellsAt w ⟨g20, 0, none⟩ [.slice A12 b1.1.Items.length c13, .int .i64 b1.1.At] 0]) (by kernel_rfl) (by kernel_rfl) (by kernel_rfl) (.inr fun w hs => cellsV (k := 2) hs rfl _ 0 (Nat.le_of_ble_eq_true (by kernel_rfl)) rfl) (fun w hS => hS) (fun w hs => cellsV (k := 2) hs rfl _ 0 (Nat.le_of_ble_eq_true (by kernel_rfl)) rfl) ?_
    refine at_xall (fuel := 3) [2, 4] (by kernel_rfl) (by simp) (List.forall_mem_cons.2 ⟨?_, (List.forall_mem_cons.2 ⟨?_, fun _ h => nomatch h⟩)⟩)
    · refine at_xone (#[true, true, true, false, false, false]) (by kernel_rfl) rfl rfl ?_
      obtain ⟨b3, H142, H⟩ := bind_some H
      have hm_ := laws_lwCopy.calls (I0 := J31) H142 hr24
      refine eff_call rfl rfl ok8 rfl rfl (show Meets Try.prog 8 ([.slice A16 b1.2.length c17] : List Value).toArray _ [] _ from hm_) (Mr := ([(g39, .cells #[.slice A35 b2.Items.length c36, .int .i64 b2.At] 38 (0, 0))] :: s37 :: [(g20, .cells #[.slice A12 b1.1.Items.length c13, .int .i64 b1.1.At] 38 (0, 0))] :: Fs)) (List.Perm.refl _) (fun v143 J144 M145 hq146 hJ147 => ?_)
      replace hle := hle.trans hJ147
      replace ho38 := ho38.mono hJ147
      replace hr24 := hr24.mono hJ147
      replace hr28 := hr28.mono hJ147
      obtain ⟨A148, c149, s150, rfl, rfl, ho151⟩ := hq146
      refine at_xS (fun w hs => cellsV (k := 3) hs rfl _ 0 (Nat.le_of_ble_eq_true (by kernel_rfl)) rfl) ?_
      refine at_xall (fuel := 2) [3, 4] (by kernel_rfl) (by simp) (List.forall_mem_cons.2 ⟨?_, (List.forall_mem_cons.2 ⟨?_, fun _ h => nomatch h⟩)⟩)
      · refine at_xone (#[true, true, true, true, false, false]) (by kernel_rfl) rfl rfl ?_
        refine at_freeze (k := 0) rfl rfl (fun J152 hJ153 hin154 => ?_)
        replace hle := hle.trans hJ153
        replace ho151 := ho151.mono hJ153
        replace ho38 := ho38.mono hJ153
        replace hr24 := hr24.mono hJ153
        replace hr28 := hr28.mono hJ153
        have hr155 := ho151.rd (ImmLe.refl _) hin154
        obtain ⟨b4, H156, H⟩ := bind_some H
        have hm_ := impl_RingPush.calls (I0 := J152) H156 hr28 hr155
        refine eff_call rfl rfl ok16 rfl rfl (show Meets Try.prog 16 ([.agg #[.slice A12 b1.1.Items.length c13, .int .i64 b1.1.At], .slice A148 b3.length c149] : List Value).toArray _ [] _ from hm_) (Mr := ([(g39, .cells #[.slice A35 b2.Items.length c36, .int .i64 b2.At] 38 (0, 0))] :: s37 :: [(g20, .cells #[.slice A12 b1.1.Items.length c13, .int .i64 b1.1.At] 38 (0, 0))] :: Fs)) (List.Perm.refl _) (fun v157 J158 M159 hq160 hJ161 => ?_)
        replace hle := hle.trans hJ161
        replace ho38 := ho38.mono hJ161
        replace hr155 := hr155.mono hJ161
        replace hr24 := hr24.mono hJ161
        replace hr28 := hr28.mono hJ161
        obtain ⟨A162, c163, s164, rfl, rfl, ho165⟩ := hq160
        refine at_xS (fun w hs => cellsV (k := 3) hs rfl _ 0 (Nat.le_of_ble_eq_true (by kernel_rfl)) rfl) ?_
        refine at_x1 1 4 (#[true, true, true, true, true, false]) rfl (by kernel_rfl) (by kernel_rfl) rfl rfl ?_
        obtain ⟨i_, hi_, hz_, _, _⟩ := info38
        refine eff_alloc rfl rfl hi_ hz_ #[.slice none ([] : List (List Int)).length 0, .int .i64 0] rfl (fun g166 => ?_)
        refine at_xS (fun w hs => cellsV (k := 4) hs rfl _ 0 (Nat.le_of_ble_eq_true (by kernel_rfl)) rfl) ?_
        refine at_x1 0 5 (#[true, true, true, true, true, true]) rfl (by kernel_rfl) (by kernel_rfl) rfl rfl ?_
        refine eff_store 0 rfl rfl rfl rfl rfl rfl (.inl (Nat.le_refl _)) rfl (Nat.le_of_ble_eq_true (by kernel_rfl)) rfl ?_
        refine at_xX (by kernel_rfl) ?_
        refine at_xend (by kernel_rfl) ?_
        refine at_thn ?_
        refine at_seq ?_
        refine at_seq ?_
        refine at_ops [0, 1, 2, 3] rfl ?_
        refine at_seg [0, 1] [2, 3] rfl [(0, .agg #[.slice A162 b4.Items.length c163, .int .i64 b4.At]), (1, .agg #[.slice A35 b2.Items.length c36, .int .i64 b2.At])] [3, 4, 5, 6, 24, 25] (L2 := [(3, .pointer (some ⟨g20, 0, none⟩)), (4, .slice A16 b1.2.length c17), (5, .pointer (some ⟨g39, 0, none⟩)), (6, .pointer (some ⟨g166, 0, none⟩)), (24, .agg #[.slice A162 b4.Items.length c163, .int .i64 b4.At]), (25, .agg #[.slice A35 b2.Items.length c36, .int .i64 b2.At])]) (obs := [fun w => CellsAt w ⟨g166, 0, none⟩ [.slice A162 b4.Items.length c163, .int .i64 b4.At] 0, fun w => CellsAt w ⟨g39, 0, none⟩ [.slice A35 b2.Items.length c36, .int .i64 b2.At] 0]) (by kernel_rfl) ?_ ?_
        · intro w hs; exact ⟨cellsV (k := 0) hs rfl _ 0 (Nat.le_of_ble_eq_true (by kernel_rfl)) rfl, cellsV (k := 2) hs rfl _ 0 (Nat.le_of_ble_eq_true (by kernel_rfl)) rfl⟩
        refine at_eff rfl rfl ?_
        refine at_freeze (k := 3) rfl rfl (fun J167 hJ168 hin169 => ?_)
        replace hle := hle.trans hJ168
        replace ho165 := ho165.mono hJ168
        replace ho38 := ho38.mono hJ168
        replace hr24 := hr24.mono hJ168
        replace hr28 := hr28.mono hJ168
        have hr170 := ho38.rd (ImmLe.refl _) hin169
        refine at_freeze (k := 1) rfl rfl (fun J171 hJ172 hin173 => ?_)
        replace hle := hle.trans hJ172
        replace ho165 := ho165.mono hJ172
        replace hr170 := hr170.mono hJ172
        replace hr24 := hr24.mono hJ172
        replace hr28 := hr28.mono hJ172
        have hr174 := ho165.rd (ImmLe.refl _) hin173
        obtain ⟨b5, H175, H⟩ := bind_some H
        have hm_ := laws_lwRing.calls (I0 := J171) H175 hr174 hr170
        refine eff_call rfl rfl ok23 rfl rfl (show Meets Try.prog 23 ([.agg #[.slice A162 b4.Items.length c163, .int .i64 b4.At], .agg #[.slice A35 b2.Items.length c36, .int .i64 b2.At]] : List Value).toArray _ [] _ from hm_) (Mr := ([(g166, .cells #[.slice A162 b4.Items.length c163, .int .i64 b4.At] 38 (0, 0))] :: [(g39, .cells #[.slice A35 b2.Items.length c36, .int .i64 b2.At] 38 (0, 0))] :: [(g20, .cells #[.slice A12 b1.1.Items.length c13, .int .i64 b1.1.At] 38 (0, 0))] :: Fs)) (List.Perm.refl _) (fun v176 J177 M178 hq179 hJ180 => ?_)
        replace hle := hle.trans hJ180
        replace hr170 := hr170.mono hJ180
        replace hr174 := hr174.mono hJ180
        replace hr24 := hr24.mono hJ180
        replace hr28 := hr28.mono hJ180
        obtain ⟨rfl, rfl⟩ := hq179
        refine at_seg [3] [] rfl [] [3, 4, 5, 6, 27] (L2 := [(3, .pointer (some ⟨g20, 0, none⟩)), (4, .slice A16 b1.2.length c17), (5, .pointer (some ⟨g39, 0, none⟩)), (6, .pointer (some ⟨g166, 0, none⟩)), (27, .bool (!b5))]) (obs := []) (by kernel_rfl) ?_ ?_
        · intro w hs; exact trivial
        refine at_end ?_
        refine at_thn ?_
        by_cases h181 : b5 = true
        · rw [if_pos h181] at H
          refine at_cond_f rfl (not_ff (h181)) ?_
          refine at_skip ?_
          refine at_thn ?_
          refine at_seq ?_
          refine at_seq ?_
          refine at_ops [0, 1, 2, 3, 4, 5, 6, 7, 8, 9, 10, 11, 12] rfl ?_
          refine at_seg [0] [1, 2, 3, 4, 5, 6, 7, 8, 9, 10, 11, 12] rfl [(0, .agg #[.slice A12 b1.1.Items.length c13, .int .i64 b1.1.At])] [4, 5, 6, 28] (L2 := [(4, .slice A16 b1.2.length c17), (5, .pointer (some ⟨g39, 0, none⟩)), (6, .pointer (some ⟨g166, 0, none⟩)), (28, .agg #[.slice A12 b1.1.Items.length c13, .int .i64 b1.1.At])]) (obs := [fun w => CellsAt w ⟨g20, 0, none⟩ [.slice A12 b1.1.Items.length c13, .int .i64 b1.1.At] 0]) (by kernel_rfl) ?_ ?_
          · intro w hs; exact cellsV (k := 2) hs rfl _ 0 (Nat.le_of_ble_eq_true (by kernel_rfl)) rfl
          refine at_eff rfl rfl ?_
          obtain ⟨b6, H182, H⟩ := bind_some H
          have hm_ := spec_RingRight.calls (I0 := J177) H182 hr28
          refine eff_call rfl rfl ok24 rfl rfl (show Meets Try.prog 24 ([.agg #[.slice A12 b1.1.Items.length c13, .int .i64 b1.1.At]] : List Value).toArray _ [] _ from hm_) (Mr := ([(g166, .cells #[.slice A162 b4.Items.length c163, .int .i64 b4.At] 38 (0, 0))] :: [(g39, .cells #[.slice A35 b2.Items.length c36, .int .i64 b2.At] 38 (0, 0))] :: [(g20, .cells #[.slice A12 b1.1.Items.length c13, .int .i64 b1.1.At] 38 (0, 0))] :: Fs)) (List.Perm.refl _) (fun v183 J184 M185 hq186 hJ187 => ?_)
          replace hle := hle.trans hJ187
          replace hr170 := hr170.mono hJ187
          replace hr174 := hr174.mono hJ187
          replace hr24 := hr24.mono hJ187
          replace hr28 := hr28.mono hJ187
          obtain ⟨rfl, rfl⟩ := hq186
          by_cases h188 : b6 = true
          · rw [if_pos h188] at H
            refine at_seg [2, 3, 4] [5, 6, 7, 8, 9, 10, 11, 12] rfl [(3, .bool false)] [4, 5, 6, 31, 32] (L2 := [(4, .slice A16 b1.2.length c17), (5, .pointer (some ⟨g39, 0, none⟩)), (6, .pointer (some ⟨g166, 0, none⟩)), (31, .bool false), (32, .slice A16 b1.2.length c17)]) (obs := [fun _ => (.bool (!b6) : Value) = .bool false]) (by kernel_rfl) ?_ ?_
            · intro w hs; exact congrArg Value.bool (not_ff (h188))
            refine at_eff rfl rfl ?_
            obtain ⟨b7, H189, H⟩ := bind_some H
            have hm_ := spec_PointsRight.calls (I0 := J184) H189 hr24
            refine eff_call rfl rfl ok25 rfl rfl (show Meets Try.prog 25 ([.slice A16 b1.2.length c17] : List Value).toArray _ [] _ from hm_) (Mr := ([(g166, .cells #[.slice A162 b4.Items.length c163, .int .i64 b4.At] 38 (0, 0))] :: [(g39, .cells #[.slice A35 b2.Items.length c36, .int .i64 b2.At] 38 (0, 0))] :: [(g20, .cells #[.slice A12 b1.1.Items.length c13, .int .i64 b1.1.At] 38 (0, 0))] :: Fs)) (List.Perm.refl _) (fun v190 J191 M192 hq193 hJ194 => ?_)
            replace hle := hle.trans hJ194
            replace hr170 := hr170.mono hJ194
            replace hr174 := hr174.mono hJ194
            replace hr24 := hr24.mono hJ194
            replace hr28 := hr28.mono hJ194
            obtain ⟨rfl, rfl⟩ := hq193
            by_cases h195 : b7 = true
            · rw [if_pos h195] at H
              refine at_seg [6, 7, 8, 9, 10, 11, 12] [] rfl [(8, .bool false)] [4, 5, 6, 40] (L2 := [(4, .slice A16 b1.2.length c17), (5, .pointer (some ⟨g39, 0, none⟩)), (6, .pointer (some ⟨g166, 0, none⟩)), (40, .bool ((b1.2.length : Int) == 0))]) (obs := [fun _ => (.bool (!b7) : Value) = .bool false]) (by kernel_rfl) ?_ ?_
              · intro w hs; exact congrArg Value.bool (not_ff (h195))
              refine at_end ?_
              refine at_thn ?_
              by_cases h196 : (b1.2.length : Int) = 0
              · rw [if_pos h196] at H
                refine at_cond_t rfl (beq_iff_eq.2 h196) ?_
                refine at_seq ?_
                refine at_reg [] [2] (L2 := [(2, .bool true)]) (obs := []) (by kernel_rfl) ?_ ?_
                · intro w hs; exact trivial
                refine at_thn ?_
                refine at_ret ?_
                refine at_then_ret ?_
                obtain rfl := Option.some.inj H
                refine at_drop (k := 0) rfl rfl ?_
                refine at_drop (k := 0) rfl rfl ?_
                refine at_drop (k := 0) rfl rfl ?_
                refine at_done (vs := [.bool true]) (obs := []) (.inl rfl) [.tmp 2] [] rfl (by kernel_rfl) (fun w hs => trivial) (fun w hs => ⟨_, _, [], rfl, ⟨rfl, rfl⟩, hle, hs⟩)
              · rw [if_neg h196] at H
                refine at_cond_f rfl (beq_eq_false_iff_ne.2 h196) ?_
                refine at_skip ?_
                refine at_thn ?_
                refine at_seq ?_
                refine at_seq ?_
                refine at_ops [0, 1, 2, 3, 4, 5, 6, 7, 8, 9] rfl ?_
                refine at_seg [0] [1, 2, 3, 4, 5, 6, 7, 8, 9] rfl [(0, .agg #[.slice A162 b4.Items.length c163, .int .i64 b4.At])] [4, 5, 6, 41] (L2 := [(4, .slice A16 b1.2.length c17), (5, .pointer (some ⟨g39, 0, none⟩)), (6, .pointer (some ⟨g166, 0, none⟩)), (41, .agg #[.slice A162 b4.Items.length c163, .int .i64 b4.At])]) (obs := [fun w => CellsAt w ⟨g166, 0, none⟩ [.slice A162 b4.Items.length c163, .int .i64 b4.At] 0]) (by kernel_rfl) ?_ ?_
                · intro w hs; exact cellsV (k := 0) hs rfl _ 0 (Nat.le_of_ble_eq_true (by kernel_rfl)) rfl
                refine at_eff rfl rfl ?_
                obtain ⟨b8, H197, H⟩ := bind_some H
                have hm_ := impl_RingRight.calls (I0 := J191) H197 hr174
                refine eff_call rfl rfl ok26 rfl rfl (show Meets Try.prog 26 ([.agg #[.slice A162 b4.Items.length c163, .int .i64 b4.At]] : List Value).toArray _ [] _ from hm_) (Mr := ([(g166, .cells #[.slice A162 b4.Items.length c163, .int .i64 b4.At] 38 (0, 0))] :: [(g39, .cells #[.slice A35 b2.Items.length c36, .int .i64 b2.At] 38 (0, 0))] :: [(g20, .cells #[.slice A12 b1.1.Items.length c13, .int .i64 b1.1.At] 38 (0, 0))] :: Fs)) (List.Perm.refl _) (fun v198 J199 M200 hq201 hJ202 => ?_)
                replace hle := hle.trans hJ202
                replace hr170 := hr170.mono hJ202
                replace hr174 := hr174.mono hJ202
                replace hr24 := hr24.mono hJ202
                replace hr28 := hr28.mono hJ202
                obtain ⟨rfl, rfl⟩ := hq201
                by_cases h203 : b8 = true
                · rw [if_pos h203] at H
                  refine at_seg [2, 3, 4] [5, 6, 7, 8, 9] rfl [(3, .bool false), (4, .agg #[.slice A162 b4.Items.length c163, .int .i64 b4.At])] [4, 5, 6, 44, 45] (L2 := [(4, .slice A16 b1.2.length c17), (5, .pointer (some ⟨g39, 0, none⟩)), (6, .pointer (some ⟨g166, 0, none⟩)), (44, .bool false), (45, .agg #[.slice A162 b4.Items.length c163, .int .i64 b4.At])]) (obs := [fun _ => (.bool (!b8) : Value) = .bool false, fun w => CellsAt w ⟨g166, 0, none⟩ [.slice A162 b4.Items.length c163, .int .i64 b4.At] 0]) (by kernel_rfl) ?_ ?_
                  · intro w hs; exact ⟨congrArg Value.bool (not_ff (h203)), cellsV (k := 0) hs rfl _ 0 (Nat.le_of_ble_eq_true (by kernel_rfl)) rfl⟩
                  refine at_eff rfl rfl ?_
                  obtain ⟨b9, H204, H⟩ := bind_some H
                  have hm_ := impl_RingTop.calls (I0 := J199) H204 hr174
                  refine eff_call rfl rfl ok28 rfl rfl (show Meets Try.prog 28 ([.agg #[.slice A162 b4.Items.length c163, .int .i64 b4.At]] : List Value).toArray _ [] _ from hm_) (Mr := ([(g166, .cells #[.slice A162 b4.Items.length c163, .int .i64 b4.At] 38 (0, 0))] :: [(g39, .cells #[.slice A35 b2.Items.length c36, .int .i64 b2.At] 38 (0, 0))] :: [(g20, .cells #[.slice A12 b1.1.Items.length c13, .int .i64 b1.1.At] 38 (0, 0))] :: Fs)) (List.Perm.refl _) (fun v205 J206 M207 hq208 hJ209 => ?_)
                  replace hle := hle.trans hJ209
                  replace hr170 := hr170.mono hJ209
                  replace hr174 := hr174.mono hJ209
                  replace hr24 := hr24.mono hJ209
                  replace hr28 := hr28.mono hJ209
                  obtain ⟨A210, c211, s212, rfl, rfl, ho213⟩ := hq208
                  refine at_seg [6] [7, 8, 9] rfl [] [5, 6, 44, 46, 47] (L2 := [(5, .pointer (some ⟨g39, 0, none⟩)), (6, .pointer (some ⟨g166, 0, none⟩)), (44, .bool false), (46, .slice A210 b9.length c211), (47, .slice A16 b1.2.length c17)]) (obs := []) (by kernel_rfl) ?_ ?_
                  · intro w hs; exact trivial
                  refine at_eff rfl rfl ?_
                  refine at_freeze (k := 0) rfl rfl (fun J214 hJ215 hin216 => ?_)
                  replace hle := hle.trans hJ215
                  replace ho213 := ho213.mono hJ215
                  replace hr170 := hr170.mono hJ215
                  replace hr174 := hr174.mono hJ215
                  replace hr24 := hr24.mono hJ215
                  replace hr28 := hr28.mono hJ215
                  have hr217 := ho213.rd (ImmLe.refl _) hin216
                  obtain ⟨b10, H218, H⟩ := bind_some H
                  have hm_ := laws_lwSame.calls (I0 := J214) H218 hr217 hr24
                  refine eff_call rfl rfl ok27 rfl rfl (show Meets Try.prog 27 ([.slice A210 b9.length c211, .slice A16 b1.2.length c17] : List Value).toArray _ [] _ from hm_) (Mr := ([(g166, .cells #[.slice A162 b4.Items.length c163, .int .i64 b4.At] 38 (0, 0))] :: [(g39, .cells #[.slice A35 b2.Items.length c36, .int .i64 b2.At] 38 (0, 0))] :: [(g20, .cells #[.slice A12 b1.1.Items.length c13, .int .i64 b1.1.At] 38 (0, 0))] :: Fs)) (List.Perm.refl _) (fun v219 J220 M221 hq222 hJ223 => ?_)
                  replace hle := hle.trans hJ223
                  replace hr170 := hr170.mono hJ223
                  replace hr174 := hr174.mono hJ223
                  replace hr217 := hr217.mono hJ223
                  replace hr24 := hr24.mono hJ223
                  replace hr28 := hr28.mono hJ223
                  obtain ⟨rfl, rfl⟩ := hq222
                  refine at_seg [8, 9] [] rfl [] [5, 6, 50] (L2 := [(5, .pointer (some ⟨g39, 0, none⟩)), (6, .pointer (some ⟨g166, 0, none⟩)), (50, .bool (!b10))]) (obs := []) (by kernel_rfl) ?_ ?_
                  · intro w hs; exact trivial
                  refine at_end ?_
                  refine at_thn ?_
                  by_cases h224 : b10 = true
                  · rw [if_pos h224] at H
                    refine at_cond_f rfl (not_ff (h224)) ?_
                    refine at_skip ?_
                    refine at_thn ?_
                    refine at_seq ?_
                    refine at_ops [0, 1, 2] rfl ?_
                    refine at_seg [0] [1, 2] rfl [(0, .agg #[.slice A162 b4.Items.length c163, .int .i64 b4.At])] [5, 6, 51] (L2 := [(5, .pointer (some ⟨g39, 0, none⟩)), (6, .pointer (some ⟨g166, 0, none⟩)), (51, .agg #[.slice A162 b4.Items.length c163, .int .i64 b4.At])]) (obs := [fun w => CellsAt w ⟨g166, 0, none⟩ [.slice A162 b4.Items.length c163, .int .i64 b4.At] 0]) (by kernel_rfl) ?_ ?_
                    · intro w hs; exact cellsV (k := 0) hs rfl _ 0 (Nat.le_of_ble_eq_true (by kernel_rfl)) rfl
                    refine at_eff rfl rfl ?_
                    obtain ⟨i_, hi_, hz_, _, _⟩ := info38
                    refine eff_alloc rfl rfl hi_ hz_ #[.slice none ([] : List (List Int)).length 0, .int .i64 0] rfl (fun g225 => ?_)
                    refine at_eff rfl rfl ?_
                    refine eff_store 0 rfl rfl rfl rfl rfl rfl (.inl (Nat.le_refl _)) rfl (Nat.le_of_ble_eq_true (by kernel_rfl)) rfl ?_
                    refine at_end ?_
                    refine at_thn ?_
                    refine at_seq ?_
                    refine at_seq ?_
                    refine at_reg [] [5, 6, 7, 8] (L2 := [(5, .pointer (some ⟨g39, 0, none⟩)), (6, .pointer (some ⟨g166, 0, none⟩)), (7, .pointer (some ⟨g225, 0, none⟩)), (8, .int .i64 0)]) (obs := []) (by kernel_rfl) ?_ ?_
                    · intro w hs; exact trivial
                    refine at_thn ?_
                    refine at_block ?_
                    refine at_drop (k := 3) rfl rfl ?_
                    refine at_perm ((perm_at (k := 1) rfl).trans ((List.Perm.refl _).cons _)) ?_
                    refine at_keep [5, 6, 7, 8] (L2 := [(5, .pointer (some ⟨g39, 0, none⟩)), (6, .pointer (some ⟨g166, 0, none⟩)), (7, .pointer (some ⟨g225, 0, none⟩)), (8, .int .i64 0)]) rfl ?_
                    refine at_loop (fun k232 L I Ms => ∃ (x226 : Int) (x227 : List (List Int)) (A228 : Option Addr) (c229 : Nat) (x231 : Int), L = [(5, .pointer (some ⟨g39, 0, none⟩)), (6, .pointer (some ⟨g166, 0, none⟩)), (7, .pointer (some ⟨g225, 0, none⟩)), (8, .int .i64 x226)] ∧ Ms = ([(g166, .cells #[.slice A162 b4.Items.length c163, .int .i64 b4.At] 38 (0, 0))] :: [(g225, .cells #[.slice A228 x227.length c229, .int .i64 x231] 38 (0, 0))] :: [(g39, .cells #[.slice A35 b2.Items.length c36, .int .i64 b2.At] 38 (0, 0))] :: Fs) ∧ laws_FnRing_l0 k232 x226 x227 x231 b2 b4 = some r ∧ ImmLe I0 I ∧ k232 ≤ k ∧ Rd (Kd.slice (Kd.int .i64)) I A35 c36 b2.Items ∧ Rd (Kd.slice (Kd.int .i64)) I A162 c163 b4.Items ∧ Rd (Kd.slice (Kd.int .i64)) I A228 c229 x227) ?_ ?_ k ⟨0, b4.Items, A162, c163, b4.At, rfl, rfl, H, hle, Nat.le_refl _, hr170, hr174, hr174⟩
                    · rintro L I Ms ⟨_, _, _, _, _, rfl, rfl, H, _⟩; exact no_none H
                    · clear H hle hr170 hr174
                      intro k232 ih233 L I Ms h_; obtain ⟨x226, x227, A228, c229, x231, hL_, hM_, H, hle, hk234, hr170, hr174, hr230⟩ := h_; rw [hL_, hM_]; clear hL_ hM_ L Ms
                      rw [laws_FnRing_l0] at H
                      refine at_seq ?_
                      refine at_seq ?_
                      refine at_reg [(2, .slice A35 b2.Items.length c36)] [5, 6, 7, 8, 56] (L2 := [(5, .pointer (some ⟨g39, 0, none⟩)), (6, .pointer (some ⟨g166, 0, none⟩)), (7, .pointer (some ⟨g225, 0, none⟩)), (8, .int .i64 x226), (56, .bool (decide (x226 < (b2.Items.length : Int))))]) (obs := [fun w => w.cell? ⟨g39, 0, none⟩ = some (.slice A35 b2.Items.length c36)]) (by kernel_rfl) ?_ ?_
                      · intro w hs; exact hs.var (k := 2) rfl 0 rfl
                      refine at_thn ?_
                      by_cases h235 : x226 < (b2.Items.length : Int)
                      · rw [if_pos h235] at H
                        refine at_cond_t rfl (decide_eq_true h235) ?_
                        refine at_skip ?_
                        refine at_thn ?_
                        refine at_seq ?_
                        refine at_block ?_
                        refine at_ops [0, 1, 2] rfl ?_
                        refine at_seg [0] [1, 2] rfl [(0, .agg #[.slice A228 x227.length c229, .int .i64 x231])] [5, 6, 7, 8, 59] (L2 := [(5, .pointer (some ⟨g39, 0, none⟩)), (6, .pointer (some ⟨g166, 0, none⟩)), (7, .pointer (some ⟨g225, 0, none⟩)), (8, .int .i64 x226), (59, .agg #[.slice A228 x227.length c229, .int .i64 x231])]) (obs := [fun w => CellsAt w ⟨g225, 0, none⟩ [.slice A228 x227.length c229, .int .i64 x231] 0]) (by kernel_rfl) ?_ ?_
                        · intro w hs; exact cellsV (k := 1) hs rfl _ 0 (Nat.le_of_ble_eq_true (by kernel_rfl)) rfl
                        refine at_eff rfl rfl ?_
                        obtain ⟨b11, H236, H⟩ := bind_some H
                        have hm_ := impl_RingTurn.calls (I0 := I) H236 hr230
                        refine eff_call rfl rfl ok29 rfl rfl (show Meets Try.prog 29 ([.agg #[.slice A228 x227.length c229, .int .i64 x231]] : List Value).toArray _ [] _ from hm_) (Mr := ([(g166, .cells #[.slice A162 b4.Items.length c163, .int .i64 b4.At] 38 (0, 0))] :: [(g225, .cells #[.slice A228 x227.length c229, .int .i64 x231] 38 (0, 0))] :: [(g39, .cells #[.slice A35 b2.Items.length c36, .int .i64 b2.At] 38 (0, 0))] :: Fs)) (List.Perm.refl _) (fun v237 J238 M239 hq240 hJ241 => ?_)
                        replace hle := hle.trans hJ241
                        replace hr170 := hr170.mono hJ241
                        replace hr174 := hr174.mono hJ241
                        replace hr230 := hr230.mono hJ241
                        obtain ⟨A242, c243, s244, rfl, rfl, ho245⟩ := hq240
                        refine at_eff rfl rfl ?_
                        refine eff_store 2 rfl rfl rfl rfl rfl rfl (.inl (Nat.le_refl _)) rfl (Nat.le_of_ble_eq_true (by kernel_rfl)) rfl ?_
                        refine at_end ?_
                        refine at_in_norm ?_
                        refine at_thn ?_
                        refine at_reg [] [5, 6, 7, 8] (L2 := [(5, .pointer (some ⟨g39, 0, none⟩)), (6, .pointer (some ⟨g166, 0, none⟩)), (7, .pointer (some ⟨g225, 0, none⟩)), (8, .int .i64 (IntKind.i64.wrap (x226 + 1)))]) (obs := []) (by kernel_rfl) ?_ ?_
                        · intro w hs; exact trivial
                        refine at_thn ?_
                        refine at_freeze (k := 0) rfl rfl (fun J246 hJ247 hin248 => ?_)
                        replace hle := hle.trans hJ247
                        replace ho245 := ho245.mono hJ247
                        replace hr170 := hr170.mono hJ247
                        replace hr174 := hr174.mono hJ247
                        have hr249 := ho245.rd (ImmLe.refl _) hin248
                        refine at_keep [5, 6, 7, 8] (L2 := [(5, .pointer (some ⟨g39, 0, none⟩)), (6, .pointer (some ⟨g166, 0, none⟩)), (7, .pointer (some ⟨g225, 0, none⟩)), (8, .int .i64 (IntKind.i64.wrap (x226 + 1)))]) rfl ?_
                        exact ih233 _ (by omega) _ _ _ ⟨IntKind.i64.wrap (x226 + 1), b11.Items, A242, c243, b11.At, rfl, rfl, H, hle, by omega, hr170, hr174, hr249⟩
                      · rw [if_neg h235] at H
                        refine at_cond_f rfl (decide_eq_false h235) ?_
                        refine at_exit ?_
                        refine at_then_exit ?_
                        refine at_then_exit ?_
                        refine at_in_hit ?_
                        refine at_thn ?_
                        refine at_seq ?_
                        refine at_ops [0, 1, 2, 3] rfl ?_
                        refine at_seg [0, 1] [2, 3] rfl [(0, .agg #[.slice A228 x227.length c229, .int .i64 x231]), (1, .agg #[.slice A162 b4.Items.length c163, .int .i64 b4.At])] [61, 62] (L2 := [(61, .agg #[.slice A228 x227.length c229, .int .i64 x231]), (62, .agg #[.slice A162 b4.Items.length c163, .int .i64 b4.At])]) (obs := [fun w => CellsAt w ⟨g225, 0, none⟩ [.slice A228 x227.length c229, .int .i64 x231] 0, fun w => CellsAt w ⟨g166, 0, none⟩ [.slice A162 b4.Items.length c163, .int .i64 b4.At] 0]) (by kernel_rfl) ?_ ?_
                        · intro w hs; exact ⟨cellsV (k := 1) hs rfl _ 0 (Nat.le_of_ble_eq_true (by kernel_rfl)) rfl, cellsV (k := 0) hs rfl _ 0 (Nat.le_of_ble_eq_true (by kernel_rfl)) rfl⟩
                        refine at_eff rfl rfl ?_
                        obtain ⟨b12, H250, H⟩ := bind_some H
                        have hm_ := laws_lwRing.calls (I0 := I) H250 hr230 hr174
                        refine eff_call rfl rfl ok23 rfl rfl (show Meets Try.prog 23 ([.agg #[.slice A228 x227.length c229, .int .i64 x231], .agg #[.slice A162 b4.Items.length c163, .int .i64 b4.At]] : List Value).toArray _ [] _ from hm_) (Mr := ([(g166, .cells #[.slice A162 b4.Items.length c163, .int .i64 b4.At] 38 (0, 0))] :: [(g225, .cells #[.slice A228 x227.length c229, .int .i64 x231] 38 (0, 0))] :: [(g39, .cells #[.slice A35 b2.Items.length c36, .int .i64 b2.At] 38 (0, 0))] :: Fs)) (List.Perm.refl _) (fun v251 J252 M253 hq254 hJ255 => ?_)
                        replace hle := hle.trans hJ255
                        replace hr170 := hr170.mono hJ255
                        replace hr174 := hr174.mono hJ255
                        replace hr230 := hr230.mono hJ255
                        obtain ⟨rfl, rfl⟩ := hq254
                        refine at_seg [3] [] rfl [] [2] (L2 := [(2, .bool b12)]) (obs := []) (by kernel_rfl) ?_ ?_
                        · intro w hs; exact trivial
                        refine at_end ?_
                        refine at_thn ?_
                        refine at_ret ?_
                        obtain rfl := Option.some.inj H
                        refine at_drop (k := 0) rfl rfl ?_
                        refine at_drop (k := 0) rfl rfl ?_
                        refine at_drop (k := 0) rfl rfl ?_
                        refine at_done (vs := [.bool b12]) (obs := []) (.inl rfl) [.tmp 2] [] rfl (by kernel_rfl) (fun w hs => trivial) (fun w hs => ⟨_, _, [], rfl, ⟨rfl, rfl⟩, hle, hs⟩)
                  · rw [if_neg h224] at H
                    refine at_cond_t rfl (not_tt (ff_of h224)) ?_
                    refine at_seq ?_
                    refine at_reg [] [2] (L2 := [(2, .bool false)]) (obs := []) (by kernel_rfl) ?_ ?_
                    · intro w hs; exact trivial
                    refine at_thn ?_
                    refine at_ret ?_
                    refine at_then_ret ?_
                    obtain rfl := Option.some.inj H
                    refine at_drop (k := 0) rfl rfl ?_
                    refine at_drop (k := 0) rfl rfl ?_
                    refine at_drop (k := 0) rfl rfl ?_
                    refine at_done (vs := [.bool false]) (obs := []) (.inl rfl) [.tmp 2] [] rfl (by kernel_rfl) (fun w hs => trivial) (fun w hs => ⟨_, _, [], rfl, ⟨rfl, rfl⟩, hle, hs⟩)
                · rw [if_neg h203] at H
                  refine at_seg [2, 3, 4] [5, 6, 7, 8, 9] rfl [(3, .bool true)] [4, 5, 6, 44, 45] (L2 := [(4, .slice A16 b1.2.length c17), (5, .pointer (some ⟨g39, 0, none⟩)), (6, .pointer (some ⟨g166, 0, none⟩)), (44, .bool true), (45, undef)]) (obs := [fun _ => (.bool (!b8) : Value) = .bool true]) (by kernel_rfl) ?_ ?_
                  · intro w hs; exact congrArg Value.bool (not_tt (ff_of h203))
                  refine at_seg [5, 6] [7, 8, 9] rfl [] [5, 6, 44, 46, 47] (L2 := [(5, .pointer (some ⟨g39, 0, none⟩)), (6, .pointer (some ⟨g166, 0, none⟩)), (44, .bool true), (46, undef), (47, undef)]) (obs := []) (by kernel_rfl) ?_ ?_
                  · intro w hs; exact trivial
                  refine at_seg [7, 8, 9] [] rfl [] [5, 6, 50] (L2 := [(5, .pointer (some ⟨g39, 0, none⟩)), (6, .pointer (some ⟨g166, 0, none⟩)), (50, .bool true)]) (obs := []) (by kernel_rfl) ?_ ?_
                  · intro w hs; exact trivial
                  refine at_end ?_
                  refine at_thn ?_
                  refine at_cond_t rfl (rfl) ?_
                  refine at_seq ?_
                  refine at_reg [] [2] (L2 := [(2, .bool false)]) (obs := []) (by kernel_rfl) ?_ ?_
                  · intro w hs; exact trivial
                  refine at_thn ?_
                  refine at_ret ?_
                  refine at_then_ret ?_
                  obtain rfl := Option.some.inj H
                  refine at_drop (k := 0) rfl rfl ?_
                  refine at_drop (k := 0) rfl rfl ?_
                  refine at_drop (k := 0) rfl rfl ?_
                  refine at_done (vs := [.bool false]) (obs := []) (.inl rfl) [.tmp 2] [] rfl (by kernel_rfl) (fun w hs => trivial) (fun w hs => ⟨_, _, [], rfl, ⟨rfl, rfl⟩, hle, hs⟩)
            · rw [if_neg h195] at H
              refine at_seg [6, 7, 8, 9, 10, 11, 12] [] rfl [(8, .bool true)] [4, 5, 6, 40] (L2 := [(4, .slice A16 b1.2.length c17), (5, .pointer (some ⟨g39, 0, none⟩)), (6, .pointer (some ⟨g166, 0, none⟩)), (40, .bool true)]) (obs := [fun _ => (.bool (!b7) : Value) = .bool true]) (by kernel_rfl) ?_ ?_
              · intro w hs; exact congrArg Value.bool (not_tt (ff_of h195))
              refine at_end ?_
              refine at_thn ?_
              refine at_cond_t rfl (rfl) ?_
              refine at_seq ?_
              refine at_reg [] [2] (L2 := [(2, .bool true)]) (obs := []) (by kernel_rfl) ?_ ?_
              · intro w hs; exact trivial
              refine at_thn ?_
              refine at_ret ?_
              refine at_then_ret ?_
              obtain rfl := Option.some.inj H
              refine at_drop (k := 0) rfl rfl ?_
              refine at_drop (k := 0) rfl rfl ?_
              refine at_drop (k := 0) rfl rfl ?_
              refine at_done (vs := [.bool true]) (obs := []) (.inl rfl) [.tmp 2] [] rfl (by kernel_rfl) (fun w hs => trivial) (fun w hs => ⟨_, _, [], rfl, ⟨rfl, rfl⟩, hle, hs⟩)
          · rw [if_neg h188] at H
            refine at_seg [2, 3, 4] [5, 6, 7, 8, 9, 10, 11, 12] rfl [(3, .bool true)] [4, 5, 6, 31, 32] (L2 := [(4, .slice A16 b1.2.length c17), (5, .pointer (some ⟨g39, 0, none⟩)), (6, .pointer (some ⟨g166, 0, none⟩)), (31, .bool true), (32, undef)]) (obs := [fun _ => (.bool (!b6) : Value) = .bool true]) (by kernel_rfl) ?_ ?_
            · intro w hs; exact congrArg Value.bool (not_tt (ff_of h188))
            refine at_seg [5, 6, 7, 8, 9, 10, 11, 12] [] rfl [] [4, 5, 6, 40] (L2 := [(4, .slice A16 b1.2.length c17), (5, .pointer (some ⟨g39, 0, none⟩)), (6, .pointer (some ⟨g166, 0, none⟩)), (40, .bool true)]) (obs := []) (by kernel_rfl) ?_ ?_
            · intro w hs; exact trivial
            refine at_end ?_
            refine at_thn ?_
            refine at_cond_t rfl (rfl) ?_
            refine at_seq ?_
            refine at_reg [] [2] (L2 := [(2, .bool true)]) (obs := []) (by kernel_rfl) ?_ ?_
            · intro w hs; exact trivial
            refine at_thn ?_
            refine at_ret ?_
            refine at_then_ret ?_
            obtain rfl := Option.some.inj H
            refine at_drop (k := 0) rfl rfl ?_
            refine at_drop (k := 0) rfl rfl ?_
            refine at_drop (k := 0) rfl rfl ?_
            refine at_done (vs := [.bool true]) (obs := []) (.inl rfl) [.tmp 2] [] rfl (by kernel_rfl) (fun w hs => trivial) (fun w hs => ⟨_, _, [], rfl, ⟨rfl, rfl⟩, hle, hs⟩)
        · rw [if_neg h181] at H
          refine at_cond_t rfl (not_tt (ff_of h181)) ?_
          refine at_seq ?_
          refine at_reg [] [2] (L2 := [(2, .bool false)]) (obs := []) (by kernel_rfl) ?_ ?_
          · intro w hs; exact trivial
          refine at_thn ?_
          refine at_ret ?_
          refine at_then_ret ?_
          obtain rfl := Option.some.inj H
          refine at_drop (k := 0) rfl rfl ?_
          refine at_drop (k := 0) rfl rfl ?_
          refine at_drop (k := 0) rfl rfl ?_
          refine at_done (vs := [.bool false]) (obs := []) (.inl rfl) [.tmp 2] [] rfl (by kernel_rfl) (fun w hs => trivial) (fun w hs => ⟨_, _, [], rfl, ⟨rfl, rfl⟩, hle, hs⟩)
      · refine at_xone (#[true, true, true, false, true, false]) (by kernel_rfl) rfl rfl ?_
        obtain ⟨i_, hi_, hz_, _, _⟩ := info38
        refine eff_alloc rfl rfl hi_ hz_ #[.slice none ([] : List (List Int)).length 0, .int .i64 0] rfl (fun g256 => ?_)
        refine at_xS (fun w hs => cellsV (k := 4) hs rfl _ 0 (Nat.le_of_ble_eq_true (by kernel_rfl)) rfl) ?_
        refine at_x1 1 3 (#[true, true, true, true, true, false]) rfl (by kernel_rfl) (by kernel_rfl) rfl rfl ?_
        refine at_freeze (k := 1) rfl rfl (fun J257 hJ258 hin259 => ?_)
        replace hle := hle.trans hJ258
        replace ho151 := ho151.mono hJ258
        replace ho38 := ho38.mono hJ258
        replace hr24 := hr24.mono hJ258
        replace hr28 := hr28.mono hJ258
        have hr260 := ho151.rd (ImmLe.refl _) hin259
        obtain ⟨b4, H261, H⟩ := bind_some H
        have hm_ := impl_RingPush.calls (I0 := J257) H261 hr28 hr260
        refine eff_call rfl rfl ok16 rfl rfl (show Meets Try.prog 16 ([.agg #[.slice A12 b1.1.Items.length c13, .int .i64 b1.1.At], .slice A148 b3.length c149] : List Value).toArray _ [] _ from hm_) (Mr := ([(g256, .cells #[.slice none ([] : List (List Int)).length 0, .int .i64 0] 38 (0, 0))] :: [(g39, .cells #[.slice A35 b2.Items.length c36, .int .i64 b2.At] 38 (0, 0))] :: s37 :: [(g20, .cells #[.slice A12 b1.1.Items.length c13, .int .i64 b1.1.At] 38 (0, 0))] :: Fs)) (List.Perm.refl _) (fun v262 J263 M264 hq265 hJ266 => ?_)
        replace hle := hle.trans hJ266
        replace ho38 := ho38.mono hJ266
        replace hr24 := hr24.mono hJ266
        replace hr260 := hr260.mono hJ266
        replace hr28 := hr28.mono hJ266
        obtain ⟨A267, c268, s269, rfl, rfl, ho270⟩ := hq265
        refine at_xS (fun w hs => cellsV (k := 4) hs rfl _ 0 (Nat.le_of_ble_eq_true (by kernel_rfl)) rfl) ?_
        refine at_x1 0 5 (#[true, true, true, true, true, true]) rfl (by kernel_rfl) (by kernel_rfl) rfl rfl ?_
        refine eff_store 1 rfl rfl rfl rfl rfl rfl (.inl (Nat.le_refl _)) rfl (Nat.le_of_ble_eq_true (by kernel_rfl)) rfl ?_
        refine at_xX (by kernel_rfl) ?_
        refine at_xend (by kernel_rfl) ?_
        refine at_thn ?_
        refine at_seq ?_
        refine at_seq ?_
        refine at_ops [0, 1, 2, 3] rfl ?_
        refine at_seg [0, 1] [2, 3] rfl [(0, .agg #[.slice A267 b4.Items.length c268, .int .i64 b4.At]), (1, .agg #[.slice A35 b2.Items.length c36, .int .i64 b2.At])] [3, 4, 5, 6, 24, 25] (L2 := [(3, .pointer (some ⟨g20, 0, none⟩)), (4, .slice A16 b1.2.length c17), (5, .pointer (some ⟨g39, 0, none⟩)), (6, .pointer (some ⟨g256, 0, none⟩)), (24, .agg #[.slice A267 b4.Items.length c268, .int .i64 b4.At]), (25, .agg #[.slice A35 b2.Items.length c36, .int .i64 b2.At])]) (obs := [fun w => CellsAt w ⟨g256, 0, none⟩ [.slice A267 b4.Items.length c268, .int .i64 b4.At] 0, fun w => CellsAt w ⟨g39, 0, none⟩ [.slice A35 b2.Items.length c36, .int .i64 b2.At] 0]) (by kernel_rfl) ?_ ?_
        · intro w hs; exact ⟨cellsV (k := 1) hs rfl _ 0 (Nat.le_of_ble_eq_true (by kernel_rfl)) rfl, cellsV (k := 2) hs rfl _ 0 (Nat.le_of_ble_eq_true (by kernel_rfl)) rfl⟩
        refine at_eff rfl rfl ?_
        refine at_freeze (k := 3) rfl rfl (fun J271 hJ272 hin273 => ?_)
        replace hle := hle.trans hJ272
        replace ho270 := ho270.mono hJ272
        replace ho38 := ho38.mono hJ272
        replace hr24 := hr24.mono hJ272
        replace hr28 := hr28.mono hJ272
        have hr274 := ho38.rd (ImmLe.refl _) hin273
        refine at_freeze (k := 0) rfl rfl (fun J275 hJ276 hin277 => ?_)
        replace hle := hle.trans hJ276
        replace ho270 := ho270.mono hJ276
        replace hr24 := hr24.mono hJ276
        replace hr274 := hr274.mono hJ276
        replace hr28 := hr28.mono hJ276
        have hr278 := ho270.rd (ImmLe.refl _) hin277
        obtain ⟨b5, H279, H⟩ := bind_some H
        have hm_ := laws_lwRing.calls (I0 := J275) H279 hr278 hr274
        refine eff_call rfl rfl ok23 rfl rfl (show Meets Try.prog 23 ([.agg #[.slice A267 b4.Items.length c268, .int .i64 b4.At], .agg #[.slice A35 b2.Items.length c36, .int .i64 b2.At]] : List Value).toArray _ [] _ from hm_) (Mr := ([(g256, .cells #[.slice A267 b4.Items.length c268, .int .i64 b4.At] 38 (0, 0))] :: [(g39, .cells #[.slice A35 b2.Items.length c36, .int .i64 b2.At] 38 (0, 0))] :: [(g20, .cells #[.slice A12 b1.1.Items.length c13, .int .i64 b1.1.At] 38 (0, 0))] :: Fs)) (List.Perm.refl _) (fun v280 J281 M282 hq283 hJ284 => ?_)
        replace hle := hle.trans hJ284
        replace hr24 := hr24.mono hJ284
        replace hr274 := hr274.mono hJ284
        replace hr278 := hr278.mono hJ284
        replace hr28 := hr28.mono hJ284
        obtain ⟨rfl, rfl⟩ := hq283
        refine at_seg [3] [] rfl [] [3, 4, 5, 6, 27] (L2 := [(3, .pointer (some ⟨g20, 0, none⟩)), (4, .slice A16 b1.2.length c17), (5, .pointer (some ⟨g39, 0, none⟩)), (6, .pointer (some ⟨g256, 0, none⟩)), (27, .bool (!b5))]) (obs := []) (by kernel_rfl) ?_ ?_
        · intro w hs; exact trivial
        refine at_end ?_
        refine at_thn ?_
        by_cases h285 : b5 = true
        · rw [if_pos h285] at H
          refine at_cond_f rfl (not_ff (h285)) ?_
          refine at_skip ?_
          refine at_thn ?_
          refine at_seq ?_
          refine at_seq ?_
          refine at_ops [0, 1, 2, 3, 4, 5, 6, 7, 8, 9, 10, 11, 12] rfl ?_
          refine at_seg [0] [1, 2, 3, 4, 5, 6, 7, 8, 9, 10, 11, 12] rfl [(0, .agg #[.slice A12 b1.1.Items.length c13, .int .i64 b1.1.At])] [4, 5, 6, 28] (L2 := [(4, .slice A16 b1.2.length c17), (5, .pointer (some ⟨g39, 0, none⟩)), (6, .pointer (some ⟨g256, 0, none⟩)), (28, .agg #[.slice A12 b1.1.Items.length c13, .int .i64 b1.1.At])]) (obs := [fun w => CellsAt w ⟨g20, 0, none⟩ [.slice A12 b1.1.Items.length c13, .int .i64 b1.1.At] 0]) (by kernel_rfl) ?_ ?_
          · intro w hs; exact cellsV (k := 2) hs rfl _ 0 (Nat.le_of_ble_eq_true (by kernel_rfl)) rfl
          refine at_eff rfl rfl ?_
          obtain ⟨b6, H286, H⟩ := bind_some H
          have hm_ := spec_RingRight.calls (I0 := J281) H286 hr28
          refine eff_call rfl rfl ok24 rfl rfl (show Meets Try.prog 24 ([.agg #[.slice A12 b1.1.Items.length c13, .int .i64 b1.1.At]] : List Value).toArray _ [] _ from hm_) (Mr := ([(g256, .cells #[.slice A267 b4.Items.length c268, .int .i64 b4.At] 38 (0, 0))] :: [(g39, .cells #[.slice A35 b2.Items.length c36, .int .i64 b2.At] 38 (0, 0))] :: [(g20, .cells #[.slice A12 b1.1.Items.length c13, .int .i64 b1.1.At] 38 (0, 0))] :: Fs)) (List.Perm.refl _) (fun v287 J288 M289 hq290 hJ291 => ?_)
          replace hle := hle.trans hJ291
          replace hr24 := hr24.mono hJ291
          replace hr274 := hr274.mono hJ291
          replace hr278 := hr278.mono hJ291
          replace hr28 := hr28.mono hJ291
          obtain ⟨rfl, rfl⟩ := hq290
          by_cases h292 : b6 = true
          · rw [if_pos h292] at H
            refine at_seg [2, 3, 4] [5, 6, 7, 8, 9, 10, 11, 12] rfl [(3, .bool false)] [4, 5, 6, 31, 32] (L2 := [(4, .slice A16 b1.2.length c17), (5, .pointer (some ⟨g39, 0, none⟩)), (6, .pointer (some ⟨g256, 0, none⟩)), (31, .bool false), (32, .slice A16 b1.2.length c17)]) (obs := [fun _ => (.bool (!b6) : Value) = .bool false]) (by kernel_rfl) ?_ ?_
            · intro w hs; exact congrArg Value.bool (not_ff (h292))
            refine at_eff rfl rfl ?_
            obtain ⟨b7, H293, H⟩ := bind_some H
            have hm_ := spec_PointsRight.calls (I0 := J288) H293 hr24
            refine eff_call rfl rfl ok25 rfl rfl (show Meets Try.prog 25 ([.slice A16 b1.2.length c17] : List Value).toArray _ [] _ from hm_) (Mr := ([(g256, .cells #[.slice A267 b4.Items.length c268, .int .i64 b4.At] 38 (0, 0))] :: [(g39, .cells #[.slice A35 b2.Items.length c36, .int .i64 b2.At] 38 (0, 0))] :: [(g20, .cells #[.slice A12 b1.1.Items.length c13, .int .i64 b1.1.At] 38 (0, 0))] :: Fs)) (List.Perm.refl _) (fun v294 J295 M296 hq297 hJ298 => ?_)
            replace hle := hle.trans hJ298
            replace hr24 := hr24.mono hJ298
            replace hr274 := hr274.mono hJ298
            replace hr278 := hr278.mono hJ298
            replace hr28 := hr28.mono hJ298
            obtain ⟨rfl, rfl⟩ := hq297
            by_cases h299 : b7 = true
            · rw [if_pos h299] at H
              refine at_seg [6, 7, 8, 9, 10, 11, 12] [] rfl [(8, .bool false)] [4, 5, 6, 40] (L2 := [(4, .slice A16 b1.2.length c17), (5, .pointer (some ⟨g39, 0, none⟩)), (6, .pointer (some ⟨g256, 0, none⟩)), (40, .bool ((b1.2.length : Int) == 0))]) (obs := [fun _ => (.bool (!b7) : Value) = .bool false]) (by kernel_rfl) ?_ ?_
              · intro w hs; exact congrArg Value.bool (not_ff (h299))
              refine at_end ?_
              refine at_thn ?_
              by_cases h300 : (b1.2.length : Int) = 0
              · rw [if_pos h300] at H
                refine at_cond_t rfl (beq_iff_eq.2 h300) ?_
                refine at_seq ?_
                refine at_reg [] [2] (L2 := [(2, .bool true)]) (obs := []) (by kernel_rfl) ?_ ?_
                · intro w hs; exact trivial
                refine at_thn ?_
                refine at_ret ?_
                refine at_then_ret ?_
                obtain rfl := Option.some.inj H
                refine at_drop (k := 0) rfl rfl ?_
                refine at_drop (k := 0) rfl rfl ?_
                refine at_drop (k := 0) rfl rfl ?_
                refine at_done (vs := [.bool true]) (obs := []) (.inl rfl) [.tmp 2] [] rfl (by kernel_rfl) (fun w hs => trivial) (fun w hs => ⟨_, _, [], rfl, ⟨rfl, rfl⟩, hle, hs⟩)
              · rw [if_neg h300] at H
                refine at_cond_f rfl (beq_eq_false_iff_ne.2 h300) ?_
                refine at_skip ?_
                refine at_thn ?_
                refine at_seq ?_
                refine at_seq ?_
                refine at_ops [0, 1, 2, 3, 4, 5, 6, 7, 8, 9] rfl ?_
                refine at_seg [0] [1, 2, 3, 4, 5, 6, 7, 8, 9] rfl [(0, .agg #[.slice A267 b4.Items.length c268, .int .i64 b4.At])] [4, 5, 6, 41] (L2 := [(4, .slice A16 b1.2.length c17), (5, .pointer (some ⟨g39, 0, none⟩)), (6, .pointer (some ⟨g256, 0, none⟩)), (41, .agg #[.slice A267 b4.Items.length c268, .int .i64 b4.At])]) (obs := [fun w => CellsAt w ⟨g256, 0, none⟩ [.slice A267 b4.Items.length c268, .int .i64 b4.At] 0]) (by kernel_rfl) ?_ ?_
                · intro w hs; exact cellsV (k := 0) hs rfl _ 0 (Nat.le_of_ble_eq_true (by kernel_rfl)) rfl
                refine at_eff rfl rfl ?_
                obtain ⟨b8, H301, H⟩ := bind_some H
                have hm_ := impl_RingRight.calls (I0 := J295) H301 hr278
                refine eff_call rfl rfl ok26 rfl rfl (show Meets Try.prog 26 ([.agg #[.slice A267 b4.Items.length c268, .int .i64 b4.At]] : List Value).toArray _ [] _ from hm_) (Mr := ([(g256, .cells #[.slice A267 b4.Items.length c268, .int .i64 b4.At] 38 (0, 0))] :: [(g39, .cells #[.slice A35 b2.Items.length c36, .int .i64 b2.At] 38 (0, 0))] :: [(g20, .cells #[.slice A12 b1.1.Items.length c13, .int .i64 b1.1.At] 38 (0, 0))] :: Fs)) (List.Perm.refl _) (fun v302 J303 M304 hq305 hJ306 => ?_)
                replace hle := hle.trans hJ306
                replace hr24 := hr24.mono hJ306
                replace hr274 := hr274.mono hJ306
                replace hr278 := hr278.mono hJ306
                replace hr28 := hr28.mono hJ306
                obtain ⟨rfl, rfl⟩ := hq305
                by_cases h307 : b8 = true
                · rw [if_pos h307] at H
                  refine at_seg [2, 3, 4] [5, 6, 7, 8, 9] rfl [(3, .bool false), (4, .agg #[.slice A267 b4.Items.length c268, .int .i64 b4.At])] [4, 5, 6, 44, 45] (L2 := [(4, .slice A16 b1.2.length c17), (5, .pointer (some ⟨g39, 0, none⟩)), (6, .pointer (some ⟨g256, 0, none⟩)), (44, .bool false), (45, .agg #[.slice A267 b4.Items.length c268, .int .i64 b4.At])]) (obs := [fun _ => (.bool (!b8) : Value) = .bool false, fun w => CellsAt w ⟨g256, 0, none⟩ [.slice A267 b4.Items.length c268, .int .i64 b4.At] 0]) (by kernel_rfl) ?_ ?_
                  · intro w hs; exact ⟨congrArg Value.bool (not_ff (h307)), cellsV (k := 0) hs rfl _ 0 (Nat.le_of_ble_eq_true (by kernel_rfl)) rfl⟩
                  refine at_eff rfl rfl ?_
                  obtain ⟨b9, H308, H⟩ := bind_some H
                  have hm_ := impl_RingTop.calls (I0 := J303) H308 hr278
                  refine eff_call rfl rfl ok28 rfl rfl (show Meets Try.prog 28 ([.agg #[.slice A267 b4.Items.length c268, .int .i64 b4.At]] : List Value).toArray _ [] _ from hm_) (Mr := ([(g256, .cells #[.slice A267 b4.Items.length c268, .int .i64 b4.At] 38 (0, 0))] :: [(g39, .cells #[.slice A35 b2.Items.length c36, .int .i64 b2.At] 38 (0, 0))] :: [(g20, .cells #[.slice A12 b1.1.Items.length c13, .int .i64 b1.1.At] 38 (0, 0))] :: Fs)) (List.Perm.refl _) (fun v309 J310 M311 hq312 hJ313 => ?_)
                  replace hle := hle.trans hJ313
                  replace hr24 := hr24.mono hJ313
                  replace hr274 := hr274.mono hJ313
                  replace hr278 := hr278.mono hJ313
                  replace hr28 := hr28.mono hJ313
                  obtain ⟨A314, c315, s316, rfl, rfl, ho317⟩ := hq312
                  refine at_seg [6] [7, 8, 9] rfl [] [5, 6, 44, 46, 47] (L2 := [(5, .pointer (some ⟨g39, 0, none⟩)), (6, .pointer (some ⟨g256, 0, none⟩)), (44, .bool false), (46, .slice A314 b9.length c315), (47, .slice A16 b1.2.length c17)]) (obs := []) (by kernel_rfl) ?_ ?_
                  · intro w hs; exact trivial
                  refine at_eff rfl rfl ?_
                  refine at_freeze (k := 0) rfl rfl (fun J318 hJ319 hin320 => ?_)
                  replace hle := hle.trans hJ319
                  replace ho317 := ho317.mono hJ319
                  replace hr24 := hr24.mono hJ319
                  replace hr274 := hr274.mono hJ319
                  replace hr278 := hr278.mono hJ319
                  replace hr28 := hr28.mono hJ319
                  have hr321 := ho317.rd (ImmLe.refl _) hin320
                  obtain ⟨b10, H322, H⟩ := bind_some H
                  have hm_ := laws_lwSame.calls (I0 := J318) H322 hr321 hr24
                  refine eff_call rfl rfl ok27 rfl rfl (show Meets Try.prog 27 ([.slice A314 b9.length c315, .slice A16 b1.2.length c17] : List Value).toArray _ [] _ from hm_) (Mr := ([(g256, .cells #[.slice A267 b4.Items.length c268, .int .i64 b4.At] 38 (0, 0))] :: [(g39, .cells #[.slice A35 b2.Items.length c36, .int .i64 b2.At] 38 (0, 0))] :: [(g20, .cells #[.slice A12 b1.1.Items.length c13, .int .i64 b1.1.At] 38 (0, 0))] :: Fs)) (List.Perm.refl _) (fun v323 J324 M325 hq326 hJ327 => ?_)
                  replace hle := hle.trans hJ327
                  replace hr24 := hr24.mono hJ327
                  replace hr274 := hr274.mono hJ327
                  replace hr278 := hr278.mono hJ327
                  replace hr28 := hr28.mono hJ327
                  replace hr321 := hr321.mono hJ327
                  obtain ⟨rfl, rfl⟩ := hq326
                  refine at_seg [8, 9] [] rfl [] [5, 6, 50] (L2 := [(5, .pointer (some ⟨g39, 0, none⟩)), (6, .pointer (some ⟨g256, 0, none⟩)), (50, .bool (!b10))]) (obs := []) (by kernel_rfl) ?_ ?_
                  · intro w hs; exact trivial
                  refine at_end ?_
                  refine at_thn ?_
                  by_cases h328 : b10 = true
                  · rw [if_pos h328] at H
                    refine at_cond_f rfl (not_ff (h328)) ?_
                    refine at_skip ?_
                    refine at_thn ?_
                    refine at_seq ?_
                    refine at_ops [0, 1, 2] rfl ?_
                    refine at_seg [0] [1, 2] rfl [(0, .agg #[.slice A267 b4.Items.length c268, .int .i64 b4.At])] [5, 6, 51] (L2 := [(5, .pointer (some ⟨g39, 0, none⟩)), (6, .pointer (some ⟨g256, 0, none⟩)), (51, .agg #[.slice A267 b4.Items.length c268, .int .i64 b4.At])]) (obs := [fun w => CellsAt w ⟨g256, 0, none⟩ [.slice A267 b4.Items.length c268, .int .i64 b4.At] 0]) (by kernel_rfl) ?_ ?_
                    · intro w hs; exact cellsV (k := 0) hs rfl _ 0 (Nat.le_of_ble_eq_true (by kernel_rfl)) rfl
                    refine at_eff rfl rfl ?_
                    obtain ⟨i_, hi_, hz_, _, _⟩ := info38
                    refine eff_alloc rfl rfl hi_ hz_ #[.slice none ([] : List (List Int)).length 0, .int .i64 0] rfl (fun g329 => ?_)
                    refine at_eff rfl rfl ?_
                    refine eff_store 0 rfl rfl rfl rfl rfl rfl (.inl (Nat.le_refl _)) rfl (Nat.le_of_ble_eq_true (by kernel_rfl)) rfl ?_
                    refine at_end ?_
                    refine at_thn ?_
                    refine at_seq ?_
                    refine at_seq ?_
                    refine at_reg [] [5, 6, 7, 8] (L2 := [(5, .pointer (some ⟨g39, 0, none⟩)), (6, .pointer (some ⟨g256, 0, none⟩)), (7, .pointer (some ⟨g329, 0, none⟩)), (8, .int .i64 0)]) (obs := []) (by kernel_rfl) ?_ ?_
                    · intro w hs; exact trivial
                    refine at_thn ?_
                    refine at_block ?_
                    refine at_drop (k := 3) rfl rfl ?_
                    refine at_perm ((perm_at (k := 1) rfl).trans ((List.Perm.refl _).cons _)) ?_
                    refine at_keep [5, 6, 7, 8] (L2 := [(5, .pointer (some ⟨g39, 0, none⟩)), (6, .pointer (some ⟨g256, 0, none⟩)), (7, .pointer (some ⟨g329, 0, none⟩)), (8, .int .i64 0)]) rfl ?_
                    refine at_loop (fun k336 L I Ms => ∃ (x330 : Int) (x331 : List (List Int)) (A332 : Option Addr) (c333 : Nat) (x335 : Int), L = [(5, .pointer (some ⟨g39, 0, none⟩)), (6, .pointer (some ⟨g256, 0, none⟩)), (7, .pointer (some ⟨g329, 0, none⟩)), (8, .int .i64 x330)] ∧ Ms = ([(g256, .cells #[.slice A267 b4.Items.length c268, .int .i64 b4.At] 38 (0, 0))] :: [(g329, .cells #[.slice A332 x331.length c333, .int .i64 x335] 38 (0, 0))] :: [(g39, .cells #[.slice A35 b2.Items.length c36, .int .i64 b2.At] 38 (0, 0))] :: Fs) ∧ laws_FnRing_l0 k336 x330 x331 x335 b2 b4 = some r ∧ ImmLe I0 I ∧ k336 ≤ k ∧ Rd (Kd.slice (Kd.int .i64)) I A35 c36 b2.Items ∧ Rd (Kd.slice (Kd.int .i64)) I A267 c268 b4.Items ∧ Rd (Kd.slice (Kd.int .i64)) I A332 c333 x331) ?_ ?_ k ⟨0, b4.Items, A267, c268, b4.At, rfl, rfl, H, hle, Nat.le_refl _, hr274, hr278, hr278⟩
                    · rintro L I Ms ⟨_, _, _, _, _, rfl, rfl, H, _⟩; exact no_none H
                    · clear H hle hr274 hr278
                      intro k336 ih337 L I Ms h_; obtain ⟨x330, x331, A332, c333, x335, hL_, hM_, H, hle, hk338, hr274, hr278, hr334⟩ := h_; rw [hL_, hM_]; clear hL_ hM_ L Ms
                      rw [laws_FnRing_l0] at H
                      refine at_seq ?_
                      refine at_seq ?_
                      refine at_reg [(2, .slice A35 b2.Items.length c36)] [5, 6, 7, 8, 56] (L2 := [(5, .pointer (some ⟨g39, 0, none⟩)), (6, .pointer (some ⟨g256, 0, none⟩)), (7, .pointer (some ⟨g329, 0, none⟩)), (8, .int .i64 x330), (56, .bool (decide (x330 < (b2.Items.length : Int))))]) (obs := [fun w => w.cell? ⟨g39, 0, none⟩ = some (.slice A35 b2.Items.length c36)]) (by kernel_rfl) ?_ ?_
                      · intro w hs; exact hs.var (k := 2) rfl 0 rfl
                      refine at_thn ?_
                      by_cases h339 : x330 < (b2.Items.length : Int)
                      · rw [if_pos h339] at H
                        refine at_cond_t rfl (decide_eq_true h339) ?_
                        refine at_skip ?_
                        refine at_thn ?_
                        refine at_seq ?_
                        refine at_block ?_
                        refine at_ops [0, 1, 2] rfl ?_
                        refine at_seg [0] [1, 2] rfl [(0, .agg #[.slice A332 x331.length c333, .int .i64 x335])] [5, 6, 7, 8, 59] (L2 := [(5, .pointer (some ⟨g39, 0, none⟩)), (6, .pointer (some ⟨g256, 0, none⟩)), (7, .pointer (some ⟨g329, 0, none⟩)), (8, .int .i64 x330), (59, .agg #[.slice A332 x331.length c333, .int .i64 x335])]) (obs := [fun w => CellsAt w ⟨g329, 0, none⟩ [.slice A332 x331.length c333, .int .i64 x335] 0]) (by kernel_rfl) ?_ ?_
                        · intro w hs; exact cellsV (k := 1) hs rfl _ 0 (Nat.le_of_ble_eq_true (by kernel_rfl)) rfl
                        refine at_eff rfl rfl ?_
                        obtain ⟨b11, H340, H⟩ := bind_some H
                        have hm_ := impl_RingTurn.calls (I0 := I) H340 hr334
                        refine eff_call rfl rfl ok29 rfl rfl (show Meets Try.prog 29 ([.agg #[.slice A332 x331.length c333, .int .i64 x335]] : List Value).toArray _ [] _ from hm_) (Mr := ([(g256, .cells #[.slice A267 b4.Items.length c268, .int .i64 b4.At] 38 (0, 0))] :: [(g329, .cells #[.slice A332 x331.length c333, .int .i64 x335] 38 (0, 0))] :: [(g39, .cells #[.slice A35 b2.Items.length c36, .int .i64 b2.At] 38 (0, 0))] :: Fs)) (List.Perm.refl _) (fun v341 J342 M343 hq344 hJ345 => ?_)
                        replace hle := hle.trans hJ345
                        replace hr274 := hr274.mono hJ345
                        replace hr278 := hr278.mono hJ345
                        replace hr334 := hr334.mono hJ345
                        obtain ⟨A346, c347, s348, rfl, rfl, ho349⟩ := hq344
                        refine at_eff rfl rfl ?_
                        refine eff_store 2 rfl rfl rfl rfl rfl rfl (.inl (Nat.le_refl _)) rfl (Nat.le_of_ble_eq_true (by kernel_rfl)) rfl ?_
                        refine at_end ?_
                        refine at_in_norm ?_
                        refine at_thn ?_
                        refine at_reg [] [5, 6, 7, 8] (L2 := [(5, .pointer (some ⟨g39, 0, none⟩)), (6, .pointer (some ⟨g256, 0, none⟩)), (7, .pointer (some ⟨g329, 0, none⟩)), (8, .int .i64 (IntKind.i64.wrap (x330 + 1)))]) (obs := []) (by kernel_rfl) ?_ ?_
                        · intro w hs; exact trivial
                        refine at_thn ?_
                        refine at_freeze (k := 0) rfl rfl (fun J350 hJ351 hin352 => ?_)
                        replace hle := hle.trans hJ351
                        replace ho349 := ho349.mono hJ351
                        replace hr274 := hr274.mono hJ351
                        replace hr278 := hr278.mono hJ351
                        have hr353 := ho349.rd (ImmLe.refl _) hin352
                        refine at_keep [5, 6, 7, 8] (L2 := [(5, .pointer (some ⟨g39, 0, none⟩)), (6, .pointer (some ⟨g256, 0, none⟩)), (7, .pointer (some ⟨g329, 0, none⟩)), (8, .int .i64 (IntKind.i64.wrap (x330 + 1)))]) rfl ?_
                        exact ih337 _ (by omega) _ _ _ ⟨IntKind.i64.wrap (x330 + 1), b11.Items, A346, c347, b11.At, rfl, rfl, H, hle, by omega, hr274, hr278, hr353⟩
                      · rw [if_neg h339] at H
                        refine at_cond_f rfl (decide_eq_false h339) ?_
                        refine at_exit ?_
                        refine at_then_exit ?_
                        refine at_then_exit ?_
                        refine at_in_hit ?_
                        refine at_thn ?_
                        refine at_seq ?_
                        refine at_ops [0, 1, 2, 3] rfl ?_
                        refine at_seg [0, 1] [2, 3] rfl [(0, .agg #[.slice A332 x331.length c333, .int .i64 x335]), (1, .agg #[.slice A267 b4.Items.length c268, .int .i64 b4.At])] [61, 62] (L2 := [(61, .agg #[.slice A332 x331.length c333, .int .i64 x335]), (62, .agg #[.slice A267 b4.Items.length c268, .int .i64 b4.At])]) (obs := [fun w => CellsAt w ⟨g329, 0, none⟩ [.slice A332 x331.length c333, .int .i64 x335] 0, fun w => CellsAt w ⟨g256, 0, none⟩ [.slice A267 b4.Items.length c268, .int .i64 b4.At] 0]) (by kernel_rfl) ?_ ?_
                        · intro w hs; exact ⟨cellsV (k := 1) hs rfl _ 0 (Nat.le_of_ble_eq_true (by kernel_rfl)) rfl, cellsV (k := 0) hs rfl _ 0 (Nat.le_of_ble_eq_true (by kernel_rfl)) rfl⟩
                        refine at_eff rfl rfl ?_
                        obtain ⟨b12, H354, H⟩ := bind_some H
                        have hm_ := laws_lwRing.calls (I0 := I) H354 hr334 hr278
                        refine eff_call rfl rfl ok23 rfl rfl (show Meets Try.prog 23 ([.agg #[.slice A332 x331.length c333, .int .i64 x335], .agg #[.slice A267 b4.Items.length c268, .int .i64 b4.At]] : List Value).toArray _ [] _ from hm_) (Mr := ([(g256, .cells #[.slice A267 b4.Items.length c268, .int .i64 b4.At] 38 (0, 0))] :: [(g329, .cells #[.slice A332 x331.length c333, .int .i64 x335] 38 (0, 0))] :: [(g39, .cells #[.slice A35 b2.Items.length c36, .int .i64 b2.At] 38 (0, 0))] :: Fs)) (List.Perm.refl _) (fun v355 J356 M357 hq358 hJ359 => ?_)
                        replace hle := hle.trans hJ359
                        replace hr274 := hr274.mono hJ359
                        replace hr278 := hr278.mono hJ359
                        replace hr334 := hr334.mono hJ359
                        obtain ⟨rfl, rfl⟩ := hq358
                        refine at_seg [3] [] rfl [] [2] (L2 := [(2, .bool b12)]) (obs := []) (by kernel_rfl) ?_ ?_
                        · intro w hs; exact trivial
                        refine at_end ?_
                        refine at_thn ?_
                        refine at_ret ?_
                        obtain rfl := Option.some.inj H
                        refine at_drop (k := 0) rfl rfl ?_
                        refine at_drop (k := 0) rfl rfl ?_
                        refine at_drop (k := 0) rfl rfl ?_
                        refine at_done (vs := [.bool b12]) (obs := []) (.inl rfl) [.tmp 2] [] rfl (by kernel_rfl) (fun w hs => trivial) (fun w hs => ⟨_, _, [], rfl, ⟨rfl, rfl⟩, hle, hs⟩)
                  · rw [if_neg h328] at H
                    refine at_cond_t rfl (not_tt (ff_of h328)) ?_
                    refine at_seq ?_
                    refine at_reg [] [2] (L2 := [(2, .bool false)]) (obs := []) (by kernel_rfl) ?_ ?_
                    · intro w hs; exact trivial
                    refine at_thn ?_
                    refine at_ret ?_
                    refine at_then_ret ?_
                    obtain rfl := Option.some.inj H
                    refine at_drop (k := 0) rfl rfl ?_
                    refine at_drop (k := 0) rfl rfl ?_
                    refine at_drop (k := 0) rfl rfl ?_
                    refine at_done (vs := [.bool false]) (obs := []) (.inl rfl) [.tmp 2] [] rfl (by kernel_rfl) (fun w hs => trivial) (fun w hs => ⟨_, _, [], rfl, ⟨rfl, rfl⟩, hle, hs⟩)
                · rw [if_neg h307] at H
                  refine at_seg [2, 3, 4] [5, 6, 7, 8, 9] rfl [(3, .bool true)] [4, 5, 6, 44, 45] (L2 := [(4, .slice A16 b1.2.length c17), (5, .pointer (some ⟨g39, 0, none⟩)), (6, .pointer (some ⟨g256, 0, none⟩)), (44, .bool true), (45, undef)]) (obs := [fun _ => (.bool (!b8) : Value) = .bool true]) (by kernel_rfl) ?_ ?_
                  · intro w hs; exact congrArg Value.bool (not_tt (ff_of h307))
                  refine at_seg [5, 6] [7, 8, 9] rfl [] [5, 6, 44, 46, 47] (L2 := [(5, .pointer (some ⟨g39, 0, none⟩)), (6, .pointer (some ⟨g256, 0, none⟩)), (44, .bool true), (46, undef), (47, undef)]) (obs := []) (by kernel_rfl) ?_ ?_
                  · intro w hs; exact trivial
                  refine at_seg [7, 8, 9] [] rfl [] [5, 6, 50] (L2 := [(5, .pointer (some ⟨g39, 0, none⟩)), (6, .pointer (some ⟨g256, 0, none⟩)), (50, .bool true)]) (obs := []) (by kernel_rfl) ?_ ?_
                  · intro w hs; exact trivial
                  refine at_end ?_
                  refine at_thn ?_
                  refine at_cond_t rfl (rfl) ?_
                  refine at_seq ?_
                  refine at_reg [] [2] (L2 := [(2, .bool false)]) (obs := []) (by kernel_rfl) ?_ ?_
                  · intro w hs; exact trivial
                  refine at_thn ?_
                  refine at_ret ?_
                  refine at_then_ret ?_
                  obtain rfl := Option.some.inj H
                  refine at_drop (k := 0) rfl rfl ?_
                  refine at_drop (k := 0) rfl rfl ?_
                  refine at_drop (k := 0) rfl rfl ?_
                  refine at_done (vs := [.bool false]) (obs := []) (.inl rfl) [.tmp 2] [] rfl (by kernel_rfl) (fun w hs => trivial) (fun w hs => ⟨_, _, [], rfl, ⟨rfl, rfl⟩, hle, hs⟩)
            · rw [if_neg h299] at H
              refine at_seg [6, 7, 8, 9, 10, 11, 12] [] rfl [(8, .bool true)] [4, 5, 6, 40] (L2 := [(4, .slice A16 b1.2.length c17), (5, .pointer (some ⟨g39, 0, none⟩)), (6, .pointer (some ⟨g256, 0, none⟩)), (40, .bool true)]) (obs := [fun _ => (.bool (!b7) : Value) = .bool true]) (by kernel_rfl) ?_ ?_
              · intro w hs; exact congrArg Value.bool (not_tt (ff_of h299))
              refine at_end ?_
              refine at_thn ?_
              refine at_cond_t rfl (rfl) ?_
              refine at_seq ?_
              refine at_reg [] [2] (L2 := [(2, .bool true)]) (obs := []) (by kernel_rfl) ?_ ?_
              · intro w hs; exact trivial
              refine at_thn ?_
              refine at_ret ?_
              refine at_then_ret ?_
              obtain rfl := Option.some.inj H
              refine at_drop (k := 0) rfl rfl ?_
              refine at_drop (k := 0) rfl rfl ?_
              refine at_drop (k := 0) rfl rfl ?_
              refine at_done (vs := [.bool true]) (obs := []) (.inl rfl) [.tmp 2] [] rfl (by kernel_rfl) (fun w hs => trivial) (fun w hs => ⟨_, _, [], rfl, ⟨rfl, rfl⟩, hle, hs⟩)
          · rw [if_neg h292] at H
            refine at_seg [2, 3, 4] [5, 6, 7, 8, 9, 10, 11, 12] rfl [(3, .bool true)] [4, 5, 6, 31, 32] (L2 := [(4, .slice A16 b1.2.length c17), (5, .pointer (some ⟨g39, 0, none⟩)), (6, .pointer (some ⟨g256, 0, none⟩)), (31, .bool true), (32, undef)]) (obs := [fun _ => (.bool (!b6) : Value) = .bool true]) (by kernel_rfl) ?_ ?_
            · intro w hs; exact congrArg Value.bool (not_tt (ff_of h292))
            refine at_seg [5, 6, 7, 8, 9, 10, 11, 12] [] rfl [] [4, 5, 6, 40] (L2 := [(4, .slice A16 b1.2.length c17), (5, .pointer (some ⟨g39, 0, none⟩)), (6, .pointer (some ⟨g256, 0, none⟩)), (40, .bool true)]) (obs := []) (by kernel_rfl) ?_ ?_
            · intro w hs; exact trivial
            refine at_end ?_
            refine at_thn ?_
            refine at_cond_t rfl (rfl) ?_
            refine at_seq ?_
            refine at_reg [] [2] (L2 := [(2, .bool true)]) (obs := []) (by kernel_rfl) ?_ ?_
            · intro w hs; exact trivial
            refine at_thn ?_
            refine at_ret ?_
            refine at_then_ret ?_
            obtain rfl := Option.some.inj H
            refine at_drop (k := 0) rfl rfl ?_
            refine at_drop (k := 0) rfl rfl ?_
            refine at_drop (k := 0) rfl rfl ?_
            refine at_done (vs := [.bool true]) (obs := []) (.inl rfl) [.tmp 2] [] rfl (by kernel_rfl) (fun w hs => trivial) (fun w hs => ⟨_, _, [], rfl, ⟨rfl, rfl⟩, hle, hs⟩)
        · rw [if_neg h285] at H
          refine at_cond_t rfl (not_tt (ff_of h285)) ?_
          refine at_seq ?_
          refine at_reg [] [2] (L2 := [(2, .bool false)]) (obs := []) (by kernel_rfl) ?_ ?_
          · intro w hs; exact trivial
          refine at_thn ?_
          refine at_ret ?_
          refine at_then_ret ?_
          obtain rfl := Option.some.inj H
          refine at_drop (k := 0) rfl rfl ?_
          refine at_drop (k := 0) rfl rfl ?_
          refine at_drop (k := 0) rfl rfl ?_
          refine at_done (vs := [.bool false]) (obs := []) (.inl rfl) [.tmp 2] [] rfl (by kernel_rfl) (fun w hs => trivial) (fun w hs => ⟨_, _, [], rfl, ⟨rfl, rfl⟩, hle, hs⟩)
    · refine at_xone (#[true, true, false, false, true, false]) (by kernel_rfl) rfl rfl ?_
      obtain ⟨i_, hi_, hz_, _, _⟩ := info38
      refine eff_alloc rfl rfl hi_ hz_ #[.slice none ([] : List (List Int)).length 0, .int .i64 0] rfl (fun g360 => ?_)
      refine at_xS (fun w hs => cellsV (k := 3) hs rfl _ 0 (Nat.le_of_ble_eq_true (by kernel_rfl)) rfl) ?_
      refine at_x1 2 2 (#[true, true, true, false, true, false]) rfl (by kernel_rfl) (by kernel_rfl) rfl rfl ?_
      obtain ⟨b3, H361, H⟩ := bind_some H
      have hm_ := laws_lwCopy.calls (I0 := J31) H361 hr24
      refine eff_call rfl rfl ok8 rfl rfl (show Meets Try.prog 8 ([.slice A16 b1.2.length c17] : List Value).toArray _ [] _ from hm_) (Mr := ([(g360, .cells #[.slice none ([] : List (List Int)).length 0, .int .i64 0] 38 (0, 0))] :: [(g39, .cells #[.slice A35 b2.Items.length c36, .int .i64 b2.At] 38 (0, 0))] :: s37 :: [(g20, .cells #[.slice A12 b1.1.Items.length c13, .int .i64 b1.1.At] 38 (0, 0))] :: Fs)) (List.Perm.refl _) (fun v362 J363 M364 hq365 hJ366 => ?_)
      replace hle := hle.trans hJ366
      replace ho38 := ho38.mono hJ366
      replace hr24 := hr24.mono hJ366
      replace hr28 := hr28.mono hJ366
      obtain ⟨A367, c368, s369, rfl, rfl, ho370⟩ := hq365
      refine at_xS (fun w hs => cellsV (k := 4) hs rfl _ 0 (Nat.le_of_ble_eq_true (by kernel_rfl)) rfl) ?_
      refine at_x1 1 3 (#[true, true, true, true, true, false]) rfl (by kernel_rfl) (by kernel_rfl) rfl rfl ?_
      refine at_freeze (k := 0) rfl rfl (fun J371 hJ372 hin373 => ?_)
      replace hle := hle.trans hJ372
      replace ho370 := ho370.mono hJ372
      replace ho38 := ho38.mono hJ372
      replace hr24 := hr24.mono hJ372
      replace hr28 := hr28.mono hJ372
      have hr374 := ho370.rd (ImmLe.refl _) hin373
      obtain ⟨b4, H375, H⟩ := bind_some H
      have hm_ := impl_RingPush.calls (I0 := J371) H375 hr28 hr374
      refine eff_call rfl rfl ok16 rfl rfl (show Meets Try.prog 16 ([.agg #[.slice A12 b1.1.Items.length c13, .int .i64 b1.1.At], .slice A367 b3.length c368] : List Value).toArray _ [] _ from hm_) (Mr := ([(g360, .cells #[.slice none ([] : List (List Int)).length 0, .int .i64 0] 38 (0, 0))] :: [(g39, .cells #[.slice A35 b2.Items.length c36, .int .i64 b2.At] 38 (0, 0))] :: s37 :: [(g20, .cells #[.slice A12 b1.1.Items.length c13, .int .i64 b1.1.At] 38 (0, 0))] :: Fs)) (List.Perm.refl _) (fun v376 J377 M378 hq379 hJ380 => ?_)
      replace hle := hle.trans hJ380
      replace ho38 := ho38.mono hJ380
      replace hr24 := hr24.mono hJ380
      replace hr28 := hr28.mono hJ380
      replace hr374 := hr374.mono hJ380
      obtain ⟨A381, c382, s383, rfl, rfl, ho384⟩ := hq379
      refine at_xS (fun w hs => cellsV (k := 4) hs rfl _ 0 (Nat.le_of_ble_eq_true (by kernel_rfl)) rfl) ?_
      refine at_x1 0 5 (#[true, true, true, true, true, true]) rfl (by kernel_rfl) (by kernel_rfl) rfl rfl ?_
      refine eff_store 1 rfl rfl rfl rfl rfl rfl (.inl (Nat.le_refl _)) rfl (Nat.le_of_ble_eq_true (by kernel_rfl)) rfl ?_
      refine at_xX (by kernel_rfl) ?_
      refine at_xend (by kernel_rfl) ?_
      refine at_thn ?_
      refine at_seq ?_
      refine at_seq ?_
      refine at_ops [0, 1, 2, 3] rfl ?_
      refine at_seg [0, 1] [2, 3] rfl [(0, .agg #[.slice A381 b4.Items.length c382, .int .i64 b4.At]), (1, .agg #[.slice A35 b2.Items.length c36, .int .i64 b2.At])] [3, 4, 5, 6, 24, 25] (L2 := [(3, .pointer (some ⟨g20, 0, none⟩)), (4, .slice A16 b1.2.length c17), (5, .pointer (some ⟨g39, 0, none⟩)), (6, .pointer (some ⟨g360, 0, none⟩)), (24, .agg #[.slice A381 b4.Items.length c382, .int .i64 b4.At]), (25, .agg #[.slice A35 b2.Items.length c36, .int .i64 b2.At])]) (obs := [fun w => CellsAt w ⟨g360, 0, none⟩ [.slice A381 b4.Items.length c382, .int .i64 b4.At] 0, fun w => CellsAt w ⟨g39, 0, none⟩ [.slice A35 b2.Items.length c36, .int .i64 b2.At] 0]) (by kernel_rfl) ?_ ?_
      · intro w hs; exact ⟨cellsV (k := 1) hs rfl _ 0 (Nat.le_of_ble_eq_true (by kernel_rfl)) rfl, cellsV (k := 2) hs rfl _ 0 (Nat.le_of_ble_eq_true (by kernel_rfl)) rfl⟩
      refine at_eff rfl rfl ?_
      refine at_freeze (k := 3) rfl rfl (fun J385 hJ386 hin387 => ?_)
      replace hle := hle.trans hJ386
      replace ho38 := ho38.mono hJ386
      replace ho384 := ho384.mono hJ386
      replace hr24 := hr24.mono hJ386
      replace hr28 := hr28.mono hJ386
      have hr388 := ho38.rd (ImmLe.refl _) hin387
      refine at_freeze (k := 0) rfl rfl (fun J389 hJ390 hin391 => ?_)
      replace hle := hle.trans hJ390
      replace ho384 := ho384.mono hJ390
      replace hr24 := hr24.mono hJ390
      replace hr28 := hr28.mono hJ390
      replace hr388 := hr388.mono hJ390
      have hr392 := ho384.rd (ImmLe.refl _) hin391
      obtain ⟨b5, H393, H⟩ := bind_some H
      have hm_ := laws_lwRing.calls (I0 := J389) H393 hr392 hr388
      refine eff_call rfl rfl ok23 rfl rfl (show Meets Try.prog 23 ([.agg #[.slice A381 b4.Items.length c382, .int .i64 b4.At], .agg #[.slice A35 b2.Items.length c36, .int .i64 b2.At]] : List Value).toArray _ [] _ from hm_) (Mr := ([(g360, .cells #[.slice A381 b4.Items.length c382, .int .i64 b4.At] 38 (0, 0))] :: [(g39, .cells #[.slice A35 b2.Items.length c36, .int .i64 b2.At] 38 (0, 0))] :: [(g20, .cells #[.slice A12 b1.1.Items.length c13, .int .i64 b1.1.At] 38 (0, 0))] :: Fs)) (List.Perm.refl _) (fun v394 J395 M396 hq397 hJ398 => ?_)
      replace hle := hle.trans hJ398
      replace hr24 := hr24.mono hJ398
      replace hr28 := hr28.mono hJ398
      replace hr388 := hr388.mono hJ398
      replace hr392 := hr392.mono hJ398
      obtain ⟨rfl, rfl⟩ := hq397
      refine at_seg [3] [] rfl [] [3, 4, 5, 6, 27] (L2 := [(3, .pointer (some ⟨g20, 0, none⟩)), (4, .slice A16 b1.2.length c17), (5, .pointer (some ⟨g39, 0, none⟩)), (6, .pointer (some ⟨g360, 0, none⟩)), (27, .bool (!b5))]) (obs := []) (by kernel_rfl) ?_ ?_
      · intro w hs; exact trivial
      refine at_end ?_
      refine at_thn ?_
      by_cases h399 : b5 = true
      · rw [if_pos h399] at H
        refine at_cond_f rfl (not_ff (h399)) ?_
        refine at_skip ?_
        refine at_thn ?_
        refine at_seq ?_
        refine at_seq ?_
        refine at_ops [0, 1, 2, 3, 4, 5, 6, 7, 8, 9, 10, 11, 12] rfl ?_
        refine at_seg [0] [1, 2, 3, 4, 5, 6, 7, 8, 9, 10, 11, 12] rfl [(0, .agg #[.slice A12 b1.1.Items.length c13, .int .i64 b1.1.At])] [4, 5, 6, 28] (L2 := [(4, .slice A16 b1.2.length c17), (5, .pointer (some ⟨g39, 0, none⟩)), (6, .pointer (some ⟨g360, 0, none⟩)), (28, .agg #[.slice A12 b1.1.Items.length c13, .int .i64 b1.1.At])]) (obs := [fun w => CellsAt w ⟨g20, 0, none⟩ [.slice A12 b1.1.Items.length c13, .int .i64 b1.1.At] 0]) (by kernel_rfl) ?_ ?_
        · intro w hs; exact cellsV (k := 2) hs rfl _ 0 (Nat.le_of_ble_eq_true (by kernel_rfl)) rfl
        refine at_eff rfl rfl ?_
        obtain ⟨b6, H400, H⟩ := bind_some H
        have hm_ := spec_RingRight.calls (I0 := J395) H400 hr28
        refine eff_call rfl rfl ok24 rfl rfl (show Meets Try.prog 24 ([.agg #[.slice A12 b1.1.Items.length c13, .int .i64 b1.1.At]] : List Value).toArray _ [] _ from hm_) (Mr := ([(g360, .cells #[.slice A381 b4.Items.length c382, .int .i64 b4.At] 38 (0, 0))] :: [(g39, .cells #[.slice A35 b2.Items.length c36, .int .i64 b2.At] 38 (0, 0))] :: [(g20, .cells #[.slice A12 b1.1.Items.length c13, .int .i64 b1.1.At] 38 (0, 0))] :: Fs)) (List.Perm.refl _) (fun v401 J402 M403 hq404 hJ405 => ?_)
        replace hle := hle.trans hJ405
        replace hr24 := hr24.mono hJ405
        replace hr28 := hr28.mono hJ405
        replace hr388 := hr388.mono hJ405
        replace hr392 := hr392.mono hJ405
        obtain ⟨rfl, rfl⟩ := hq404
        by_cases h406 : b6 = true
        · rw [if_pos h406] at H
          refine at_seg [2, 3, 4] [5, 6, 7, 8, 9, 10, 11, 12] rfl [(3, .bool false)] [4, 5, 6, 31, 32] (L2 := [(4, .slice A16 b1.2.length c17), (5, .pointer (some ⟨g39, 0, none⟩)), (6, .pointer (some ⟨g360, 0, none⟩)), (31, .bool false), (32, .slice A16 b1.2.length c17)]) (obs := [fun _ => (.bool (!b6) : Value) = .bool false]) (by kernel_rfl) ?_ ?_
          · intro w hs; exact congrArg Value.bool (not_ff (h406))
          refine at_eff rfl rfl ?_
          obtain ⟨b7, H407, H⟩ := bind_some H
          have hm_ := spec_PointsRight.calls (I0 := J402) H407 hr24
          refine eff_call rfl rfl ok25 rfl rfl (show Meets Try.prog 25 ([.slice A16 b1.2.length c17] : List Value).toArray _ [] _ from hm_) (Mr := ([(g360, .cells #[.slice A381 b4.Items.length c382, .int .i64 b4.At] 38 (0, 0))] :: [(g39, .cells #[.slice A35 b2.Items.length c36, .int .i64 b2.At] 38 (0, 0))] :: [(g20, .cells #[.slice A12 b1.1.Items.length c13, .int .i64 b1.1.At] 38 (0, 0))] :: Fs)) (List.Perm.refl _) (fun v408 J409 M410 hq411 hJ412 => ?_)
          replace hle := hle.trans hJ412
          replace hr24 := hr24.mono hJ412
          replace hr28 := hr28.mono hJ412
          replace hr388 := hr388.mono hJ412
          replace hr392 := hr392.mono hJ412
          obtain ⟨rfl, rfl⟩ := hq411
          by_cases h413 : b7 = true
          · rw [if_pos h413] at H
            refine at_seg [6, 7, 8, 9, 10, 11, 12] [] rfl [(8, .bool false)] [4, 5, 6, 40] (L2 := [(4, .slice A16 b1.2.length c17), (5, .pointer (some ⟨g39, 0, none⟩)), (6, .pointer (some ⟨g360, 0, none⟩)), (40, .bool ((b1.2.length : Int) == 0))]) (obs := [fun _ => (.bool (!b7) : Value) = .bool false]) (by kernel_rfl) ?_ ?_
            · intro w hs; exact congrArg Value.bool (not_ff (h413))
            refine at_end ?_
            refine at_thn ?_
            by_cases h414 : (b1.2.length : Int) = 0
            · rw [if_pos h414] at H
              refine at_cond_t rfl (beq_iff_eq.2 h414) ?_
              refine at_seq ?_
              refine at_reg [] [2] (L2 := [(2, .bool true)]) (obs := []) (by kernel_rfl) ?_ ?_
              · intro w hs; exact trivial
              refine at_thn ?_
              refine at_ret ?_
              refine at_then_ret ?_
              obtain rfl := Option.some.inj H
              refine at_drop (k := 0) rfl rfl ?_
              refine at_drop (k := 0) rfl rfl ?_
              refine at_drop (k := 0) rfl rfl ?_
              refine at_done (vs := [.bool true]) (obs := []) (.inl rfl) [.tmp 2] [] rfl (by kernel_rfl) (fun w hs => trivial) (fun w hs => ⟨_, _, [], rfl, ⟨rfl, rfl⟩, hle, hs⟩)
            · rw [if_neg h414] at H
              refine at_cond_f rfl (beq_eq_false_iff_ne.2 h414) ?_
              refine at_skip ?_
              refine at_thn ?_
              refine at_seq ?_
              refine at_seq ?_
              refine at_ops [0, 1, 2, 3, 4, 5, 6, 7, 8, 9] rfl ?_
              refine at_seg [0] [1, 2, 3, 4, 5, 6, 7, 8, 9] rfl [(0, .agg #[.slice A381 b4.Items.length c382, .int .i64 b4.At])] [4, 5, 6, 41] (L2 := [(4, .slice A16 b1.2.length c17), (5, .pointer (some ⟨g39, 0, none⟩)), (6, .pointer (some ⟨g360, 0, none⟩)), (41, .agg #[.slice A381 b4.Items.length c382, .int .i64 b4.At])]) (obs := [fun w => CellsAt w ⟨g360, 0, none⟩ [.slice A381 b4.Items.length c382, .int .i64 b4.At] 0]) (by kernel_rfl) ?_ ?_
              · intro w hs; exact cellsV (k := 0) hs rfl _ 0 (Nat.le_of_ble_eq_true (by kernel_rfl)) rfl
              refine at_eff rfl rfl ?_
              obtain ⟨b8, H415, H⟩ := bind_some H
              have hm_ := impl_RingRight.calls (I0 := J409) H415 hr392
              refine eff_call rfl rfl ok26 rfl rfl (show Meets Try.prog 26 ([.agg #[.slice A381 b4.Items.length c382, .int .i64 b4.At]] : List Value).toArray _ [] _ from hm_) (Mr := ([(g360, .cells #[.slice A381 b4.Items.length c382, .int .i64 b4.At] 38 (0, 0))] :: [(g39, .cells #[.slice A35 b2.Items.length c36, .int .i64 b2.At] 38 (0, 0))] :: [(g20, .cells #[.slice A12 b1.1.Items.length c13, .int .i64 b1.1.At] 38 (0, 0))] :: Fs)) (List.Perm.refl _) (fun v416 J417 M418 hq419 hJ420 => ?_)
              replace hle := hle.trans hJ420
              replace hr24 := hr24.mono hJ420
              replace hr28 := hr28.mono hJ420
              replace hr388 := hr388.mono hJ420
              replace hr392 := hr392.mono hJ420
              obtain ⟨rfl, rfl⟩ := hq419
              by_cases h421 : b8 = true
              · rw [if_pos h421] at H
                refine at_seg [2, 3, 4] [5, 6, 7, 8, 9] rfl [(3, .bool false), (4, .agg #[.slice A381 b4.Items.length c382, .int .i64 b4.At])] [4, 5, 6, 44, 45] (L2 := [(4, .slice A16 b1.2.length c17), (5, .pointer (some ⟨g39, 0, none⟩)), (6, .pointer (some ⟨g360, 0, none⟩)), (44, .bool false), (45, .agg #[.slice A381 b4.Items.length c382, .int .i64 b4.At])]) (obs := [fun _ => (.bool (!b8) : Value) = .bool false, fun w => CellsAt w ⟨g360, 0, none⟩ [.slice A381 b4.Items.length c382, .int .i64 b4.At] 0]) (by kernel_rfl) ?_ ?_
                · intro w hs; exact ⟨congrArg Value.bool (not_ff (h421)), cellsV (k := 0) hs rfl _ 0 (Nat.le_of_ble_eq_true (by kernel_rfl)) rfl⟩
                refine at_eff rfl rfl ?_
                obtain ⟨b9, H422, H⟩ := bind_some H
                have hm_ := impl_RingTop.calls (I0 := J417) H422 hr392
                refine eff_call rfl rfl ok28 rfl rfl (show Meets Try.prog 28 ([.agg #[.slice A381 b4.Items.length c382, .int .i64 b4.At]] : List Value).toArray _ [] _ from hm_) (Mr := ([(g360, .cells #[.slice A381 b4.Items.length c382, .int .i64 b4.At] 38 (0, 0))] :: [(g39, .cells #[.slice A35 b2.Items.length c36, .int .i64 b2.At] 38 (0, 0))] :: [(g20, .cells #[.slice A12 b1.1.Items.length c13, .int .i64 b1.1.At] 38 (0, 0))] :: Fs)) (List.Perm.refl _) (fun v423 J424 M425 hq426 hJ427 => ?_)
                replace hle := hle.trans hJ427
                replace hr24 := hr24.mono hJ427
                replace hr28 := hr28.mono hJ427
                replace hr388 := hr388.mono hJ427
                replace hr392 := hr392.mono hJ427
                obtain ⟨A428, c429, s430, rfl, rfl, ho431⟩ := hq426
                refine at_seg [6] [7, 8, 9] rfl [] [5, 6, 44, 46, 47] (L2 := [(5, .pointer (some ⟨g39, 0, none⟩)), (6, .pointer (some ⟨g360, 0, none⟩)), (44, .bool false), (46, .slice A428 b9.length c429), (47, .slice A16 b1.2.length c17)]) (obs := []) (by kernel_rfl) ?_ ?_
                · intro w hs; exact trivial
                refine at_eff rfl rfl ?_
                refine at_freeze (k := 0) rfl rfl (fun J432 hJ433 hin434 => ?_)
                replace hle := hle.trans hJ433
                replace ho431 := ho431.mono hJ433
                replace hr24 := hr24.mono hJ433
                replace hr28 := hr28.mono hJ433
                replace hr388 := hr388.mono hJ433
                replace hr392 := hr392.mono hJ433
                have hr435 := ho431.rd (ImmLe.refl _) hin434
                obtain ⟨b10, H436, H⟩ := bind_some H
                have hm_ := laws_lwSame.calls (I0 := J432) H436 hr435 hr24
                refine eff_call rfl rfl ok27 rfl rfl (show Meets Try.prog 27 ([.slice A428 b9.length c429, .slice A16 b1.2.length c17] : List Value).toArray _ [] _ from hm_) (Mr := ([(g360, .cells #[.slice A381 b4.Items.length c382, .int .i64 b4.At] 38 (0, 0))] :: [(g39, .cells #[.slice A35 b2.Items.length c36, .int .i64 b2.At] 38 (0, 0))] :: [(g20, .cells #[.slice A12 b1.1.Items.length c13, .int .i64 b1.1.At] 38 (0, 0))] :: Fs)) (List.Perm.refl _) (fun v437 J438 M439 hq440 hJ441 => ?_)
                replace hle := hle.trans hJ441
                replace hr24 := hr24.mono hJ441
                replace hr28 := hr28.mono hJ441
                replace hr388 := hr388.mono hJ441
                replace hr392 := hr392.mono hJ441
                replace hr435 := hr435.mono hJ441
                obtain ⟨rfl, rfl⟩ := hq440
                refine at_seg [8, 9] [] rfl [] [5, 6, 50] (L2 := [(5, .pointer (some ⟨g39, 0, none⟩)), (6, .pointer (some ⟨g360, 0, none⟩)), (50, .bool (!b10))]) (obs := []) (by kernel_rfl) ?_ ?_
                · intro w hs; exact trivial
                refine at_end ?_
                refine at_thn ?_
                by_cases h442 : b10 = true
                · rw [if_pos h442] at H
                  refine at_cond_f rfl (not_ff (h442)) ?_
                  refine at_skip ?_
                  refine at_thn ?_
                  refine at_seq ?_
                  refine at_ops [0, 1, 2] rfl ?_
                  refine at_seg [0] [1, 2] rfl [(0, .agg #[.slice A381 b4.Items.length c382, .int .i64 b4.At])] [5, 6, 51] (L2 := [(5, .pointer (some ⟨g39, 0, none⟩)), (6, .pointer (some ⟨g360, 0, none⟩)), (51, .agg #[.slice A381 b4.Items.length c382, .int .i64 b4.At])]) (obs := [fun w => CellsAt w ⟨g360, 0, none⟩ [.slice A381 b4.Items.length c382, .int .i64 b4.At] 0]) (by kernel_rfl) ?_ ?_
                  · intro w hs; exact cellsV (k := 0) hs rfl _ 0 (Nat.le_of_ble_eq_true (by kernel_rfl)) rfl
                  refine at_eff rfl rfl ?_
                  obtain ⟨i_, hi_, hz_, _, _⟩ := info38
                  refine eff_alloc rfl rfl hi_ hz_ #[.slice none ([] : List (List Int)).length 0, .int .i64 0] rfl (fun g443 => ?_)
                  refine at_eff rfl rfl ?_
                  refine eff_store 0 rfl rfl rfl rfl rfl rfl (.inl (Nat.le_refl _)) rfl (Nat.le_of_ble_eq_true (by kernel_rfl)) rfl ?_
                  refine at_end ?_
                  refine at_thn ?_
                  refine at_seq ?_
                  refine at_seq ?_
                  refine at_reg [] [5, 6, 7, 8] (L2 := [(5, .pointer (some ⟨g39, 0, none⟩)), (6, .pointer (some ⟨g360, 0, none⟩)), (7, .pointer (some ⟨g443, 0, none⟩)), (8, .int .i64 0)]) (obs := []) (by kernel_rfl) ?_ ?_
                  · intro w hs; exact trivial
                  refine at_thn ?_
                  refine at_block ?_
                  refine at_drop (k := 3) rfl rfl ?_
                  refine at_perm ((perm_at (k := 1) rfl).trans (((perm_at (k := 1) rfl).trans ((List.Perm.refl _).cons _)).cons _)) ?_
                  refine at_keep [5, 6, 7, 8] (L2 := [(5, .pointer (some ⟨g39, 0, none⟩)), (6, .pointer (some ⟨g360, 0, none⟩)), (7, .pointer (some ⟨g443, 0, none⟩)), (8, .int .i64 0)]) rfl ?_
                  refine at_loop (fun k450 L I Ms => ∃ (x444 : Int) (x445 : List (List Int)) (A446 : Option Addr) (c447 : Nat) (x449 : Int), L = [(5, .pointer (some ⟨g39, 0, none⟩)), (6, .pointer (some ⟨g360, 0, none⟩)), (7, .pointer (some ⟨g443, 0, none⟩)), (8, .int .i64 x444)] ∧ Ms = ([(g360, .cells #[.slice A381 b4.Items.length c382, .int .i64 b4.At] 38 (0, 0))] :: [(g39, .cells #[.slice A35 b2.Items.length c36, .int .i64 b2.At] 38 (0, 0))] :: [(g443, .cells #[.slice A446 x445.length c447, .int .i64 x449] 38 (0, 0))] :: Fs) ∧ laws_FnRing_l0 k450 x444 x445 x449 b2 b4 = some r ∧ ImmLe I0 I ∧ k450 ≤ k ∧ Rd (Kd.slice (Kd.int .i64)) I A35 c36 b2.Items ∧ Rd (Kd.slice (Kd.int .i64)) I A381 c382 b4.Items ∧ Rd (Kd.slice (Kd.int .i64)) I A446 c447 x445) ?_ ?_ k ⟨0, b4.Items, A381, c382, b4.At, rfl, rfl, H, hle, Nat.le_refl _, hr388, hr392, hr392⟩
                  · rintro L I Ms ⟨_, _, _, _, _, rfl, rfl, H, _⟩; exact no_none H
                  · clear H hle hr388 hr392
                    intro k450 ih451 L I Ms h_; obtain ⟨x444, x445, A446, c447, x449, hL_, hM_, H, hle, hk452, hr388, hr392, hr448⟩ := h_; rw [hL_, hM_]; clear hL_ hM_ L Ms
                    rw [laws_FnRing_l0] at H
                    refine at_seq ?_
                    refine at_seq ?_
                    refine at_reg [(2, .slice A35 b2.Items.length c36)] [5, 6, 7, 8, 56] (L2 := [(5, .pointer (some ⟨g39, 0, none⟩)), (6, .pointer (some ⟨g360, 0, none⟩)), (7, .pointer (some ⟨g443, 0, none⟩)), (8, .int .i64 x444), (56, .bool (decide (x444 < (b2.Items.length : Int))))]) (obs := [fun w => w.cell? ⟨g39, 0, none⟩ = some (.slice A35 b2.Items.length c36)]) (by kernel_rfl) ?_ ?_
                    · intro w hs; exact hs.var (k := 1) rfl 0 rfl
                    refine at_thn ?_
                    by_cases h453 : x444 < (b2.Items.length : Int)
                    · rw [if_pos h453] at H
                      refine at_cond_t rfl (decide_eq_true h453) ?_
                      refine at_skip ?_
                      refine at_thn ?_
                      refine at_seq ?_
                      refine at_block ?_
                      refine at_ops [0, 1, 2] rfl ?_
                      refine at_seg [0] [1, 2] rfl [(0, .agg #[.slice A446 x445.length c447, .int .i64 x449])] [5, 6, 7, 8, 59] (L2 := [(5, .pointer (some ⟨g39, 0, none⟩)), (6, .pointer (some ⟨g360, 0, none⟩)), (7, .pointer (some ⟨g443, 0, none⟩)), (8, .int .i64 x444), (59, .agg #[.slice A446 x445.length c447, .int .i64 x449])]) (obs := [fun w => CellsAt w ⟨g443, 0, none⟩ [.slice A446 x445.length c447, .int .i64 x449] 0]) (by kernel_rfl) ?_ ?_
                      · intro w hs; exact cellsV (k := 2) hs rfl _ 0 (Nat.le_of_ble_eq_true (by kernel_rfl)) rfl
                      refine at_eff rfl rfl ?_
                      obtain ⟨b11, H454, H⟩ := bind_some H
                      have hm_ := impl_RingTurn.calls (I0 := I) H454 hr448
                      refine eff_call rfl rfl ok29 rfl rfl (show Meets Try.prog 29 ([.agg #[.slice A446 x445.length c447, .int .i64 x449]] : List Value).toArray _ [] _ from hm_) (Mr := ([(g360, .cells #[.slice A381 b4.Items.length c382, .int .i64 b4.At] 38 (0, 0))] :: [(g39, .cells #[.slice A35 b2.Items.length c36, .int .i64 b2.At] 38 (0, 0))] :: [(g443, .cells #[.slice A446 x445.length c447, .int .i64 x449] 38 (0, 0))] :: Fs)) (List.Perm.refl _) (fun v455 J456 M457 hq458 hJ459 => ?_)
                      replace hle := hle.trans hJ459
                      replace hr388 := hr388.mono hJ459
                      replace hr392 := hr392.mono hJ459
                      replace hr448 := hr448.mono hJ459
                      obtain ⟨A460, c461, s462, rfl, rfl, ho463⟩ := hq458
                      refine at_eff rfl rfl ?_
                      refine eff_store 3 rfl rfl rfl rfl rfl rfl (.inl (Nat.le_refl _)) rfl (Nat.le_of_ble_eq_true (by kernel_rfl)) rfl ?_
                      refine at_end ?_
                      refine at_in_norm ?_
                      refine at_thn ?_
                      refine at_reg [] [5, 6, 7, 8] (L2 := [(5, .pointer (some ⟨g39, 0, none⟩)), (6, .pointer (some ⟨g360, 0, none⟩)), (7, .pointer (some ⟨g443, 0, none⟩)), (8, .int .i64 (IntKind.i64.wrap (x444 + 1)))]) (obs := []) (by kernel_rfl) ?_ ?_
                      · intro w hs; exact trivial
                      refine at_thn ?_
                      refine at_freeze (k := 0) rfl rfl (fun J464 hJ465 hin466 => ?_)
                      replace hle := hle.trans hJ465
                      replace ho463 := ho463.mono hJ465
                      replace hr388 := hr388.mono hJ465
                      replace hr392 := hr392.mono hJ465
                      have hr467 := ho463.rd (ImmLe.refl _) hin466
                      refine at_keep [5, 6, 7, 8] (L2 := [(5, .pointer (some ⟨g39, 0, none⟩)), (6, .pointer (some ⟨g360, 0, none⟩)), (7, .pointer (some ⟨g443, 0, none⟩)), (8, .int .i64 (IntKind.i64.wrap (x444 + 1)))]) rfl ?_
                      exact ih451 _ (by omega) _ _ _ ⟨IntKind.i64.wrap (x444 + 1), b11.Items, A460, c461, b11.At, rfl, rfl, H, hle, by omega, hr388, hr392, hr467⟩
                    · rw [if_neg h453] at H
                      refine at_cond_f rfl (decide_eq_false h453) ?_
                      refine at_exit ?_
                      refine at_then_exit ?_
                      refine at_then_exit ?_
                      refine at_in_hit ?_
                      refine at_thn ?_
                      refine at_seq ?_
                      refine at_ops [0, 1, 2, 3] rfl ?_
                      refine at_seg [0, 1] [2, 3] rfl [(0, .agg #[.slice A446 x445.length c447, .int .i64 x449]), (1, .agg #[.slice A381 b4.Items.length c382, .int .i64 b4.At])] [61, 62] (L2 := [(61, .agg #[.slice A446 x445.length c447, .int .i64 x449]), (62, .agg #[.slice A381 b4.Items.length c382, .int .i64 b4.At])]) (obs := [fun w => CellsAt w ⟨g443, 0, none⟩ [.slice A446 x445.length c447, .int .i64 x449] 0, fun w => CellsAt w ⟨g360, 0, none⟩ [.slice A381 b4.Items.length c382, .int .i64 b4.At] 0]) (by kernel_rfl) ?_ ?_
                      · intro w hs; exact ⟨cellsV (k := 2) hs rfl _ 0 (Nat.le_of_ble_eq_true (by kernel_rfl)) rfl, cellsV (k := 0) hs rfl _ 0 (Nat.le_of_ble_eq_true (by kernel_rfl)) rfl⟩
                      refine at_eff rfl rfl ?_
                      obtain ⟨b12, H468, H⟩ := bind_some H
                      have hm_ := laws_lwRing.calls (I0 := I) H468 hr448 hr392
                      refine eff_call rfl rfl ok23 rfl rfl (show Meets Try.prog 23 ([.agg #[.slice A446 x445.length c447, .int .i64 x449], .agg #[.slice A381 b4.Items.length c382, .int .i64 b4.At]] : List Value).toArray _ [] _ from hm_) (Mr := ([(g360, .cells #[.slice A381 b4.Items.length c382, .int .i64 b4.At] 38 (0, 0))] :: [(g39, .cells #[.slice A35 b2.Items.length c36, .int .i64 b2.At] 38 (0, 0))] :: [(g443, .cells #[.slice A446 x445.length c447, .int .i64 x449] 38 (0, 0))] :: Fs)) (List.Perm.refl _) (fun v469 J470 M471 hq472 hJ473 => ?_)
                      replace hle := hle.trans hJ473
                      replace hr388 := hr388.mono hJ473
                      replace hr392 := hr392.mono hJ473
                      replace hr448 := hr448.mono hJ473
                      obtain ⟨rfl, rfl⟩ := hq472
                      refine at_seg [3] [] rfl [] [2] (L2 := [(2, .bool b12)]) (obs := []) (by kernel_rfl) ?_ ?_
                      · intro w hs; exact trivial
                      refine at_end ?_
                      refine at_thn ?_
                      refine at_ret ?_
                      obtain rfl := Option.some.inj H
                      refine at_drop (k := 0) rfl rfl ?_
                      refine at_drop (k := 0) rfl rfl ?_
                      refine at_drop (k := 0) rfl rfl ?_
                      refine at_done (vs := [.bool b12]) (obs := []) (.inl rfl) [.tmp 2] [] rfl (by kernel_rfl) (fun w hs => trivial) (fun w hs => ⟨_, _, [], rfl, ⟨rfl, rfl⟩, hle, hs⟩)
                · rw [if_neg h442] at H
                  refine at_cond_t rfl (not_tt (ff_of h442)) ?_
                  refine at_seq ?_
                  refine at_reg [] [2] (L2 := [(2, .bool false)]) (obs := []) (by kernel_rfl) ?_ ?_
                  · intro w hs; exact trivial
                  refine at_thn ?_
                  refine at_ret ?_
                  refine at_then_ret ?_
                  obtain rfl := Option.some.inj H
                  refine at_drop (k := 0) rfl rfl ?_
                  refine at_drop (k := 0) rfl rfl ?_
                  refine at_drop (k := 0) rfl rfl ?_
                  refine at_done (vs := [.bool false]) (obs := []) (.inl rfl) [.tmp 2] [] rfl (by kernel_rfl) (fun w hs => trivial) (fun w hs => ⟨_, _, [], rfl, ⟨rfl, rfl⟩, hle, hs⟩)
              · rw [if_neg h421] at H
                refine at_seg [2, 3, 4] [5, 6, 7, 8, 9] rfl [(3, .bool true)] [4, 5, 6, 44, 45] (L2 := [(4, .slice A16 b1.2.length c17), (5, .pointer (some ⟨g39, 0, none⟩)), (6, .pointer (some ⟨g360, 0, none⟩)), (44, .bool true), (45, undef)]) (obs := [fun _ => (.bool (!b8) : Value) = .bool true]) (by kernel_rfl) ?_ ?_
                · intro w hs; exact congrArg Value.bool (not_tt (ff_of h421))
                refine at_seg [5, 6] [7, 8, 9] rfl [] [5, 6, 44, 46, 47] (L2 := [(5, .pointer (some ⟨g39, 0, none⟩)), (6, .pointer (some ⟨g360, 0, none⟩)), (44, .bool true), (46, undef), (47, undef)]) (obs := []) (by kernel_rfl) ?_ ?_
                · intro w hs; exact trivial
                refine at_seg [7, 8, 9] [] rfl [] [5, 6, 50] (L2 := [(5, .pointer (some ⟨g39, 0, none⟩)), (6, .pointer (some ⟨g360, 0, none⟩)), (50, .bool true)]) (obs := []) (by kernel_rfl) ?_ ?_
                · intro w hs; exact trivial
                refine at_end ?_
                refine at_thn ?_
                refine at_cond_t rfl (rfl) ?_
                refine at_seq ?_
                refine at_reg [] [2] (L2 := [(2, .bool false)]) (obs := []) (by kernel_rfl) ?_ ?_
                · intro w hs; exact trivial
                refine at_thn ?_
                refine at_ret ?_
                refine at_then_ret ?_
                obtain rfl := Option.some.inj H
                refine at_drop (k := 0) rfl rfl ?_
                refine at_drop (k := 0) rfl rfl ?_
                refine at_drop (k := 0) rfl rfl ?_
                refine at_done (vs := [.bool false]) (obs := []) (.inl rfl) [.tmp 2] [] rfl (by kernel_rfl) (fun w hs => trivial) (fun w hs => ⟨_, _, [], rfl, ⟨rfl, rfl⟩, hle, hs⟩)
          · rw [if_neg h413] at H
            refine at_seg [6, 7, 8, 9, 10, 11, 12] [] rfl [(8, .bool true)] [4, 5, 6, 40] (L2 := [(4, .slice A16 b1.2.length c17), (5, .pointer (some ⟨g39, 0, none⟩)), (6, .pointer (some ⟨g360, 0, none⟩)), (40, .bool true)]) (obs := [fun _ => (.bool (!b7) : Value) = .bool true]) (by kernel_rfl) ?_ ?_
            · intro w hs; exact congrArg Value.bool (not_tt (ff_of h413))
            refine at_end ?_
            refine at_thn ?_
            refine at_cond_t rfl (rfl) ?_
            refine at_seq ?_
            refine at_reg [] [2] (L2 := [(2, .bool true)]) (obs := []) (by kernel_rfl) ?_ ?_
            · intro w hs; exact trivial
            refine at_thn ?_
            refine at_ret ?_
            refine at_then_ret ?_
            obtain rfl := Option.some.inj H
            refine at_drop (k := 0) rfl rfl ?_
            refine at_drop (k := 0) rfl rfl ?_
            refine at_drop (k := 0) rfl rfl ?_
            refine at_done (vs := [.bool true]) (obs := []) (.inl rfl) [.tmp 2] [] rfl (by kernel_rfl) (fun w hs => trivial) (fun w hs => ⟨_, _, [], rfl, ⟨rfl, rfl⟩, hle, hs⟩)
        · rw [if_neg h406] at H
          refine at_seg [2, 3, 4] [5, 6, 7, 8, 9, 10, 11, 12] rfl [(3, .bool true)] [4, 5, 6, 31, 32] (L2 := [(4, .slice A16 b1.2.length c17), (5, .pointer (some ⟨g39, 0, none⟩)), (6, .pointer (some ⟨g360, 0, none⟩)), (31, .bool true), (32, undef)]) (obs := [fun _ => (.bool (!b6) : Value) = .bool true]) (by kernel_rfl) ?_ ?_
          · intro w hs; exact congrArg Value.bool (not_tt (ff_of h406))
          refine at_seg [5, 6, 7, 8, 9, 10, 11, 12] [] rfl [] [4, 5, 6, 40] (L2 := [(4, .slice A16 b1.2.length c17), (5, .pointer (some ⟨g39, 0, none⟩)), (6, .pointer (some ⟨g360, 0, none⟩)), (40, .bool true)]) (obs := []) (by kernel_rfl) ?_ ?_
          · intro w hs; exact trivial
          refine at_end ?_
          refine at_thn ?_
          refine at_cond_t rfl (rfl) ?_
          refine at_seq ?_
          refine at_reg [] [2] (L2 := [(2, .bool true)]) (obs := []) (by kernel_rfl) ?_ ?_
          · intro w hs; exact trivial
          refine at_thn ?_
          refine at_ret ?_
          refine at_then_ret ?_
          obtain rfl := Option.some.inj H
          refine at_drop (k := 0) rfl rfl ?_
          refine at_drop (k := 0) rfl rfl ?_
          refine at_drop (k := 0) rfl rfl ?_
          refine at_done (vs := [.bool true]) (obs := []) (.inl rfl) [.tmp 2] [] rfl (by kernel_rfl) (fun w hs => trivial) (fun w hs => ⟨_, _, [], rfl, ⟨rfl, rfl⟩, hle, hs⟩)
      · rw [if_neg h399] at H
        refine at_cond_t rfl (not_tt (ff_of h399)) ?_
        refine at_seq ?_
        refine at_reg [] [2] (L2 := [(2, .bool false)]) (obs := []) (by kernel_rfl) ?_ ?_
        · intro w hs; exact trivial
        refine at_thn ?_
        refine at_ret ?_
        refine at_then_ret ?_
        obtain rfl := Option.some.inj H
        refine at_drop (k := 0) rfl rfl ?_
        refine at_drop (k := 0) rfl rfl ?_
        refine at_drop (k := 0) rfl rfl ?_
        refine at_done (vs := [.bool false]) (obs := []) (.inl rfl) [.tmp 2] [] rfl (by kernel_rfl) (fun w hs => trivial) (fun w hs => ⟨_, _, [], rfl, ⟨rfl, rfl⟩, hle, hs⟩)
end Go.Proofs.Ytocfakbgefdgkaa
