import Derived.Test.YtloojlhlfhmoeaaG5
namespace Go.Proofs.Ytloojlhlfhmoeaa
open Go Eng
set_option linter.unusedVariables false
set_option linter.unusedSimpArgs false
/-! ### loop.example/g00146/impl.KeysRight: function 10 -/
def impl_KeysRight_l0 : Nat → Int → (List T_impl_Key) → Option Bool
  | 0, _, _ => none
  | k + 1, x65, p61 => if x65 < (p61.length : Int) then (if 0 ≤ x65 then ((impl_keyRight k (rdA z_impl_Key p61 x65)).bind fun b5 => (if b5 = true then (if x65 > 0 then (if 0 ≤ (IntKind.i64.wrap (x65 - 1)) then (if (IntKind.i64.wrap (x65 - 1)) < (p61.length : Int) then ((impl_compareKeys k (rdA z_impl_Key p61 (IntKind.i64.wrap (x65 - 1))) (rdA z_impl_Key p61 x65)).bind fun b6 => (if b6 ≥ 0 then (some false) else (impl_KeysRight_l0 k (IntKind.i64.wrap (x65 + 1)) p61))) else none) else none) else (impl_KeysRight_l0 k (IntKind.i64.wrap (x65 + 1)) p61)) else (some false))) else none) else (some (decide ((p61.length : Int) ≤ 60)))
def impl_KeysRight (k : Nat) (p61 : List T_impl_Key) : Option Bool := impl_KeysRight_l0 k 0 p61
set_option maxHeartbeats 4000000 in
set_option maxRecDepth 100000 in
theorem impl_KeysRight.calls {k : Nat} {p61 : List T_impl_Key} {r : Bool} {I0 : Imm} {A62 : Option Addr} {c63 : Nat} (H : impl_KeysRight k p61 = some r) (hr64 : Rd k_impl_Key I0 A62 c63 p61) :
    Meets Try.prog 10 ([.slice A62 p61.length c63] : List Value).toArray I0 [] (fun v J M => v = .bool r ∧ M = []) := by
  have hle := ImmLe.refl I0
  unfold impl_KeysRight at H
  refine fn_intro (fn := Try.f10) 33 Try.func10 rfl rfl rfl (fun E Fs => ?_)
  refine at_seq ?_
  refine at_reg [] [0] (L2 := [(0, .slice A62 p61.length c63)]) (obs := []) (by kernel_rfl) ?_ ?_
  · intro w hs; exact trivial
  refine at_thn ?_
  refine at_seq ?_
  refine at_seq ?_
  refine at_reg [] [0, 5, 6, 7] (L2 := [(0, .slice A62 p61.length c63), (5, .slice A62 p61.length c63), (6, .int .i64 (p61.length : Int)), (7, .int .i64 0)]) (obs := []) (by kernel_rfl) ?_ ?_
  · intro w hs; exact trivial
  refine at_thn ?_
  refine at_block ?_
  refine at_keep [0, 5, 6, 7] (L2 := [(0, .slice A62 p61.length c63), (5, .slice A62 p61.length c63), (6, .int .i64 (p61.length : Int)), (7, .int .i64 0)]) rfl ?_
  refine at_loop (fun k66 L I Ms => ∃ (x65 : Int), L = [(0, .slice A62 p61.length c63), (5, .slice A62 p61.length c63), (6, .int .i64 (p61.length : Int)), (7, .int .i64 x65)] ∧ Ms = ([] ++ Fs) ∧ impl_KeysRight_l0 k66 x65 p61 = some r ∧ ImmLe I0 I ∧ k66 ≤ k ∧ Rd k_impl_Key I A62 c63 p61) ?_ ?_ k ⟨0, rfl, rfl, H, hle, Nat.le_refl _, hr64⟩
  · rintro L I Ms ⟨_, rfl, rfl, H, _⟩; exact no_none H
  · clear H hle hr64
    intro k66 ih67 L I Ms h_; obtain ⟨x65, hL_, hM_, H, hle, hk68, hr64⟩ := h_; rw [hL_, hM_]; clear hL_ hM_ L Ms
    rw [impl_KeysRight_l0] at H
    refine at_seq ?_
    refine at_reg [] [0, 5, 6, 7, 8] (L2 := [(0, .slice A62 p61.length c63), (5, .slice A62 p61.length c63), (6, .int .i64 (p61.length : Int)), (7, .int .i64 x65), (8, .bool (decide (x65 < (p61.length : Int))))]) (obs := []) (by kernel_rfl) ?_ ?_
    · intro w hs; exact trivial
    refine at_thn ?_
    refine at_seq ?_
    by_cases h69 : x65 < (p61.length : Int)
    · rw [if_pos h69] at H
      refine at_cond_t rfl (decide_eq_true h69) ?_
      refine at_skip ?_
      refine at_thn ?_
      refine at_seq ?_
      refine at_block ?_
      refine at_seq ?_
      refine at_ops [0, 1, 2, 3, 4, 5] rfl ?_
      obtain ⟨h70, H⟩ := ite_some H
      obtain ⟨cs72, hz73, hc71⟩ := hr64.elem z_impl_Key x65 h70 h69
      obtain rfl := hz73
      refine at_seg [0, 1, 2] [3, 4, 5] rfl [(2, .agg #[.int .i64 ((rdA z_impl_Key p61 x65).Map), str ((rdA z_impl_Key p61 x65).Keys), str ((rdA z_impl_Key p61 x65).Name)])] [0, 5, 6, 7, 9, 11] (L2 := [(0, .slice A62 p61.length c63), (5, .slice A62 p61.length c63), (6, .int .i64 (p61.length : Int)), (7, .int .i64 x65), (9, .int .i64 x65), (11, .agg #[.int .i64 ((rdA z_impl_Key p61 x65).Map), str ((rdA z_impl_Key p61 x65).Keys), str ((rdA z_impl_Key p61 x65).Name)])]) (obs := [fun _ => A62.isSome = true ∧ 0 ≤ x65 ∧ x65 < ((p61.length : Nat) : Int), fun w => CellsAt w ((A62.getD ad0).add (x65.toNat * 3)) [.int .i64 ((rdA z_impl_Key p61 x65).Map), str ((rdA z_impl_Key p61 x65).Keys), str ((rdA z_impl_Key p61 x65).Name)] 0]) (by kernel_rfl) ?_ ?_
      · intro w hs; exact ⟨⟨hr64.ne x65 h70 h69, h70, h69⟩, ⟨hc71 0 _ rfl hs, hc71 1 _ rfl hs, hc71 2 _ rfl hs, trivial⟩⟩
      refine at_eff rfl rfl ?_
      obtain ⟨i_, hi_, hz_, _, _⟩ := info25
      refine eff_alloc rfl rfl hi_ hz_ #[.int .i64 0, str ([] : List UInt8), str ([] : List UInt8)] rfl (fun g74 => ?_)
      refine at_seg [4] [5] rfl [] [0, 3, 4, 5, 6, 7, 11] (L2 := [(0, .slice A62 p61.length c63), (3, .int .i64 x65), (4, .pointer (some ⟨g74, 0, none⟩)), (5, .slice A62 p61.length c63), (6, .int .i64 (p61.length : Int)), (7, .int .i64 x65), (11, .agg #[.int .i64 ((rdA z_impl_Key p61 x65).Map), str ((rdA z_impl_Key p61 x65).Keys), str ((rdA z_impl_Key p61 x65).Name)])]) (obs := []) (by kernel_rfl) ?_ ?_
      · intro w hs; exact trivial
      refine at_eff rfl rfl ?_
      refine eff_store 0 rfl rfl rfl rfl rfl rfl (.inl (Nat.le_refl _)) rfl (Nat.le_of_ble_eq_true (by kernel_rfl)) rfl ?_
      refine at_end ?_
      refine at_thn ?_
      refine at_seq ?_
      refine at_x hmo (fun w => CellsAt w ⟨g74, 0, none⟩ [.int .i64 ((rdA z_impl_Key p61 x65).Map), str ((rdA z_impl_Key p61 x65).Keys), str ((rdA z_impl_Key p61 x65).Name)] 0) [] ?_
      refine at_xseg [0] 16 (#[true, false, false, false, false, false, false, false, false, false, false, false, false, false, false, false, false]) rfl (by kernel_rfl) [(0, .agg #[.int .i64 ((rdA z_impl_Key p61 x65).Map), str ((rdA z_impl_Key p61 x65).Keys), str ((rdA z_impl_Key p61 x65).Name)])] [0, 3, 4, 5, 6, 7, 12] (L2 := [(0, .slice A62 p61.length c63), (3, .int .i64 x65), (4, .pointer (some ⟨g74, 0, none⟩)), (5, .slice A62 p61.length c63), (6, .int .i64 (p61.length : Int)), (7, .int .i64 x65), (12, .agg #[.int .i64 ((rdA z_impl_Key p61 x65).Map), str ((rdA z_impl_Key p61 x65).Keys), str ((rdA z_impl_Key p61 x65).Name)])]) (obs := [fun w => CellsAt w ⟨g74, 0, none⟩ [.int .i64 ((rdA z_impl_Key p61 x65).Map), str ((rdA z_impl_Key p61 x65).Keys), str ((rdA z_impl_Key p61 x65).Name)] 0]) (by kernel_rfl) (by kernel_rfl) (by kernel_rfl) (.inr fun w hs => cellsV (k := 0) hs rfl _ 0 (Nat.le_of_ble_eq_true (by kernel_rfl)) rfl) (fun w hS => hS) (fun w hs => cellsV (k := 0) hs rfl _ 0 (Nat.le_of_ble_eq_true (by kernel_rfl)) rfl) ?_
      refine at_x1 15 1 (#[true, true, false, false, false, false, false, false, false, false, false, false, false, false, false, false, false]) rfl (by kernel_rfl) (by kernel_rfl) rfl rfl ?_
      obtain ⟨b5, H75, H⟩ := bind_some H
      have hm_ := impl_keyRight.calls (I0 := I) H75
      refine eff_call rfl rfl ok17 rfl rfl (show Meets Try.prog 17 ([.agg #[.int .i64 ((rdA z_impl_Key p61 x65).Map), str ((rdA z_impl_Key p61 x65).Keys), str ((rdA z_impl_Key p61 x65).Name)]] : List Value).toArray _ [] _ from hm_) (Mr := ([(g74, .cells #[.int .i64 ((rdA z_impl_Key p61 x65).Map), str ((rdA z_impl_Key p61 x65).Keys), str ((rdA z_impl_Key p61 x65).Name)] 25 (0, 0))] :: Fs)) (List.Perm.refl _) (fun v76 J77 M78 hq79 hJ80 => ?_)
      replace hle := hle.trans hJ80
      replace hr64 := hr64.mono hJ80
      obtain ⟨rfl, rfl⟩ := hq79
      refine at_xS (fun w hs => cellsV (k := 0) hs rfl _ 0 (Nat.le_of_ble_eq_true (by kernel_rfl)) rfl) ?_
      by_cases h81 : b5 = true
      · rw [if_pos h81] at H
        by_cases h82 : x65 > 0
        · rw [if_pos h82] at H
          obtain ⟨h83, H⟩ := ite_some H
          obtain ⟨h84, H⟩ := ite_some H
          obtain ⟨cs86, hz87, hc85⟩ := hr64.elem z_impl_Key (IntKind.i64.wrap (x65 - 1)) h83 h84
          obtain rfl := hz87
          refine at_xweak (S' := fun w => CellsAt w ⟨g74, 0, none⟩ [.int .i64 ((rdA z_impl_Key p61 x65).Map), str ((rdA z_impl_Key p61 x65).Keys), str ((rdA z_impl_Key p61 x65).Name)] 0 ∧ CellsAt w ((A62.getD ad0).add ((IntKind.i64.wrap (x65 - 1)).toNat * 3)) [.int .i64 ((rdA z_impl_Key p61 (IntKind.i64.wrap (x65 - 1))).Map), str ((rdA z_impl_Key p61 (IntKind.i64.wrap (x65 - 1))).Keys), str ((rdA z_impl_Key p61 (IntKind.i64.wrap (x65 - 1))).Name)] 0 ∧ CellsAt w ⟨g74, 0, none⟩ [.int .i64 ((rdA z_impl_Key p61 x65).Map), str ((rdA z_impl_Key p61 x65).Keys), str ((rdA z_impl_Key p61 x65).Name)] 0) (fun w h_ => h_.1) ?_
          refine at_xseg [2, 3, 4, 5, 6, 7, 8, 9, 10, 11, 12] 4 (#[true, true, true, true, true, true, true, true, true, true, true, true, true, false, false, false, false]) rfl (by kernel_rfl) [(3, .bool false), (6, .bool true), (11, .agg #[.int .i64 ((rdA z_impl_Key p61 (IntKind.i64.wrap (x65 - 1))).Map), str ((rdA z_impl_Key p61 (IntKind.i64.wrap (x65 - 1))).Keys), str ((rdA z_impl_Key p61 (IntKind.i64.wrap (x65 - 1))).Name)]), (12, .agg #[.int .i64 ((rdA z_impl_Key p61 x65).Map), str ((rdA z_impl_Key p61 x65).Keys), str ((rdA z_impl_Key p61 x65).Name)])] [0, 5, 6, 7, 15, 18, 23, 24] (L2 := [(0, .slice A62 p61.length c63), (5, .slice A62 p61.length c63), (6, .int .i64 (p61.length : Int)), (7, .int .i64 x65), (15, .bool false), (18, .bool true), (23, .agg #[.int .i64 ((rdA z_impl_Key p61 (IntKind.i64.wrap (x65 - 1))).Map), str ((rdA z_impl_Key p61 (IntKind.i64.wrap (x65 - 1))).Keys), str ((rdA z_impl_Key p61 (IntKind.i64.wrap (x65 - 1))).Name)]), (24, .agg #[.int .i64 ((rdA z_impl_Key p61 x65).Map), str ((rdA z_impl_Key p61 x65).Keys), str ((rdA z_impl_Key p61 x65).Name)])]) (obs := [fun _ => (.bool (!b5) : Value) = .bool false, fun _ => (.bool (decide (x65 > 0)) : Value) = .bool true, fun _ => A62.isSome = true ∧ 0 ≤ (IntKind.i64.wrap (x65 - 1)) ∧ (IntKind.i64.wrap (x65 - 1)) < ((p61.length : Nat) : Int), fun w => CellsAt w ((A62.getD ad0).add ((IntKind.i64.wrap (x65 - 1)).toNat * 3)) [.int .i64 ((rdA z_impl_Key p61 (IntKind.i64.wrap (x65 - 1))).Map), str ((rdA z_impl_Key p61 (IntKind.i64.wrap (x65 - 1))).Keys), str ((rdA z_impl_Key p61 (IntKind.i64.wrap (x65 - 1))).Name)] 0, fun w => CellsAt w ⟨g74, 0, none⟩ [.int .i64 ((rdA z_impl_Key p61 x65).Map), str ((rdA z_impl_Key p61 x65).Keys), str ((rdA z_impl_Key p61 x65).Name)] 0]) (by kernel_rfl) (by kernel_rfl) (by kernel_rfl) (.inr fun w hs => ⟨cellsV (k := 0) hs rfl _ 0 (Nat.le_of_ble_eq_true (by kernel_rfl)) rfl, ⟨hc85 0 _ rfl hs, hc85 1 _ rfl hs, hc85 2 _ rfl hs, trivial⟩, cellsV (k := 0) hs rfl _ 0 (Nat.le_of_ble_eq_true (by kernel_rfl)) rfl⟩) (fun w hS => ⟨congrArg Value.bool (not_ff (h81)), congrArg Value.bool (decide_eq_true h82), ⟨hr64.ne (IntKind.i64.wrap (x65 - 1)) h83 h84, h83, h84⟩, hS.2.1, hS.2.2⟩) (fun w hs => ⟨congrArg Value.bool (not_ff (h81)), congrArg Value.bool (decide_eq_true h82), ⟨hr64.ne (IntKind.i64.wrap (x65 - 1)) h83 h84, h83, h84⟩, ⟨hc85 0 _ rfl hs, hc85 1 _ rfl hs, hc85 2 _ rfl hs, trivial⟩, cellsV (k := 0) hs rfl _ 0 (Nat.le_of_ble_eq_true (by kernel_rfl)) rfl⟩) ?_
          refine at_x1 3 13 (#[true, true, true, true, true, true, true, true, true, true, true, true, true, true, false, false, false]) rfl (by kernel_rfl) (by kernel_rfl) rfl rfl ?_
          obtain ⟨b6, H88, H⟩ := bind_some H
          have hm_ := impl_compareKeys.calls (I0 := J77) H88
          refine eff_call rfl rfl ok19 rfl rfl (show Meets Try.prog 19 ([.agg #[.int .i64 ((rdA z_impl_Key p61 (IntKind.i64.wrap (x65 - 1))).Map), str ((rdA z_impl_Key p61 (IntKind.i64.wrap (x65 - 1))).Keys), str ((rdA z_impl_Key p61 (IntKind.i64.wrap (x65 - 1))).Name)], .agg #[.int .i64 ((rdA z_impl_Key p61 x65).Map), str ((rdA z_impl_Key p61 x65).Keys), str ((rdA z_impl_Key p61 x65).Name)]] : List Value).toArray _ [] _ from hm_) (Mr := ([(g74, .cells #[.int .i64 ((rdA z_impl_Key p61 x65).Map), str ((rdA z_impl_Key p61 x65).Keys), str ((rdA z_impl_Key p61 x65).Name)] 25 (0, 0))] :: Fs)) (List.Perm.refl _) (fun v89 J90 M91 hq92 hJ93 => ?_)
          replace hle := hle.trans hJ93
          replace hr64 := hr64.mono hJ93
          replace hc85 := hc_mono hc85 hJ93
          obtain ⟨rfl, rfl⟩ := hq92
          refine at_xS (fun w hs => ⟨cellsV (k := 0) hs rfl _ 0 (Nat.le_of_ble_eq_true (by kernel_rfl)) rfl, ⟨hc85 0 _ rfl hs, hc85 1 _ rfl hs, hc85 2 _ rfl hs, trivial⟩, cellsV (k := 0) hs rfl _ 0 (Nat.le_of_ble_eq_true (by kernel_rfl)) rfl⟩) ?_
          refine at_xseg [14, 15, 16] 0 (#[true, true, true, true, true, true, true, true, true, true, true, true, true, true, true, true, true]) rfl (by kernel_rfl) [] [0, 5, 6, 7, 28] (L2 := [(0, .slice A62 p61.length c63), (5, .slice A62 p61.length c63), (6, .int .i64 (p61.length : Int)), (7, .int .i64 x65), (28, .bool (decide (b6 ≥ 0)))]) (obs := []) (by kernel_rfl) (by kernel_rfl) (by kernel_rfl) (.inr fun w hs => ⟨cellsV (k := 0) hs rfl _ 0 (Nat.le_of_ble_eq_true (by kernel_rfl)) rfl, ⟨hc85 0 _ rfl hs, hc85 1 _ rfl hs, hc85 2 _ rfl hs, trivial⟩, cellsV (k := 0) hs rfl _ 0 (Nat.le_of_ble_eq_true (by kernel_rfl)) rfl⟩) (fun w hS => trivial) (fun w hs => trivial) ?_
          refine at_xend (by kernel_rfl) ?_
          refine at_thn ?_
          by_cases h94 : b6 ≥ 0
          · rw [if_pos h94] at H
            refine at_cond_t rfl (decide_eq_true h94) ?_
            refine at_seq ?_
            refine at_reg [] [2] (L2 := [(2, .bool false)]) (obs := []) (by kernel_rfl) ?_ ?_
            · intro w hs; exact trivial
            refine at_thn ?_
            refine at_ret ?_
            refine at_in_ret ?_
            refine at_then_ret ?_
            refine at_then_ret ?_
            refine at_in_ret ?_
            refine at_then_ret ?_
            obtain rfl := Option.some.inj H
            refine at_drop (k := 0) rfl rfl ?_
            refine at_done (vs := [.bool false]) (obs := []) (.inl rfl) [.tmp 2] [] rfl (by kernel_rfl) (fun w hs => trivial) (fun w hs => ⟨_, _, [], rfl, ⟨rfl, rfl⟩, hle, hs⟩)
          · rw [if_neg h94] at H
            refine at_cond_f rfl (decide_eq_false h94) ?_
            refine at_skip ?_
            refine at_in_norm ?_
            refine at_thn ?_
            refine at_reg [] [0, 5, 6, 7] (L2 := [(0, .slice A62 p61.length c63), (5, .slice A62 p61.length c63), (6, .int .i64 (p61.length : Int)), (7, .int .i64 (IntKind.i64.wrap (x65 + 1)))]) (obs := []) (by kernel_rfl) ?_ ?_
            · intro w hs; exact trivial
            refine at_thn ?_
            refine at_drop (k := 0) rfl rfl ?_
            refine at_keep [0, 5, 6, 7] (L2 := [(0, .slice A62 p61.length c63), (5, .slice A62 p61.length c63), (6, .int .i64 (p61.length : Int)), (7, .int .i64 (IntKind.i64.wrap (x65 + 1)))]) rfl ?_
            exact ih67 _ (by omega) _ _ _ ⟨IntKind.i64.wrap (x65 + 1), rfl, rfl, H, hle, by omega, hr64⟩
        · rw [if_neg h82] at H
          refine at_xseg [2, 3, 4, 5, 6, 7, 8, 9, 10, 11, 12] 4 (#[true, true, true, true, true, true, true, true, true, true, true, true, true, false, false, false, false]) rfl (by kernel_rfl) [(3, .bool false), (6, .bool false)] [0, 5, 6, 7, 15, 18, 23, 24] (L2 := [(0, .slice A62 p61.length c63), (5, .slice A62 p61.length c63), (6, .int .i64 (p61.length : Int)), (7, .int .i64 x65), (15, .bool false), (18, .bool false), (23, undef), (24, undef)]) (obs := [fun _ => (.bool (!b5) : Value) = .bool false, fun _ => (.bool (decide (x65 > 0)) : Value) = .bool false]) (by kernel_rfl) (by kernel_rfl) (by kernel_rfl) (.inr fun w hs => cellsV (k := 0) hs rfl _ 0 (Nat.le_of_ble_eq_true (by kernel_rfl)) rfl) (fun w hS => ⟨congrArg Value.bool (not_ff (h81)), congrArg Value.bool (decide_eq_false h82)⟩) (fun w hs => ⟨congrArg Value.bool (not_ff (h81)), congrArg Value.bool (decide_eq_false h82)⟩) ?_
          refine at_xseg [13, 14, 15, 16] 0 (#[true, true, true, true, true, true, true, true, true, true, true, true, true, true, true, true, true]) rfl (by kernel_rfl) [] [0, 5, 6, 7, 28] (L2 := [(0, .slice A62 p61.length c63), (5, .slice A62 p61.length c63), (6, .int .i64 (p61.length : Int)), (7, .int .i64 x65), (28, .bool false)]) (obs := []) (by kernel_rfl) (by kernel_rfl) (by kernel_rfl) (.inr fun w hs => cellsV (k := 0) hs rfl _ 0 (Nat.le_of_ble_eq_true (by kernel_rfl)) rfl) (fun w hS => trivial) (fun w hs => trivial) ?_
          refine at_xend (by kernel_rfl) ?_
          refine at_thn ?_
          refine at_cond_f rfl (rfl) ?_
          refine at_skip ?_
          refine at_in_norm ?_
          refine at_thn ?_
          refine at_reg [] [0, 5, 6, 7] (L2 := [(0, .slice A62 p61.length c63), (5, .slice A62 p61.length c63), (6, .int .i64 (p61.length : Int)), (7, .int .i64 (IntKind.i64.wrap (x65 + 1)))]) (obs := []) (by kernel_rfl) ?_ ?_
          · intro w hs; exact trivial
          refine at_thn ?_
          refine at_drop (k := 0) rfl rfl ?_
          refine at_keep [0, 5, 6, 7] (L2 := [(0, .slice A62 p61.length c63), (5, .slice A62 p61.length c63), (6, .int .i64 (p61.length : Int)), (7, .int .i64 (IntKind.i64.wrap (x65 + 1)))]) rfl ?_
          exact ih67 _ (by omega) _ _ _ ⟨IntKind.i64.wrap (x65 + 1), rfl, rfl, H, hle, by omega, hr64⟩
      · rw [if_neg h81] at H
        refine at_xseg [2, 3, 4, 5, 6, 7, 8, 9, 10, 11, 12] 4 (#[true, true, true, true, true, true, true, true, true, true, true, true, true, false, false, false, false]) rfl (by kernel_rfl) [(3, .bool true)] [0, 5, 6, 7, 15, 18, 23, 24] (L2 := [(0, .slice A62 p61.length c63), (5, .slice A62 p61.length c63), (6, .int .i64 (p61.length : Int)), (7, .int .i64 x65), (15, .bool true), (18, undef), (23, undef), (24, undef)]) (obs := [fun _ => (.bool (!b5) : Value) = .bool true]) (by kernel_rfl) (by kernel_rfl) (by kernel_rfl) (.inr fun w hs => cellsV (k := 0) hs rfl _ 0 (Nat.le_of_ble_eq_true (by kernel_rfl)) rfl) (fun w hS => congrArg Value.bool (not_tt (ff_of h81))) (fun w hs => congrArg Value.bool (not_tt (ff_of h81))) ?_
        refine at_xseg [13, 14, 15, 16] 0 (#[true, true, true, true, true, true, true, true, true, true, true, true, true, true, true, true, true]) rfl (by kernel_rfl) [] [0, 5, 6, 7, 28] (L2 := [(0, .slice A62 p61.length c63), (5, .slice A62 p61.length c63), (6, .int .i64 (p61.length : Int)), (7, .int .i64 x65), (28, .bool true)]) (obs := []) (by kernel_rfl) (by kernel_rfl) (by kernel_rfl) (.inr fun w hs => cellsV (k := 0) hs rfl _ 0 (Nat.le_of_ble_eq_true (by kernel_rfl)) rfl) (fun w hS => trivial) (fun w hs => trivial) ?_
        refine at_xend (by kernel_rfl) ?_
        refine at_thn ?_
        refine at_cond_t rfl (rfl) ?_
        refine at_seq ?_
        refine at_reg [] [2] (L2 := [(2, .bool false)]) (obs := []) (by kernel_rfl) ?_ ?_
        · intro w hs; exact trivial
        refine at_thn ?_
        refine at_ret ?_
        refine at_in_ret ?_
        refine at_then_ret ?_
        refine at_then_ret ?_
        refine at_in_ret ?_
        refine at_then_ret ?_
        obtain rfl := Option.some.inj H
        refine at_drop (k := 0) rfl rfl ?_
        refine at_done (vs := [.bool false]) (obs := []) (.inl rfl) [.tmp 2] [] rfl (by kernel_rfl) (fun w hs => trivial) (fun w hs => ⟨_, _, [], rfl, ⟨rfl, rfl⟩, hle, hs⟩)
    · rw [if_neg h69] at H
      refine at_cond_f rfl (decide_eq_false h69) ?_
      refine at_exit ?_
      refine at_then_exit ?_
      refine at_then_exit ?_
      refine at_in_hit ?_
      refine at_thn ?_
      refine at_seq ?_
      refine at_reg [] [2] (L2 := [(2, .bool (decide ((p61.length : Int) ≤ 60)))]) (obs := []) (by kernel_rfl) ?_ ?_
      · intro w hs; exact trivial
      refine at_thn ?_
      refine at_ret ?_
      obtain rfl := Option.some.inj H
      refine at_done (vs := [.bool (decide ((p61.length : Int) ≤ 60))]) (obs := []) (.inl rfl) [.tmp 2] [] rfl (by kernel_rfl) (fun w hs => trivial) (fun w hs => ⟨_, _, [], rfl, ⟨rfl, rfl⟩, hle, hs⟩)

/-! ### slices.BinarySearchFunc[[]loop.example/g00146/impl.Key,loop.example/g00146/impl.Key,loop.example/g00146/impl.Key]: function 18 -/
mutual
def impl_Key_18_at_19_l0 : Nat → Int → Int → (List T_impl_Key) → T_impl_Key → Option (Int × Bool)
  | 0, _, _, _, _ => none
  | k + 1, x196, x197, p75, p79 => if x196 < x197 then (if 0 ≤ (IntKind.i64.wrap ((IntKind.u64.wrap (IntKind.i64.wrap (x196 + x197))).fdiv (2 ^ 1))) then (if (IntKind.i64.wrap ((IntKind.u64.wrap (IntKind.i64.wrap (x196 + x197))).fdiv (2 ^ 1))) < (p75.length : Int) then ((impl_compareKeys k (rdA z_impl_Key p75 (IntKind.i64.wrap ((IntKind.u64.wrap (IntKind.i64.wrap (x196 + x197))).fdiv (2 ^ 1)))) p79).bind fun b8 => (if b8 < 0 then (impl_Key_18_at_19_l0 k (IntKind.i64.wrap ((IntKind.i64.wrap ((IntKind.u64.wrap (IntKind.i64.wrap (x196 + x197))).fdiv (2 ^ 1))) + 1)) x197 p75 p79) else (impl_Key_18_at_19_l0 k x196 (IntKind.i64.wrap ((IntKind.u64.wrap (IntKind.i64.wrap (x196 + x197))).fdiv (2 ^ 1))) p75 p79))) else none) else none) else (impl_Key_18_at_19_j0 k x196 p75 p79)
def impl_Key_18_at_19_j0 : Nat → Int → (List T_impl_Key) → T_impl_Key → Option (Int × Bool)
  | 0, _, _, _ => none
  | k + 1, x182, p75, p79 => if x182 < (p75.length : Int) then (if 0 ≤ x182 then ((impl_compareKeys k (rdA z_impl_Key p75 x182) p79).bind fun b7 => (some (x182, (b7 == 0)))) else none) else (some (x182, false))
end
def impl_Key_18_at_19 (k : Nat) (p75 : List T_impl_Key) (p79 : T_impl_Key) : Option (Int × Bool) := impl_Key_18_at_19_l0 k 0 (p75.length : Int) p75 p79
set_option maxHeartbeats 4000000 in
set_option maxRecDepth 100000 in
theorem impl_Key_18_at_19.calls {k : Nat} {p75 : List T_impl_Key} {p79 : T_impl_Key} {r : Int × Bool} {I0 : Imm} {A76 : Option Addr} {c77 : Nat} (H : impl_Key_18_at_19 k p75 p79 = some r) (hr78 : Rd k_impl_Key I0 A76 c77 p75) :
    Meets Try.prog 18 ([.slice A76 p75.length c77, .agg #[.int .i64 p79.Map, str p79.Keys, str p79.Name], .func (.func 19) #[] #[]] : List Value).toArray I0 [] (fun v J M => v = .tuple #[.int .i64 r.1, .bool r.2] ∧ M = []) := by
  have hle := ImmLe.refl I0
  unfold impl_Key_18_at_19 at H
  refine fn_intro (fn := Try.f18) 49 Try.func18 rfl rfl rfl (fun E Fs => ?_)
  refine at_seq ?_
  refine at_ops [0, 1, 2] rfl ?_
  refine at_eff rfl rfl ?_
  refine eff_box rfl rfl rfl #[.int .i64 p79.Map, str p79.Keys, str p79.Name] rfl (fun g80 => ?_)
  refine at_seg [1, 2] [] rfl [] [0, 2, 4] (L2 := [(0, .slice A76 p75.length c77), (2, .func (.func 19) #[] #[]), (4, .pointer (some ⟨g80, 0, none⟩))]) (obs := []) (by kernel_rfl) ?_ ?_
  · intro w hs; exact trivial
  refine at_end ?_
  refine at_thn ?_
  refine at_seq ?_
  refine at_reg [] [0, 2, 4, 8] (L2 := [(0, .slice A76 p75.length c77), (2, .func (.func 19) #[] #[]), (4, .pointer (some ⟨g80, 0, none⟩)), (8, .int .i64 (p75.length : Int))]) (obs := []) (by kernel_rfl) ?_ ?_
  · intro w hs; exact trivial
  refine at_thn ?_
  refine at_seq ?_
  refine at_reg [] [0, 2, 4, 8, 9, 10] (L2 := [(0, .slice A76 p75.length c77), (2, .func (.func 19) #[] #[]), (4, .pointer (some ⟨g80, 0, none⟩)), (8, .int .i64 (p75.length : Int)), (9, .int .i64 0), (10, .int .i64 (p75.length : Int))]) (obs := []) (by kernel_rfl) ?_ ?_
  · intro w hs; exact trivial
  refine at_thn ?_
  refine at_join (fun L I Ms => ∃ (k183 : Nat), ∃ (x182 : Int), L = [(0, .slice A76 p75.length c77), (2, .func (.func 19) #[] #[]), (4, .pointer (some ⟨g80, 0, none⟩)), (8, .int .i64 (p75.length : Int)), (9, .int .i64 x182)] ∧ Ms = ([(g80, .cells #[.int .i64 p79.Map, str p79.Keys, str p79.Name] 25 (0, 0))] :: Fs) ∧ impl_Key_18_at_19_j0 k183 x182 p75 p79 = some r ∧ ImmLe I0 I ∧ k183 ≤ k ∧ Rd k_impl_Key I A76 c77 p75) ?_ ?_
  · clear H hle hr78
    intro L I Ms h_; obtain ⟨k183, x182, hL_, hM_, H, hle, hk184, hr78⟩ := h_; rw [hL_, hM_]; clear hL_ hM_ L Ms
    rcases k183 with _ | k183
    · exact (no_none H).elim
    rw [impl_Key_18_at_19_j0] at H
    refine at_seq ?_
    by_cases h185 : x182 < (p75.length : Int)
    · rw [if_pos h185] at H
      obtain ⟨h186, H⟩ := ite_some H
      obtain ⟨cs188, hz189, hc187⟩ := hr78.elem z_impl_Key x182 h186 h185
      obtain rfl := hz189
      refine at_x hmo (fun w => CellsAt w ((A76.getD ad0).add (x182.toNat * 3)) [.int .i64 ((rdA z_impl_Key p75 x182).Map), str ((rdA z_impl_Key p75 x182).Keys), str ((rdA z_impl_Key p75 x182).Name)] 0 ∧ CellsAt w ⟨g80, 0, none⟩ [.int .i64 p79.Map, str p79.Keys, str p79.Name] 0) [11] ?_
      refine at_xseg [0, 1, 2, 3, 4, 5, 6, 7, 8, 9, 10] 5 (#[true, true, true, true, true, true, true, true, true, true, true, false, false, false, false, false]) rfl (by kernel_rfl) [(4, .bool true), (9, .agg #[.int .i64 ((rdA z_impl_Key p75 x182).Map), str ((rdA z_impl_Key p75 x182).Keys), str ((rdA z_impl_Key p75 x182).Name)]), (10, .agg #[.int .i64 p79.Map, str p79.Keys, str p79.Name])] [35, 39, 40, 44, 45] (L2 := [(35, .int .i64 x182), (39, .bool true), (40, .func (.func 19) #[] #[]), (44, .agg #[.int .i64 ((rdA z_impl_Key p75 x182).Map), str ((rdA z_impl_Key p75 x182).Keys), str ((rdA z_impl_Key p75 x182).Name)]), (45, .agg #[.int .i64 p79.Map, str p79.Keys, str p79.Name])]) (obs := [fun _ => (.bool (decide (x182 < (p75.length : Int))) : Value) = .bool true, fun _ => A76.isSome = true ∧ 0 ≤ x182 ∧ x182 < ((p75.length : Nat) : Int), fun w => CellsAt w ((A76.getD ad0).add (x182.toNat * 3)) [.int .i64 ((rdA z_impl_Key p75 x182).Map), str ((rdA z_impl_Key p75 x182).Keys), str ((rdA z_impl_Key p75 x182).Name)] 0, fun w => CellsAt w ⟨g80, 0, none⟩ [.int .i64 p79.Map, str p79.Keys, str p79.Name] 0]) (by kernel_rfl) (by kernel_rfl) (by kernel_rfl) (.inr fun w hs => ⟨⟨hc187 0 _ rfl hs, hc187 1 _ rfl hs, hc187 2 _ rfl hs, trivial⟩, cellsV (k := 0) hs rfl _ 0 (Nat.le_of_ble_eq_true (by kernel_rfl)) rfl⟩) (fun w hS => ⟨congrArg Value.bool (decide_eq_true h185), ⟨hr78.ne x182 h186 h185, h186, h185⟩, hS.1, hS.2⟩) (fun w hs => ⟨congrArg Value.bool (decide_eq_true h185), ⟨hr78.ne x182 h186 h185, h186, h185⟩, ⟨hc187 0 _ rfl hs, hc187 1 _ rfl hs, hc187 2 _ rfl hs, trivial⟩, cellsV (k := 0) hs rfl _ 0 (Nat.le_of_ble_eq_true (by kernel_rfl)) rfl⟩) ?_
      refine at_x1 4 11 (#[true, true, true, true, true, true, true, true, true, true, true, true, false, false, false, false]) rfl (by kernel_rfl) (by kernel_rfl) rfl rfl ?_
      obtain ⟨b7, H190, H⟩ := bind_some H
      have hm_ := impl_compareKeys.calls (I0 := I) H190
      refine eff_callv (first := []) (captured := []) rfl rfl rfl ok19 rfl rfl (hm_) (Mr := ([(g80, .cells #[.int .i64 p79.Map, str p79.Keys, str p79.Name] 25 (0, 0))] :: Fs)) (List.Perm.refl _) (fun v191 J192 M193 hq194 hJ195 => ?_)
      replace hle := hle.trans hJ195
      replace hc187 := hc_mono hc187 hJ195
      obtain ⟨rfl, rfl⟩ := hq194
      refine at_xX (by kernel_rfl) ?_
      refine at_xseg [12, 13, 14, 15] 0 (#[true, true, true, true, true, true, true, true, true, true, true, true, true, true, true, true]) rfl (by kernel_rfl) [] [6, 7] (L2 := [(6, .int .i64 x182), (7, .bool (b7 == 0))]) (obs := []) (by kernel_rfl) (by kernel_rfl) (by kernel_rfl) (.inl (by kernel_rfl)) (fun w hS => trivial) (fun w hs => trivial) ?_
      refine at_xend (by kernel_rfl) ?_
      refine at_thn ?_
      refine at_ret ?_
      obtain rfl := Option.some.inj H
      refine at_drop (k := 0) rfl rfl ?_
      refine at_done (vs := [.int .i64 x182, .bool (b7 == 0)]) (obs := []) (.inl rfl) [.tmp 6, .tmp 7] [] rfl (by kernel_rfl) (fun w hs => trivial) (fun w hs => ⟨_, _, [], rfl, ⟨rfl, rfl⟩, hle, hs⟩)
    · rw [if_neg h185] at H
      refine at_x hmo (fun w => True) [] ?_
      refine at_xseg [0, 1, 2, 3, 4, 5, 6, 7, 8, 9, 10] 5 (#[true, true, true, true, true, true, true, true, true, true, true, false, false, false, false, false]) rfl (by kernel_rfl) [(4, .bool false)] [35, 39, 40, 44, 45] (L2 := [(35, .int .i64 x182), (39, .bool false), (40, undef), (44, undef), (45, undef)]) (obs := [fun _ => (.bool (decide (x182 < (p75.length : Int))) : Value) = .bool false]) (by kernel_rfl) (by kernel_rfl) (by kernel_rfl) (.inr fun w hs => trivial) (fun w hS => congrArg Value.bool (decide_eq_false h185)) (fun w hs => congrArg Value.bool (decide_eq_false h185)) ?_
      refine at_xseg [11, 12, 13, 14, 15] 0 (#[true, true, true, true, true, true, true, true, true, true, true, true, true, true, true, true]) rfl (by kernel_rfl) [] [6, 7] (L2 := [(6, .int .i64 x182), (7, .bool false)]) (obs := []) (by kernel_rfl) (by kernel_rfl) (by kernel_rfl) (.inr fun w hs => trivial) (fun w hS => trivial) (fun w hs => trivial) ?_
      refine at_xend (by kernel_rfl) ?_
      refine at_thn ?_
      refine at_ret ?_
      obtain rfl := Option.some.inj H
      refine at_drop (k := 0) rfl rfl ?_
      refine at_done (vs := [.int .i64 x182, .bool false]) (obs := []) (.inl rfl) [.tmp 6, .tmp 7] [] rfl (by kernel_rfl) (fun w hs => trivial) (fun w hs => ⟨_, _, [], rfl, ⟨rfl, rfl⟩, hle, hs⟩)
  · intro Jn81
    refine at_block ?_
    refine at_keep [0, 2, 4, 8, 9, 10] (L2 := [(0, .slice A76 p75.length c77), (2, .func (.func 19) #[] #[]), (4, .pointer (some ⟨g80, 0, none⟩)), (8, .int .i64 (p75.length : Int)), (9, .int .i64 0), (10, .int .i64 (p75.length : Int))]) rfl ?_
    refine at_loop (fun k198 L I Ms => ∃ (x196 : Int) (x197 : Int), L = [(0, .slice A76 p75.length c77), (2, .func (.func 19) #[] #[]), (4, .pointer (some ⟨g80, 0, none⟩)), (8, .int .i64 (p75.length : Int)), (9, .int .i64 x196), (10, .int .i64 x197)] ∧ Ms = ([(g80, .cells #[.int .i64 p79.Map, str p79.Keys, str p79.Name] 25 (0, 0))] :: Fs) ∧ impl_Key_18_at_19_l0 k198 x196 x197 p75 p79 = some r ∧ ImmLe I0 I ∧ k198 ≤ k ∧ Rd k_impl_Key I A76 c77 p75) ?_ ?_ k ⟨0, (p75.length : Int), rfl, rfl, H, hle, Nat.le_refl _, hr78⟩
    · rintro L I Ms ⟨_, _, rfl, rfl, H, _⟩; exact no_none H
    · clear H hle hr78
      intro k198 ih199 L I Ms h_; obtain ⟨x196, x197, hL_, hM_, H, hle, hk200, hr78⟩ := h_; rw [hL_, hM_]; clear hL_ hM_ L Ms
      rw [impl_Key_18_at_19_l0] at H
      refine at_seq ?_
      refine at_seq ?_
      refine at_reg [] [0, 2, 4, 8, 9, 10, 17] (L2 := [(0, .slice A76 p75.length c77), (2, .func (.func 19) #[] #[]), (4, .pointer (some ⟨g80, 0, none⟩)), (8, .int .i64 (p75.length : Int)), (9, .int .i64 x196), (10, .int .i64 x197), (17, .bool (decide (x196 < x197)))]) (obs := []) (by kernel_rfl) ?_ ?_
      · intro w hs; exact trivial
      refine at_thn ?_
      by_cases h201 : x196 < x197
      · rw [if_pos h201] at H
        refine at_cond_t rfl (decide_eq_true h201) ?_
        refine at_skip ?_
        refine at_thn ?_
        refine at_block ?_
        refine at_seq ?_
        refine at_reg [] [0, 2, 4, 8, 9, 10, 11] (L2 := [(0, .slice A76 p75.length c77), (2, .func (.func 19) #[] #[]), (4, .pointer (some ⟨g80, 0, none⟩)), (8, .int .i64 (p75.length : Int)), (9, .int .i64 x196), (10, .int .i64 x197), (11, .int .i64 (IntKind.i64.wrap ((IntKind.u64.wrap (IntKind.i64.wrap (x196 + x197))).fdiv (2 ^ 1))))]) (obs := [fun _ => 0 ≤ (1 : Int)]) (by kernel_rfl) ?_ ?_
        · intro w hs; exact (by decide : (0 : Int) ≤ 1)
        refine at_thn ?_
        refine at_seq ?_
        obtain ⟨h202, H⟩ := ite_some H
        obtain ⟨h203, H⟩ := ite_some H
        obtain ⟨cs205, hz206, hc204⟩ := hr78.elem z_impl_Key (IntKind.i64.wrap ((IntKind.u64.wrap (IntKind.i64.wrap (x196 + x197))).fdiv (2 ^ 1))) h202 h203
        obtain rfl := hz206
        refine at_x hmo (fun w => CellsAt w ((A76.getD ad0).add ((IntKind.i64.wrap ((IntKind.u64.wrap (IntKind.i64.wrap (x196 + x197))).fdiv (2 ^ 1))).toNat * 3)) [.int .i64 ((rdA z_impl_Key p75 (IntKind.i64.wrap ((IntKind.u64.wrap (IntKind.i64.wrap (x196 + x197))).fdiv (2 ^ 1)))).Map), str ((rdA z_impl_Key p75 (IntKind.i64.wrap ((IntKind.u64.wrap (IntKind.i64.wrap (x196 + x197))).fdiv (2 ^ 1)))).Keys), str ((rdA z_impl_Key p75 (IntKind.i64.wrap ((IntKind.u64.wrap (IntKind.i64.wrap (x196 + x197))).fdiv (2 ^ 1)))).Name)] 0 ∧ CellsAt w ⟨g80, 0, none⟩ [.int .i64 p79.Map, str p79.Keys, str p79.Name] 0) [6] ?_
        refine at_xseg [0, 1, 2, 3, 4, 5] 2 (#[true, true, true, true, true, true, false, false]) rfl (by kernel_rfl) [(4, .agg #[.int .i64 ((rdA z_impl_Key p75 (IntKind.i64.wrap ((IntKind.u64.wrap (IntKind.i64.wrap (x196 + x197))).fdiv (2 ^ 1)))).Map), str ((rdA z_impl_Key p75 (IntKind.i64.wrap ((IntKind.u64.wrap (IntKind.i64.wrap (x196 + x197))).fdiv (2 ^ 1)))).Keys), str ((rdA z_impl_Key p75 (IntKind.i64.wrap ((IntKind.u64.wrap (IntKind.i64.wrap (x196 + x197))).fdiv (2 ^ 1)))).Name)]), (5, .agg #[.int .i64 p79.Map, str p79.Keys, str p79.Name])] [0, 2, 4, 8, 9, 10, 11, 24, 28, 29] (L2 := [(0, .slice A76 p75.length c77), (2, .func (.func 19) #[] #[]), (4, .pointer (some ⟨g80, 0, none⟩)), (8, .int .i64 (p75.length : Int)), (9, .int .i64 x196), (10, .int .i64 x197), (11, .int .i64 (IntKind.i64.wrap ((IntKind.u64.wrap (IntKind.i64.wrap (x196 + x197))).fdiv (2 ^ 1)))), (24, .func (.func 19) #[] #[]), (28, .agg #[.int .i64 ((rdA z_impl_Key p75 (IntKind.i64.wrap ((IntKind.u64.wrap (IntKind.i64.wrap (x196 + x197))).fdiv (2 ^ 1)))).Map), str ((rdA z_impl_Key p75 (IntKind.i64.wrap ((IntKind.u64.wrap (IntKind.i64.wrap (x196 + x197))).fdiv (2 ^ 1)))).Keys), str ((rdA z_impl_Key p75 (IntKind.i64.wrap ((IntKind.u64.wrap (IntKind.i64.wrap (x196 + x197))).fdiv (2 ^ 1)))).Name)]), (29, .agg #[.int .i64 p79.Map, str p79.Keys, str p79.Name])]) (obs := [fun _ => A76.isSome = true ∧ 0 ≤ (IntKind.i64.wrap ((IntKind.u64.wrap (IntKind.i64.wrap (x196 + x197))).fdiv (2 ^ 1))) ∧ (IntKind.i64.wrap ((IntKind.u64.wrap (IntKind.i64.wrap (x196 + x197))).fdiv (2 ^ 1))) < ((p75.length : Nat) : Int), fun w => CellsAt w ((A76.getD ad0).add ((IntKind.i64.wrap ((IntKind.u64.wrap (IntKind.i64.wrap (x196 + x197))).fdiv (2 ^ 1))).toNat * 3)) [.int .i64 ((rdA z_impl_Key p75 (IntKind.i64.wrap ((IntKind.u64.wrap (IntKind.i64.wrap (x196 + x197))).fdiv (2 ^ 1)))).Map), str ((rdA z_impl_Key p75 (IntKind.i64.wrap ((IntKind.u64.wrap (IntKind.i64.wrap (x196 + x197))).fdiv (2 ^ 1)))).Keys), str ((rdA z_impl_Key p75 (IntKind.i64.wrap ((IntKind.u64.wrap (IntKind.i64.wrap (x196 + x197))).fdiv (2 ^ 1)))).Name)] 0, fun w => CellsAt w ⟨g80, 0, none⟩ [.int .i64 p79.Map, str p79.Keys, str p79.Name] 0]) (by kernel_rfl) (by kernel_rfl) (by kernel_rfl) (.inr fun w hs => ⟨⟨hc204 0 _ rfl hs, hc204 1 _ rfl hs, hc204 2 _ rfl hs, trivial⟩, cellsV (k := 0) hs rfl _ 0 (Nat.le_of_ble_eq_true (by kernel_rfl)) rfl⟩) (fun w hS => ⟨⟨hr78.ne (IntKind.i64.wrap ((IntKind.u64.wrap (IntKind.i64.wrap (x196 + x197))).fdiv (2 ^ 1))) h202 h203, h202, h203⟩, hS.1, hS.2⟩) (fun w hs => ⟨⟨hr78.ne (IntKind.i64.wrap ((IntKind.u64.wrap (IntKind.i64.wrap (x196 + x197))).fdiv (2 ^ 1))) h202 h203, h202, h203⟩, ⟨hc204 0 _ rfl hs, hc204 1 _ rfl hs, hc204 2 _ rfl hs, trivial⟩, cellsV (k := 0) hs rfl _ 0 (Nat.le_of_ble_eq_true (by kernel_rfl)) rfl⟩) ?_
        refine at_x1 1 6 (#[true, true, true, true, true, true, true, false]) rfl (by kernel_rfl) (by kernel_rfl) rfl rfl ?_
        obtain ⟨b8, H207, H⟩ := bind_some H
        have hm_ := impl_compareKeys.calls (I0 := I) H207
        refine eff_callv (first := []) (captured := []) rfl rfl rfl ok19 rfl rfl (hm_) (Mr := ([(g80, .cells #[.int .i64 p79.Map, str p79.Keys, str p79.Name] 25 (0, 0))] :: Fs)) (List.Perm.refl _) (fun v208 J209 M210 hq211 hJ212 => ?_)
        replace hle := hle.trans hJ212
        replace hr78 := hr78.mono hJ212
        replace hc204 := hc_mono hc204 hJ212
        obtain ⟨rfl, rfl⟩ := hq211
        refine at_xX (by kernel_rfl) ?_
        refine at_xseg [7] 0 (#[true, true, true, true, true, true, true, true]) rfl (by kernel_rfl) [] [0, 2, 4, 8, 9, 10, 11, 31] (L2 := [(0, .slice A76 p75.length c77), (2, .func (.func 19) #[] #[]), (4, .pointer (some ⟨g80, 0, none⟩)), (8, .int .i64 (p75.length : Int)), (9, .int .i64 x196), (10, .int .i64 x197), (11, .int .i64 (IntKind.i64.wrap ((IntKind.u64.wrap (IntKind.i64.wrap (x196 + x197))).fdiv (2 ^ 1)))), (31, .bool (decide (b8 < 0)))]) (obs := []) (by kernel_rfl) (by kernel_rfl) (by kernel_rfl) (.inl (by kernel_rfl)) (fun w hS => trivial) (fun w hs => trivial) ?_
        refine at_xend (by kernel_rfl) ?_
        refine at_thn ?_
        by_cases h213 : b8 < 0
        · rw [if_pos h213] at H
          refine at_cond_t rfl (decide_eq_true h213) ?_
          refine at_reg [] [0, 2, 4, 8, 9, 10] (L2 := [(0, .slice A76 p75.length c77), (2, .func (.func 19) #[] #[]), (4, .pointer (some ⟨g80, 0, none⟩)), (8, .int .i64 (p75.length : Int)), (9, .int .i64 (IntKind.i64.wrap ((IntKind.i64.wrap ((IntKind.u64.wrap (IntKind.i64.wrap (x196 + x197))).fdiv (2 ^ 1))) + 1))), (10, .int .i64 x197)]) (obs := []) (by kernel_rfl) ?_ ?_
          · intro w hs; exact trivial
          refine at_in_norm ?_
          refine at_thn ?_
          refine at_keep [0, 2, 4, 8, 9, 10] (L2 := [(0, .slice A76 p75.length c77), (2, .func (.func 19) #[] #[]), (4, .pointer (some ⟨g80, 0, none⟩)), (8, .int .i64 (p75.length : Int)), (9, .int .i64 (IntKind.i64.wrap ((IntKind.i64.wrap ((IntKind.u64.wrap (IntKind.i64.wrap (x196 + x197))).fdiv (2 ^ 1))) + 1))), (10, .int .i64 x197)]) rfl ?_
          exact ih199 _ (by omega) _ _ _ ⟨IntKind.i64.wrap ((IntKind.i64.wrap ((IntKind.u64.wrap (IntKind.i64.wrap (x196 + x197))).fdiv (2 ^ 1))) + 1), x197, rfl, rfl, H, hle, by omega, hr78⟩
        · rw [if_neg h213] at H
          refine at_cond_f rfl (decide_eq_false h213) ?_
          refine at_reg [] [0, 2, 4, 8, 9, 10] (L2 := [(0, .slice A76 p75.length c77), (2, .func (.func 19) #[] #[]), (4, .pointer (some ⟨g80, 0, none⟩)), (8, .int .i64 (p75.length : Int)), (9, .int .i64 x196), (10, .int .i64 (IntKind.i64.wrap ((IntKind.u64.wrap (IntKind.i64.wrap (x196 + x197))).fdiv (2 ^ 1))))]) (obs := []) (by kernel_rfl) ?_ ?_
          · intro w hs; exact trivial
          refine at_in_norm ?_
          refine at_thn ?_
          refine at_keep [0, 2, 4, 8, 9, 10] (L2 := [(0, .slice A76 p75.length c77), (2, .func (.func 19) #[] #[]), (4, .pointer (some ⟨g80, 0, none⟩)), (8, .int .i64 (p75.length : Int)), (9, .int .i64 x196), (10, .int .i64 (IntKind.i64.wrap ((IntKind.u64.wrap (IntKind.i64.wrap (x196 + x197))).fdiv (2 ^ 1))))]) rfl ?_
          exact ih199 _ (by omega) _ _ _ ⟨x196, IntKind.i64.wrap ((IntKind.u64.wrap (IntKind.i64.wrap (x196 + x197))).fdiv (2 ^ 1)), rfl, rfl, H, hle, by omega, hr78⟩
      · rw [if_neg h201] at H
        refine at_cond_f rfl (decide_eq_false h201) ?_
        refine at_exit ?_
        refine at_then_exit ?_
        refine at_then_exit ?_
        refine at_in_hit ?_
        refine at_thn ?_
        refine at_keep [0, 2, 4, 8, 9] (L2 := [(0, .slice A76 p75.length c77), (2, .func (.func 19) #[] #[]), (4, .pointer (some ⟨g80, 0, none⟩)), (8, .int .i64 (p75.length : Int)), (9, .int .i64 x196)]) rfl ?_
        exact Jn81 _ _ _ ⟨_, x196, rfl, rfl, H, hle, by omega, hr78⟩
end Go.Proofs.Ytloojlhlfhmoeaa
