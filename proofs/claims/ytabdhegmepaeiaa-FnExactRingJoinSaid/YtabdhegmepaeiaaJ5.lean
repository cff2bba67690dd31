import Derived.Test.YtabdhegmepaeiaaJ4
namespace Go.Proofs.Ytabdhegmepaeiaa
open Go Eng
set_option linter.unusedVariables false
set_option linter.unusedSimpArgs false
/-! ### loop.example/g00146/impl.PointsRight: function 51 -/
def impl_PointsRight (k : Nat) (p130 : List Int) : Option Bool := if (p130.length : Int) ≤ 300 then ((slices_ContainsFunc_int64_int64_at_62 k p130).bind fun b8 => (some (!b8))) else (some false)
set_option maxHeartbeats 4000000 in
set_option maxRecDepth 100000 in
theorem impl_PointsRight.calls {k : Nat} {p130 : List Int} {r : Bool} {I0 : Imm} {A131 : Option Addr} {c132 : Nat} (H : impl_PointsRight k p130 = some r) (hr133 : Rd (Kd.int .i64) I0 A131 c132 p130) :
    Meets Try.prog 51 ([.slice A131 p130.length c132] : List Value).toArray I0 [] (fun v J M => v = .bool r ∧ M = []) := by
  have hle := ImmLe.refl I0
  unfold impl_PointsRight at H
  refine fn_intro (fn := Try.f51) 11 Try.func51 rfl rfl rfl (fun E Fs => ?_)
  refine at_seq ?_
  refine at_reg [] [0] (L2 := [(0, .slice A131 p130.length c132)]) (obs := []) (by kernel_rfl) ?_ ?_
  · intro w hs; exact trivial
  refine at_thn ?_
  refine at_seq ?_
  refine at_ops [0, 1, 2, 3, 4, 5, 6, 7, 8] rfl ?_
  by_cases h134 : (p130.length : Int) ≤ 300
  · rw [if_pos h134] at H
    refine at_seg [0, 1, 2, 3, 4] [5, 6, 7, 8] rfl [(3, .bool true)] [6, 7] (L2 := [(6, .bool true), (7, .slice A131 p130.length c132)]) (obs := [fun _ => (.bool (decide ((p130.length : Int) ≤ 300)) : Value) = .bool true]) (by kernel_rfl) ?_ ?_
    · intro w hs; exact congrArg Value.bool (decide_eq_true h134)
    refine at_eff rfl rfl ?_
    obtain ⟨b8, H135, H⟩ := bind_some H
    have hm_ := slices_ContainsFunc_int64_int64_at_62.calls (I0 := I0) H135 hr133
    refine eff_call rfl rfl ok61 rfl rfl (show Meets Try.prog 61 ([.slice A131 p130.length c132, .func (.func 62) #[] #[]] : List Value).toArray _ [] _ from hm_) (Mr := (Fs)) (List.Perm.refl _) (fun v136 J137 M138 hq139 hJ140 => ?_)
    replace hle := hle.trans hJ140
    replace hr133 := hr133.mono hJ140
    obtain ⟨rfl, rfl⟩ := hq139
    refine at_seg [6, 7, 8] [] rfl [] [2] (L2 := [(2, .bool (!b8))]) (obs := []) (by kernel_rfl) ?_ ?_
    · intro w hs; exact trivial
    refine at_end ?_
    refine at_thn ?_
    refine at_ret ?_
    obtain rfl := Option.some.inj H
    refine at_done (vs := [.bool (!b8)]) (obs := []) (.inl rfl) [.tmp 2] [] rfl (by kernel_rfl) (fun w hs => trivial) (fun w hs => ⟨_, _, [], rfl, ⟨rfl, rfl⟩, hle, hs⟩)
  · rw [if_neg h134] at H
    refine at_seg [0, 1, 2, 3, 4] [5, 6, 7, 8] rfl [(3, .bool false)] [6, 7] (L2 := [(6, .bool false), (7, undef)]) (obs := [fun _ => (.bool (decide ((p130.length : Int) ≤ 300)) : Value) = .bool false]) (by kernel_rfl) ?_ ?_
    · intro w hs; exact congrArg Value.bool (decide_eq_false h134)
    refine at_seg [5, 6, 7, 8] [] rfl [] [2] (L2 := [(2, .bool false)]) (obs := []) (by kernel_rfl) ?_ ?_
    · intro w hs; exact trivial
    refine at_end ?_
    refine at_thn ?_
    refine at_ret ?_
    obtain rfl := Option.some.inj H
    refine at_done (vs := [.bool false]) (obs := []) (.inl rfl) [.tmp 2] [] rfl (by kernel_rfl) (fun w hs => trivial) (fun w hs => ⟨_, _, [], rfl, ⟨rfl, rfl⟩, hle, hs⟩)

/-! ### loop.example/g00146/impl.isItem: function 33 -/
def impl_isItem (k : Nat) (p125 : List Int) : Option Bool := if (p125.length : Int) > 0 then ((impl_PointsRight k p125).bind fun b8 => (some b8)) else (some false)
set_option maxHeartbeats 4000000 in
set_option maxRecDepth 100000 in
theorem impl_isItem.calls {k : Nat} {p125 : List Int} {r : Bool} {I0 : Imm} {A126 : Option Addr} {c127 : Nat} (H : impl_isItem k p125 = some r) (hr128 : Rd (Kd.int .i64) I0 A126 c127 p125) :
    Meets Try.prog 33 ([.slice A126 p125.length c127] : List Value).toArray I0 [] (fun v J M => v = .bool r ∧ M = []) := by
  have hle := ImmLe.refl I0
  unfold impl_isItem at H
  refine fn_intro (fn := Try.f33) 10 Try.func33 rfl rfl rfl (fun E Fs => ?_)
  refine at_seq ?_
  refine at_reg [] [0] (L2 := [(0, .slice A126 p125.length c127)]) (obs := []) (by kernel_rfl) ?_ ?_
  · intro w hs; exact trivial
  refine at_thn ?_
  refine at_seq ?_
  refine at_ops [0, 1, 2, 3, 4, 5, 6, 7] rfl ?_
  by_cases h129 : (p125.length : Int) > 0
  · rw [if_pos h129] at H
    refine at_seg [0, 1, 2, 3, 4] [5, 6, 7] rfl [(3, .bool true)] [6, 7] (L2 := [(6, .bool true), (7, .slice A126 p125.length c127)]) (obs := [fun _ => (.bool (decide ((p125.length : Int) > 0)) : Value) = .bool true]) (by kernel_rfl) ?_ ?_
    · intro w hs; exact congrArg Value.bool (decide_eq_true h129)
    refine at_eff rfl rfl ?_
    obtain ⟨b8, H130, H⟩ := bind_some H
    have hm_ := impl_PointsRight.calls (I0 := I0) H130 hr128
    refine eff_call rfl rfl ok51 rfl rfl (show Meets Try.prog 51 ([.slice A126 p125.length c127] : List Value).toArray _ [] _ from hm_) (Mr := (Fs)) (List.Perm.refl _) (fun v131 J132 M133 hq134 hJ135 => ?_)
    replace hle := hle.trans hJ135
    replace hr128 := hr128.mono hJ135
    obtain ⟨rfl, rfl⟩ := hq134
    refine at_seg [6, 7] [] rfl [] [2] (L2 := [(2, .bool b8)]) (obs := []) (by kernel_rfl) ?_ ?_
    · intro w hs; exact trivial
    refine at_end ?_
    refine at_thn ?_
    refine at_ret ?_
    obtain rfl := Option.some.inj H
    refine at_done (vs := [.bool b8]) (obs := []) (.inl rfl) [.tmp 2] [] rfl (by kernel_rfl) (fun w hs => trivial) (fun w hs => ⟨_, _, [], rfl, ⟨rfl, rfl⟩, hle, hs⟩)
  · rw [if_neg h129] at H
    refine at_seg [0, 1, 2, 3, 4] [5, 6, 7] rfl [(3, .bool false)] [6, 7] (L2 := [(6, .bool false), (7, undef)]) (obs := [fun _ => (.bool (decide ((p125.length : Int) > 0)) : Value) = .bool false]) (by kernel_rfl) ?_ ?_
    · intro w hs; exact congrArg Value.bool (decide_eq_false h129)
    refine at_seg [5, 6, 7] [] rfl [] [2] (L2 := [(2, .bool false)]) (obs := []) (by kernel_rfl) ?_ ?_
    · intro w hs; exact trivial
    refine at_end ?_
    refine at_thn ?_
    refine at_ret ?_
    obtain rfl := Option.some.inj H
    refine at_done (vs := [.bool false]) (obs := []) (.inl rfl) [.tmp 2] [] rfl (by kernel_rfl) (fun w hs => trivial) (fun w hs => ⟨_, _, [], rfl, ⟨rfl, rfl⟩, hle, hs⟩)

/-! ### loop.example/g00146/impl.areItems$1: function 59 -/
def impl_areItems_1 (k : Nat) (p121 : List Int) : Option Bool := (impl_isItem k p121).bind fun b8 => (some (!b8))
set_option maxHeartbeats 4000000 in
set_option maxRecDepth 100000 in
theorem impl_areItems_1.calls {k : Nat} {p121 : List Int} {r : Bool} {I0 : Imm} {A122 : Option Addr} {c123 : Nat} (H : impl_areItems_1 k p121 = some r) (hr124 : Rd (Kd.int .i64) I0 A122 c123 p121) :
    Meets Try.prog 59 ([.slice A122 p121.length c123] : List Value).toArray I0 [] (fun v J M => v = .bool r ∧ M = []) := by
  have hle := ImmLe.refl I0
  unfold impl_areItems_1 at H
  refine fn_intro (fn := Try.f59) 6 Try.func59 rfl rfl rfl (fun E Fs => ?_)
  refine at_seq ?_
  refine at_reg [] [0] (L2 := [(0, .slice A122 p121.length c123)]) (obs := []) (by kernel_rfl) ?_ ?_
  · intro w hs; exact trivial
  refine at_thn ?_
  refine at_seq ?_
  refine at_ops [0, 1, 2, 3] rfl ?_
  refine at_seg [0] [1, 2, 3] rfl [] [3] (L2 := [(3, .slice A122 p121.length c123)]) (obs := []) (by kernel_rfl) ?_ ?_
  · intro w hs; exact trivial
  refine at_eff rfl rfl ?_
  obtain ⟨b8, H125, H⟩ := bind_some H
  have hm_ := impl_isItem.calls (I0 := I0) H125 hr124
  refine eff_call rfl rfl ok33 rfl rfl (show Meets Try.prog 33 ([.slice A122 p121.length c123] : List Value).toArray _ [] _ from hm_) (Mr := (Fs)) (List.Perm.refl _) (fun v126 J127 M128 hq129 hJ130 => ?_)
  replace hle := hle.trans hJ130
  replace hr124 := hr124.mono hJ130
  obtain ⟨rfl, rfl⟩ := hq129
  refine at_seg [2, 3] [] rfl [] [2] (L2 := [(2, .bool (!b8))]) (obs := []) (by kernel_rfl) ?_ ?_
  · intro w hs; exact trivial
  refine at_end ?_
  refine at_thn ?_
  refine at_ret ?_
  obtain rfl := Option.some.inj H
  refine at_done (vs := [.bool (!b8)]) (obs := []) (.inl rfl) [.tmp 2] [] rfl (by kernel_rfl) (fun w hs => trivial) (fun w hs => ⟨_, _, [], rfl, ⟨rfl, rfl⟩, hle, hs⟩)

/-! ### slices.IndexFunc[[][]int64,[]int64]: function 67 -/
def slices_IndexFunc_int64_int64_at_59_l0 : Nat → Int → (List (List Int)) → Option Int
  | 0, _, _ => none
  | k + 1, x113, p109 => if x113 < (p109.length : Int) then (if 0 ≤ x113 then ((impl_areItems_1 k (rdA [] p109 x113)).bind fun b8 => (if b8 = true then (some x113) else (slices_IndexFunc_int64_int64_at_59_l0 k (IntKind.i64.wrap (x113 + 1)) p109))) else none) else (some (-1))
def slices_IndexFunc_int64_int64_at_59 (k : Nat) (p109 : List (List Int)) : Option Int := slices_IndexFunc_int64_int64_at_59_l0 k 0 p109
set_option maxHeartbeats 4000000 in
set_option maxRecDepth 100000 in
theorem slices_IndexFunc_int64_int64_at_59.calls {k : Nat} {p109 : List (List Int)} {r : Int} {I0 : Imm} {A110 : Option Addr} {c111 : Nat} (H : slices_IndexFunc_int64_int64_at_59 k p109 = some r) (hr112 : Rd (Kd.slice (Kd.int .i64)) I0 A110 c111 p109) :
    Meets Try.prog 67 ([.slice A110 p109.length c111, .func (.func 59) #[] #[]] : List Value).toArray I0 [] (fun v J M => v = .int .i64 r ∧ M = []) := by
  have hle := ImmLe.refl I0
  unfold slices_IndexFunc_int64_int64_at_59 at H
  refine fn_intro (fn := Try.f67) 19 Try.func67 rfl rfl rfl (fun E Fs => ?_)
  refine at_seq ?_
  refine at_reg [] [0, 1] (L2 := [(0, .slice A110 p109.length c111), (1, .func (.func 59) #[] #[])]) (obs := []) (by kernel_rfl) ?_ ?_
  · intro w hs; exact trivial
  refine at_thn ?_
  refine at_seq ?_
  refine at_seq ?_
  refine at_reg [] [0, 1, 7, 8] (L2 := [(0, .slice A110 p109.length c111), (1, .func (.func 59) #[] #[]), (7, .int .i64 (p109.length : Int)), (8, .int .i64 0)]) (obs := []) (by kernel_rfl) ?_ ?_
  · intro w hs; exact trivial
  refine at_thn ?_
  refine at_block ?_
  refine at_keep [0, 1, 7, 8] (L2 := [(0, .slice A110 p109.length c111), (1, .func (.func 59) #[] #[]), (7, .int .i64 (p109.length : Int)), (8, .int .i64 0)]) rfl ?_
  refine at_loop (fun k114 L I Ms => ∃ (x113 : Int), L = [(0, .slice A110 p109.length c111), (1, .func (.func 59) #[] #[]), (7, .int .i64 (p109.length : Int)), (8, .int .i64 x113)] ∧ Ms = ([] ++ Fs) ∧ slices_IndexFunc_int64_int64_at_59_l0 k114 x113 p109 = some r ∧ ImmLe I0 I ∧ k114 ≤ k ∧ Rd (Kd.slice (Kd.int .i64)) I A110 c111 p109) ?_ ?_ k ⟨0, rfl, rfl, H, hle, Nat.le_refl _, hr112⟩
  · rintro L I Ms ⟨_, rfl, rfl, H, _⟩; exact no_none H
  · clear H hle hr112
    intro k114 ih115 L I Ms h_; obtain ⟨x113, hL_, hM_, H, hle, hk116, hr112⟩ := h_; rw [hL_, hM_]; clear hL_ hM_ L Ms
    rw [slices_IndexFunc_int64_int64_at_59_l0] at H
    refine at_seq ?_
    refine at_reg [] [0, 1, 7, 8, 9] (L2 := [(0, .slice A110 p109.length c111), (1, .func (.func 59) #[] #[]), (7, .int .i64 (p109.length : Int)), (8, .int .i64 x113), (9, .bool (decide (x113 < (p109.length : Int))))]) (obs := []) (by kernel_rfl) ?_ ?_
    · intro w hs; exact trivial
    refine at_thn ?_
    refine at_seq ?_
    by_cases h117 : x113 < (p109.length : Int)
    · rw [if_pos h117] at H
      refine at_cond_t rfl (decide_eq_true h117) ?_
      refine at_skip ?_
      refine at_thn ?_
      refine at_seq ?_
      refine at_block ?_
      refine at_seq ?_
      refine at_reg [] [0, 1, 5, 7, 8] (L2 := [(0, .slice A110 p109.length c111), (1, .func (.func 59) #[] #[]), (5, .int .i64 x113), (7, .int .i64 (p109.length : Int)), (8, .int .i64 x113)]) (obs := []) (by kernel_rfl) ?_ ?_
      · intro w hs; exact trivial
      refine at_thn ?_
      refine at_seq ?_
      refine at_ops [0, 1, 2, 3, 4, 5] rfl ?_
      obtain ⟨h118, H⟩ := ite_some H
      obtain ⟨cs123, hz124, hc119⟩ := hr112.elem [] x113 h118 h117
      obtain ⟨A120, c121, rfl, hr122⟩ := hz124
      refine at_seg [0, 1, 2, 3, 4] [5] rfl [(4, .slice A120 (rdA [] p109 x113).length c121)] [0, 1, 5, 7, 8, 11, 15] (L2 := [(0, .slice A110 p109.length c111), (1, .func (.func 59) #[] #[]), (5, .int .i64 x113), (7, .int .i64 (p109.length : Int)), (8, .int .i64 x113), (11, .func (.func 59) #[] #[]), (15, .slice A120 (rdA [] p109 x113).length c121)]) (obs := [fun _ => A110.isSome = true ∧ 0 ≤ x113 ∧ x113 < ((p109.length : Nat) : Int), fun w => w.cell? ((A110.getD ad0).add (x113.toNat * 1)) = some (.slice A120 (rdA [] p109 x113).length c121)]) (by kernel_rfl) ?_ ?_
      · intro w hs; exact ⟨⟨hr112.ne x113 h118 h117, h118, h117⟩, cell0 (hc119 0 _ rfl hs)⟩
      refine at_eff rfl rfl ?_
      obtain ⟨b8, H125, H⟩ := bind_some H
      have hm_ := impl_areItems_1.calls (I0 := I) H125 hr122
      refine eff_callv (first := []) (captured := []) rfl rfl rfl ok59 rfl rfl (hm_) (Mr := (Fs)) (List.Perm.refl _) (fun v126 J127 M128 hq129 hJ130 => ?_)
      replace hle := hle.trans hJ130
      replace hr112 := hr112.mono hJ130
      replace hr122 := hr122.mono hJ130
      obtain ⟨rfl, rfl⟩ := hq129
      refine at_end ?_
      refine at_thn ?_
      by_cases h131 : b8 = true
      · rw [if_pos h131] at H
        refine at_cond_t rfl (h131) ?_
        refine at_seq ?_
        refine at_reg [] [4] (L2 := [(4, .int .i64 x113)]) (obs := []) (by kernel_rfl) ?_ ?_
        · intro w hs; exact trivial
        refine at_thn ?_
        refine at_ret ?_
        refine at_in_ret ?_
        refine at_then_ret ?_
        refine at_then_ret ?_
        refine at_in_ret ?_
        refine at_then_ret ?_
        obtain rfl := Option.some.inj H
        refine at_done (vs := [.int .i64 x113]) (obs := []) (.inl rfl) [.tmp 4] [] rfl (by kernel_rfl) (fun w hs => trivial) (fun w hs => ⟨_, _, [], rfl, ⟨rfl, rfl⟩, hle, hs⟩)
      · rw [if_neg h131] at H
        refine at_cond_f rfl (ff_of h131) ?_
        refine at_skip ?_
        refine at_in_norm ?_
        refine at_thn ?_
        refine at_reg [] [0, 1, 7, 8] (L2 := [(0, .slice A110 p109.length c111), (1, .func (.func 59) #[] #[]), (7, .int .i64 (p109.length : Int)), (8, .int .i64 (IntKind.i64.wrap (x113 + 1)))]) (obs := []) (by kernel_rfl) ?_ ?_
        · intro w hs; exact trivial
        refine at_thn ?_
        refine at_keep [0, 1, 7, 8] (L2 := [(0, .slice A110 p109.length c111), (1, .func (.func 59) #[] #[]), (7, .int .i64 (p109.length : Int)), (8, .int .i64 (IntKind.i64.wrap (x113 + 1)))]) rfl ?_
        exact ih115 _ (by omega) _ _ _ ⟨IntKind.i64.wrap (x113 + 1), rfl, rfl, H, hle, by omega, hr112⟩
    · rw [if_neg h117] at H
      refine at_cond_f rfl (decide_eq_false h117) ?_
      refine at_exit ?_
      refine at_then_exit ?_
      refine at_then_exit ?_
      refine at_in_hit ?_
      refine at_thn ?_
      refine at_seq ?_
      refine at_reg [] [4] (L2 := [(4, .int .i64 (-1))]) (obs := []) (by kernel_rfl) ?_ ?_
      · intro w hs; exact trivial
      refine at_thn ?_
      refine at_ret ?_
      obtain rfl := Option.some.inj H
      refine at_done (vs := [.int .i64 (-1)]) (obs := []) (.inl rfl) [.tmp 4] [] rfl (by kernel_rfl) (fun w hs => trivial) (fun w hs => ⟨_, _, [], rfl, ⟨rfl, rfl⟩, hle, hs⟩)

/-! ### slices.ContainsFunc[[][]int64,[]int64]: function 58 -/
def slices_ContainsFunc_int64_int64_at_59 (k : Nat) (p105 : List (List Int)) : Option Bool := (slices_IndexFunc_int64_int64_at_59 k p105).bind fun b8 => (some (decide (b8 ≥ 0)))
set_option maxHeartbeats 4000000 in
set_option maxRecDepth 100000 in
theorem slices_ContainsFunc_int64_int64_at_59.calls {k : Nat} {p105 : List (List Int)} {r : Bool} {I0 : Imm} {A106 : Option Addr} {c107 : Nat} (H : slices_ContainsFunc_int64_int64_at_59 k p105 = some r) (hr108 : Rd (Kd.slice (Kd.int .i64)) I0 A106 c107 p105) :
    Meets Try.prog 58 ([.slice A106 p105.length c107, .func (.func 59) #[] #[]] : List Value).toArray I0 [] (fun v J M => v = .bool r ∧ M = []) := by
  have hle := ImmLe.refl I0
  unfold slices_ContainsFunc_int64_int64_at_59 at H
  refine fn_intro (fn := Try.f58) 9 Try.func58 rfl rfl rfl (fun E Fs => ?_)
  refine at_seq ?_
  refine at_reg [] [0, 1] (L2 := [(0, .slice A106 p105.length c107), (1, .func (.func 59) #[] #[])]) (obs := []) (by kernel_rfl) ?_ ?_
  · intro w hs; exact trivial
  refine at_thn ?_
  refine at_seq ?_
  refine at_ops [0, 1, 2, 3, 4] rfl ?_
  refine at_seg [0, 1] [2, 3, 4] rfl [] [5, 6] (L2 := [(5, .slice A106 p105.length c107), (6, .func (.func 59) #[] #[])]) (obs := []) (by kernel_rfl) ?_ ?_
  · intro w hs; exact trivial
  refine at_eff rfl rfl ?_
  obtain ⟨b8, H109, H⟩ := bind_some H
  have hm_ := slices_IndexFunc_int64_int64_at_59.calls (I0 := I0) H109 hr108
  refine eff_call rfl rfl ok67 rfl rfl (show Meets Try.prog 67 ([.slice A106 p105.length c107, .func (.func 59) #[] #[]] : List Value).toArray _ [] _ from hm_) (Mr := (Fs)) (List.Perm.refl _) (fun v110 J111 M112 hq113 hJ114 => ?_)
  replace hle := hle.trans hJ114
  replace hr108 := hr108.mono hJ114
  obtain ⟨rfl, rfl⟩ := hq113
  refine at_seg [3, 4] [] rfl [] [4] (L2 := [(4, .bool (decide (b8 ≥ 0)))]) (obs := []) (by kernel_rfl) ?_ ?_
  · intro w hs; exact trivial
  refine at_end ?_
  refine at_thn ?_
  refine at_ret ?_
  obtain rfl := Option.some.inj H
  refine at_done (vs := [.bool (decide (b8 ≥ 0))]) (obs := []) (.inl rfl) [.tmp 4] [] rfl (by kernel_rfl) (fun w hs => trivial) (fun w hs => ⟨_, _, [], rfl, ⟨rfl, rfl⟩, hle, hs⟩)

/-! ### loop.example/g00146/impl.areItems: function 45 -/
def impl_areItems (k : Nat) (p101 : List (List Int)) : Option Bool := (slices_ContainsFunc_int64_int64_at_59 k p101).bind fun b8 => (some (!b8))
set_option maxHeartbeats 4000000 in
set_option maxRecDepth 100000 in
theorem impl_areItems.calls {k : Nat} {p101 : List (List Int)} {r : Bool} {I0 : Imm} {A102 : Option Addr} {c103 : Nat} (H : impl_areItems k p101 = some r) (hr104 : Rd (Kd.slice (Kd.int .i64)) I0 A102 c103 p101) :
    Meets Try.prog 45 ([.slice A102 p101.length c103] : List Value).toArray I0 [] (fun v J M => v = .bool r ∧ M = []) := by
  have hle := ImmLe.refl I0
  unfold impl_areItems at H
  refine fn_intro (fn := Try.f45) 6 Try.func45 rfl rfl rfl (fun E Fs => ?_)
  refine at_seq ?_
  refine at_reg [] [0] (L2 := [(0, .slice A102 p101.length c103)]) (obs := []) (by kernel_rfl) ?_ ?_
  · intro w hs; exact trivial
  refine at_thn ?_
  refine at_seq ?_
  refine at_ops [0, 1, 2, 3] rfl ?_
  refine at_seg [0] [1, 2, 3] rfl [] [3] (L2 := [(3, .slice A102 p101.length c103)]) (obs := []) (by kernel_rfl) ?_ ?_
  · intro w hs; exact trivial
  refine at_eff rfl rfl ?_
  obtain ⟨b8, H105, H⟩ := bind_some H
  have hm_ := slices_ContainsFunc_int64_int64_at_59.calls (I0 := I0) H105 hr104
  refine eff_call rfl rfl ok58 rfl rfl (show Meets Try.prog 58 ([.slice A102 p101.length c103, .func (.func 59) #[] #[]] : List Value).toArray _ [] _ from hm_) (Mr := (Fs)) (List.Perm.refl _) (fun v106 J107 M108 hq109 hJ110 => ?_)
  replace hle := hle.trans hJ110
  replace hr104 := hr104.mono hJ110
  obtain ⟨rfl, rfl⟩ := hq109
  refine at_seg [2, 3] [] rfl [] [2] (L2 := [(2, .bool (!b8))]) (obs := []) (by kernel_rfl) ?_ ?_
  · intro w hs; exact trivial
  refine at_end ?_
  refine at_thn ?_
  refine at_ret ?_
  obtain rfl := Option.some.inj H
  refine at_done (vs := [.bool (!b8)]) (obs := []) (.inl rfl) [.tmp 2] [] rfl (by kernel_rfl) (fun w hs => trivial) (fun w hs => ⟨_, _, [], rfl, ⟨rfl, rfl⟩, hle, hs⟩)

/-! ### loop.example/g00146/impl.size[[]int64]: function 47 -/
def impl_size_int64 (p108 : List (List Int)) : Option Int := some (p108.length : Int)
set_option maxHeartbeats 4000000 in
set_option maxRecDepth 100000 in
theorem impl_size_int64.calls {p108 : List (List Int)} {r : Int} {I0 : Imm} {A109 : Option Addr} {c110 : Nat} (H : impl_size_int64 p108 = some r) (hr111 : Rd (Kd.slice (Kd.int .i64)) I0 A109 c110 p108) :
    Meets Try.prog 47 ([.slice A109 p108.length c110] : List Value).toArray I0 [] (fun v J M => v = .int .i64 r ∧ M = []) := by
  have hle := ImmLe.refl I0
  unfold impl_size_int64 at H
  refine fn_intro (fn := Try.f47) 5 Try.func47 rfl rfl rfl (fun E Fs => ?_)
  refine at_seq ?_
  refine at_reg [] [0] (L2 := [(0, .slice A109 p108.length c110)]) (obs := []) (by kernel_rfl) ?_ ?_
  · intro w hs; exact trivial
  refine at_thn ?_
  refine at_seq ?_
  refine at_reg [] [2] (L2 := [(2, .int .i64 (p108.length : Int))]) (obs := []) (by kernel_rfl) ?_ ?_
  · intro w hs; exact trivial
  refine at_thn ?_
  refine at_ret ?_
  obtain rfl := Option.some.inj H
  refine at_done (vs := [.int .i64 (p108.length : Int)]) (obs := []) (.inl rfl) [.tmp 2] [] rfl (by kernel_rfl) (fun w hs => trivial) (fun w hs => ⟨_, _, [], rfl, ⟨rfl, rfl⟩, hle, hs⟩)

/-! ### loop.example/g00146/impl.RingRight: function 21 -/
def impl_RingRight (k : Nat) (p95 : T_impl_Ring) : Option Bool := if (p95.Items.length : Int) ≤ 10 then ((impl_areItems k p95.Items).bind fun b8 => (if b8 = true then ((impl_size_int64 p95.Items).bind fun b9 => ((impl_within p95.At 0 (mx (IntKind.i64.wrap (b9 - 1)) 0)).bind fun b10 => (some b10))) else (some false))) else (some false)
set_option maxHeartbeats 4000000 in
set_option maxRecDepth 100000 in
theorem impl_RingRight.calls {k : Nat} {p95 : T_impl_Ring} {r : Bool} {I0 : Imm} {A96 : Option Addr} {c97 : Nat} (H : impl_RingRight k p95 = some r) (hr98 : Rd (Kd.slice (Kd.int .i64)) I0 A96 c97 p95.Items) :
    Meets Try.prog 21 ([.agg #[.slice A96 p95.Items.length c97, .int .i64 p95.At]] : List Value).toArray I0 [] (fun v J M => v = .bool r ∧ M = []) := by
  have hle := ImmLe.refl I0
  unfold impl_RingRight at H
  refine fn_intro (fn := Try.f21) 22 Try.func21 rfl rfl rfl (fun E Fs => ?_)
  refine at_seq ?_
  refine at_ops [0, 1] rfl ?_
  refine at_eff rfl rfl ?_
  refine eff_box rfl rfl rfl #[.slice A96 p95.Items.length c97, .int .i64 p95.At] rfl (fun g99 => ?_)
  refine at_seg [1] [] rfl [] [1] (L2 := [(1, .pointer (some ⟨g99, 0, none⟩))]) (obs := []) (by kernel_rfl) ?_ ?_
  · intro w hs; exact trivial
  refine at_end ?_
  refine at_thn ?_
  refine at_seq ?_
  by_cases h100 : (p95.Items.length : Int) ≤ 10
  · rw [if_pos h100] at H
    refine at_x hmo (fun w => w.cell? ⟨g99, 0, none⟩ = some (.slice A96 p95.Items.length c97) ∧ w.cell? ⟨g99, 0, none⟩ = some (.slice A96 p95.Items.length c97)) [] ?_
    refine at_xseg [0, 1, 2, 3, 4, 5, 6] 13 (#[true, true, true, true, true, true, true, false, false, false, false, false, false, false, false, false, false, false, false, false]) rfl (by kernel_rfl) [(1, .slice A96 p95.Items.length c97), (4, .bool true), (6, .slice A96 p95.Items.length c97)] [1, 7, 9] (L2 := [(1, .pointer (some ⟨g99, 0, none⟩)), (7, .bool true), (9, .slice A96 p95.Items.length c97)]) (obs := [fun w => w.cell? ⟨g99, 0, none⟩ = some (.slice A96 p95.Items.length c97), fun _ => (.bool (decide ((p95.Items.length : Int) ≤ 10)) : Value) = .bool true, fun w => w.cell? ⟨g99, 0, none⟩ = some (.slice A96 p95.Items.length c97)]) (by kernel_rfl) (by kernel_rfl) (by kernel_rfl) (.inr fun w hs => ⟨hs.var (k := 0) rfl 0 rfl, hs.var (k := 0) rfl 0 rfl⟩) (fun w hS => ⟨hS.1, congrArg Value.bool (decide_eq_true h100), hS.2⟩) (fun w hs => ⟨hs.var (k := 0) rfl 0 rfl, congrArg Value.bool (decide_eq_true h100), hs.var (k := 0) rfl 0 rfl⟩) ?_
    refine at_x1 12 7 (#[true, true, true, true, true, true, true, true, false, false, false, false, false, false, false, false, false, false, false, false]) rfl (by kernel_rfl) (by kernel_rfl) rfl rfl ?_
    obtain ⟨b8, H101, H⟩ := bind_some H
    have hm_ := impl_areItems.calls (I0 := I0) H101 hr98
    refine eff_call rfl rfl ok45 rfl rfl (show Meets Try.prog 45 ([.slice A96 p95.Items.length c97] : List Value).toArray _ [] _ from hm_) (Mr := ([(g99, .cells #[.slice A96 p95.Items.length c97, .int .i64 p95.At] 27 (0, 0))] :: Fs)) (List.Perm.refl _) (fun v102 J103 M104 hq105 hJ106 => ?_)
    replace hle := hle.trans hJ106
    replace hr98 := hr98.mono hJ106
    obtain ⟨rfl, rfl⟩ := hq105
    refine at_xS (fun w hs => ⟨hs.var (k := 0) rfl 0 rfl, hs.var (k := 0) rfl 0 rfl⟩) ?_
    by_cases h107 : b8 = true
    · rw [if_pos h107] at H
      refine at_xweak (S' := fun w => w.cell? ⟨g99, 0, none⟩ = some (.slice A96 p95.Items.length c97) ∧ w.cell? ⟨g99, 0, none⟩ = some (.slice A96 p95.Items.length c97) ∧ w.cell? ⟨g99, 1, none⟩ = some (.int .i64 p95.At) ∧ w.cell? ⟨g99, 0, none⟩ = some (.slice A96 p95.Items.length c97)) (fun w h_ => ⟨h_.1, h_.2.1⟩) ?_
      refine at_xseg [8, 9, 10, 11, 12, 13] 6 (#[true, true, true, true, true, true, true, true, true, true, true, true, true, true, false, false, false, false, false, false]) rfl (by kernel_rfl) [(9, .bool true), (11, .int .i64 p95.At), (13, .slice A96 p95.Items.length c97)] [12, 14, 16] (L2 := [(12, .bool true), (14, .int .i64 p95.At), (16, .slice A96 p95.Items.length c97)]) (obs := [fun _ => (.bool b8 : Value) = .bool true, fun w => w.cell? ⟨g99, 1, none⟩ = some (.int .i64 p95.At), fun w => w.cell? ⟨g99, 0, none⟩ = some (.slice A96 p95.Items.length c97)]) (by kernel_rfl) (by kernel_rfl) (by kernel_rfl) (.inr fun w hs => ⟨hs.var (k := 0) rfl 0 rfl, hs.var (k := 0) rfl 0 rfl, hs.var (k := 0) rfl 1 rfl, hs.var (k := 0) rfl 0 rfl⟩) (fun w hS => ⟨congrArg Value.bool (h107), hS.2.2.1, hS.2.2.2⟩) (fun w hs => ⟨congrArg Value.bool (h107), hs.var (k := 0) rfl 1 rfl, hs.var (k := 0) rfl 0 rfl⟩) ?_
      refine at_x1 5 14 (#[true, true, true, true, true, true, true, true, true, true, true, true, true, true, true, false, false, false, false, false]) rfl (by kernel_rfl) (by kernel_rfl) rfl rfl ?_
      obtain ⟨b9, H108, H⟩ := bind_some H
      have hm_ := impl_size_int64.calls (I0 := J103) H108 hr98
      refine eff_call rfl rfl ok47 rfl rfl (show Meets Try.prog 47 ([.slice A96 p95.Items.length c97] : List Value).toArray _ [] _ from hm_) (Mr := ([(g99, .cells #[.slice A96 p95.Items.length c97, .int .i64 p95.At] 27 (0, 0))] :: Fs)) (List.Perm.refl _) (fun v109 J110 M111 hq112 hJ113 => ?_)
      replace hle := hle.trans hJ113
      replace hr98 := hr98.mono hJ113
      obtain ⟨rfl, rfl⟩ := hq112
      refine at_xS (fun w hs => ⟨hs.var (k := 0) rfl 0 rfl, hs.var (k := 0) rfl 0 rfl, hs.var (k := 0) rfl 1 rfl, hs.var (k := 0) rfl 0 rfl⟩) ?_
      refine at_xseg [15, 16] 3 (#[true, true, true, true, true, true, true, true, true, true, true, true, true, true, true, true, true, false, false, false]) rfl (by kernel_rfl) [] [12, 14, 19] (L2 := [(12, .bool true), (14, .int .i64 p95.At), (19, .int .i64 (mx (IntKind.i64.wrap (b9 - 1)) 0))]) (obs := []) (by kernel_rfl) (by kernel_rfl) (by kernel_rfl) (.inr fun w hs => ⟨hs.var (k := 0) rfl 0 rfl, hs.var (k := 0) rfl 0 rfl, hs.var (k := 0) rfl 1 rfl, hs.var (k := 0) rfl 0 rfl⟩) (fun w hS => trivial) (fun w hs => trivial) ?_
      refine at_x1 2 17 (#[true, true, true, true, true, true, true, true, true, true, true, true, true, true, true, true, true, true, false, false]) rfl (by kernel_rfl) (by kernel_rfl) rfl rfl ?_
      obtain ⟨b10, H114, H⟩ := bind_some H
      have hm_ := impl_within.calls (I0 := J110) H114
      refine eff_call rfl rfl ok46 rfl rfl (show Meets Try.prog 46 ([.int .i64 p95.At, .int .i64 0, .int .i64 (mx (IntKind.i64.wrap (b9 - 1)) 0)] : List Value).toArray _ [] _ from hm_) (Mr := ([(g99, .cells #[.slice A96 p95.Items.length c97, .int .i64 p95.At] 27 (0, 0))] :: Fs)) (List.Perm.refl _) (fun v115 J116 M117 hq118 hJ119 => ?_)
      replace hle := hle.trans hJ119
      replace hr98 := hr98.mono hJ119
      obtain ⟨rfl, rfl⟩ := hq118
      refine at_xS (fun w hs => ⟨hs.var (k := 0) rfl 0 rfl, hs.var (k := 0) rfl 0 rfl, hs.var (k := 0) rfl 1 rfl, hs.var (k := 0) rfl 0 rfl⟩) ?_
      refine at_xseg [18, 19] 0 (#[true, true, true, true, true, true, true, true, true, true, true, true, true, true, true, true, true, true, true, true]) rfl (by kernel_rfl) [] [2] (L2 := [(2, .bool b10)]) (obs := []) (by kernel_rfl) (by kernel_rfl) (by kernel_rfl) (.inr fun w hs => ⟨hs.var (k := 0) rfl 0 rfl, hs.var (k := 0) rfl 0 rfl, hs.var (k := 0) rfl 1 rfl, hs.var (k := 0) rfl 0 rfl⟩) (fun w hS => trivial) (fun w hs => trivial) ?_
      refine at_xend (by kernel_rfl) ?_
      refine at_thn ?_
      refine at_ret ?_
      obtain rfl := Option.some.inj H
      refine at_drop (k := 0) rfl rfl ?_
      refine at_done (vs := [.bool b10]) (obs := []) (.inl rfl) [.tmp 2] [] rfl (by kernel_rfl) (fun w hs => trivial) (fun w hs => ⟨_, _, [], rfl, ⟨rfl, rfl⟩, hle, hs⟩)
    · rw [if_neg h107] at H
      refine at_xseg [8, 9, 10, 11, 12, 13] 6 (#[true, true, true, true, true, true, true, true, true, true, true, true, true, true, false, false, false, false, false, false]) rfl (by kernel_rfl) [(9, .bool false)] [12, 14, 16] (L2 := [(12, .bool false), (14, undef), (16, undef)]) (obs := [fun _ => (.bool b8 : Value) = .bool false]) (by kernel_rfl) (by kernel_rfl) (by kernel_rfl) (.inr fun w hs => ⟨hs.var (k := 0) rfl 0 rfl, hs.var (k := 0) rfl 0 rfl⟩) (fun w hS => congrArg Value.bool (ff_of h107)) (fun w hs => congrArg Value.bool (ff_of h107)) ?_
      refine at_xseg [14, 15, 16] 3 (#[true, true, true, true, true, true, true, true, true, true, true, true, true, true, true, true, true, false, false, false]) rfl (by kernel_rfl) [] [12, 14, 19] (L2 := [(12, .bool false), (14, undef), (19, undef)]) (obs := []) (by kernel_rfl) (by kernel_rfl) (by kernel_rfl) (.inr fun w hs => ⟨hs.var (k := 0) rfl 0 rfl, hs.var (k := 0) rfl 0 rfl⟩) (fun w hS => trivial) (fun w hs => trivial) ?_
      refine at_xseg [17, 18, 19] 0 (#[true, true, true, true, true, true, true, true, true, true, true, true, true, true, true, true, true, true, true, true]) rfl (by kernel_rfl) [] [2] (L2 := [(2, .bool false)]) (obs := []) (by kernel_rfl) (by kernel_rfl) (by kernel_rfl) (.inr fun w hs => ⟨hs.var (k := 0) rfl 0 rfl, hs.var (k := 0) rfl 0 rfl⟩) (fun w hS => trivial) (fun w hs => trivial) ?_
      refine at_xend (by kernel_rfl) ?_
      refine at_thn ?_
      refine at_ret ?_
      obtain rfl := Option.some.inj H
      refine at_drop (k := 0) rfl rfl ?_
      refine at_done (vs := [.bool false]) (obs := []) (.inl rfl) [.tmp 2] [] rfl (by kernel_rfl) (fun w hs => trivial) (fun w hs => ⟨_, _, [], rfl, ⟨rfl, rfl⟩, hle, hs⟩)
  · rw [if_neg h100] at H
    refine at_x hmo (fun w => w.cell? ⟨g99, 0, none⟩ = some (.slice A96 p95.Items.length c97)) [] ?_
    refine at_xseg [0, 1, 2, 3, 4, 5, 6] 13 (#[true, true, true, true, true, true, true, false, false, false, false, false, false, false, false, false, false, false, false, false]) rfl (by kernel_rfl) [(1, .slice A96 p95.Items.length c97), (4, .bool false)] [1, 7, 9] (L2 := [(1, .pointer (some ⟨g99, 0, none⟩)), (7, .bool false), (9, undef)]) (obs := [fun w => w.cell? ⟨g99, 0, none⟩ = some (.slice A96 p95.Items.length c97), fun _ => (.bool (decide ((p95.Items.length : Int) ≤ 10)) : Value) = .bool false]) (by kernel_rfl) (by kernel_rfl) (by kernel_rfl) (.inr fun w hs => hs.var (k := 0) rfl 0 rfl) (fun w hS => ⟨hS, congrArg Value.bool (decide_eq_false h100)⟩) (fun w hs => ⟨hs.var (k := 0) rfl 0 rfl, congrArg Value.bool (decide_eq_false h100)⟩) ?_
    refine at_xseg [7, 8, 9, 10, 11, 12, 13] 6 (#[true, true, true, true, true, true, true, true, true, true, true, true, true, true, false, false, false, false, false, false]) rfl (by kernel_rfl) [] [12, 14, 16] (L2 := [(12, .bool false), (14, undef), (16, undef)]) (obs := []) (by kernel_rfl) (by kernel_rfl) (by kernel_rfl) (.inr fun w hs => hs.var (k := 0) rfl 0 rfl) (fun w hS => trivial) (fun w hs => trivial) ?_
    refine at_xseg [14, 15, 16] 3 (#[true, true, true, true, true, true, true, true, true, true, true, true, true, true, true, true, true, false, false, false]) rfl (by kernel_rfl) [] [12, 14, 19] (L2 := [(12, .bool false), (14, undef), (19, undef)]) (obs := []) (by kernel_rfl) (by kernel_rfl) (by kernel_rfl) (.inr fun w hs => hs.var (k := 0) rfl 0 rfl) (fun w hS => trivial) (fun w hs => trivial) ?_
    refine at_xseg [17, 18, 19] 0 (#[true, true, true, true, true, true, true, true, true, true, true, true, true, true, true, true, true, true, true, true]) rfl (by kernel_rfl) [] [2] (L2 := [(2, .bool false)]) (obs := []) (by kernel_rfl) (by kernel_rfl) (by kernel_rfl) (.inr fun w hs => hs.var (k := 0) rfl 0 rfl) (fun w hS => trivial) (fun w hs => trivial) ?_
    refine at_xend (by kernel_rfl) ?_
    refine at_thn ?_
    refine at_ret ?_
    obtain rfl := Option.some.inj H
    refine at_drop (k := 0) rfl rfl ?_
    refine at_done (vs := [.bool false]) (obs := []) (.inl rfl) [.tmp 2] [] rfl (by kernel_rfl) (fun w hs => trivial) (fun w hs => ⟨_, _, [], rfl, ⟨rfl, rfl⟩, hle, hs⟩)

/-! ### slices.Clone[[]int64,int64]: function 48 -/
def slices_Clone_int64_int64 (p118 : List Int) : Option (List Int) := if ([] : List Int).length + p118.length ≤ 17592186044416 then (some (([] : List Int) ++ p118)) else none
set_option maxHeartbeats 4000000 in
set_option maxRecDepth 100000 in
theorem slices_Clone_int64_int64.calls {p118 : List Int} {r : (List Int)} {I0 : Imm} {A119 : Option Addr} {c120 : Nat} (H : slices_Clone_int64_int64 p118 = some r) (hr121 : Rd (Kd.int .i64) I0 A119 c120 p118) :
    Meets Try.prog 48 ([.slice A119 p118.length c120] : List Value).toArray I0 [] (fun v J M => ∃ (A_1 : Option Addr) (c_2 : Nat) (s_3 : Seg), v = .slice A_1 r.length c_2 ∧ M = [s_3] ∧ Own (Kd.int .i64) 2 J A_1 c_2 r s_3) := by
  have hle := ImmLe.refl I0
  unfold slices_Clone_int64_int64 at H
  refine fn_intro (fn := Try.f48) 8 Try.func48 rfl rfl rfl (fun E Fs => ?_)
  refine at_seq ?_
  refine at_reg [] [0] (L2 := [(0, .slice A119 p118.length c120)]) (obs := []) (by kernel_rfl) ?_ ?_
  · intro w hs; exact trivial
  refine at_thn ?_
  refine at_seq ?_
  refine at_seq ?_
  refine at_reg [] [0, 4] (L2 := [(0, .slice A119 p118.length c120), (4, .bool A119.isNone)]) (obs := []) (by kernel_rfl) ?_ ?_
  · intro w hs; exact trivial
  refine at_thn ?_
  by_cases h122 : A119.isNone = true
  · have hx_ := hr121.nilOf h122
    replace H : (some ([] : List Int)) = some r := by simpa [hx_] using H
    refine at_cond_t rfl (h122) ?_
    refine at_seq ?_
    refine at_reg [] [2] (L2 := [(2, .slice none ([] : List Int).length 0)]) (obs := []) (by kernel_rfl) ?_ ?_
    · intro w hs; exact trivial
    refine at_thn ?_
    refine at_ret ?_
    refine at_then_ret ?_
    refine at_nilseg ?_
    have ho123 := Own.nil (Kd.int .i64) 2 I0
    obtain rfl := Option.some.inj H
    refine at_done (vs := [.slice none ([] : List Int).length 0]) (obs := []) (.inl rfl) [.tmp 2] [] rfl (by kernel_rfl) (fun w hs => trivial) (fun w hs => ⟨_, _, [[]], rfl, ⟨none, 0, [], rfl, rfl, ho123⟩, hle, hs⟩)
  · refine at_cond_f rfl (ff_of h122) ?_
    refine at_skip ?_
    refine at_thn ?_
    refine at_seq ?_
    refine at_ops [0, 1, 2, 3] rfl ?_
    refine at_eff rfl rfl ?_
    refine eff_buildSlice (e := 2) (cells := #[]) ([] : List Int).length rfl rfl rfl (by kernel_rfl) (fun g123 => ?_)
    have ho124 := own_lit (K := (Kd.int .i64)) (e := 2) (I := I0) (xs := ([] : List Int)) (css := []) (cells := #[]) (b := g123) trivial rfl
    refine at_seg [1] [2, 3] rfl [] [5, 6] (L2 := [(5, .slice (some ⟨g123, 0, none⟩ : Option Addr) ([] : List Int).length (([] : List Int).length)), (6, .slice A119 p118.length c120)]) (obs := []) (by kernel_rfl) ?_ ?_
    · intro w hs; exact trivial
    refine at_eff rfl rfl ?_
    obtain ⟨h125, H⟩ := ite_some H
    obtain ⟨i_, hi_, hz_, hs_, hb_⟩ := info2
    refine eff_append (K := (Kd.int .i64)) (xs := ([] : List Int)) (ys := p118) 0 rfl rfl rfl rfl rfl und25 und25 hi_ hz_ hs_ rfl rfl rfl ho124 rfl (fun w hs => hr121.rowAt hs) (by rw [hb_]; omega) (by omega) (fun A126 c127 s128 ho129 => ?_)
    refine at_seg [3] [] rfl [] [2] (L2 := [(2, .slice A126 (([] : List Int) ++ p118).length c127)]) (obs := []) (by kernel_rfl) ?_ ?_
    · intro w hs; exact trivial
    refine at_end ?_
    refine at_thn ?_
    refine at_ret ?_
    obtain rfl := Option.some.inj H
    refine at_done (vs := [.slice A126 (([] : List Int) ++ p118).length c127]) (obs := []) (.inl rfl) [.tmp 2] [] rfl (by kernel_rfl) (fun w hs => trivial) (fun w hs => ⟨_, _, [s128], rfl, ⟨A126, c127, s128, rfl, rfl, ho129⟩, hle, hs⟩)

/-! ### loop.example/g00146/impl.ownLists: function 52 -/
def impl_ownLists_l0 : Nat → (List (List Int)) → Int → (List (List Int)) → Option (List (List Int))
  | 0, _, _, _ => none
  | k + 1, x110, x115, p104 => if x115 < (p104.length : Int) then (if 0 ≤ x115 then ((slices_Clone_int64_int64 (rdA [] p104 x115)).bind fun b8 => (if x110.length + ([b8] : List (List Int)).length ≤ 5864062014805 then (impl_ownLists_l0 k (x110 ++ ([b8] : List (List Int))) (IntKind.i64.wrap (x115 + 1)) p104) else none)) else none) else (some x110)
def impl_ownLists (k : Nat) (p104 : List (List Int)) : Option (List (List Int)) := impl_ownLists_l0 k ([] : List (List Int)) 0 p104
set_option maxHeartbeats 4000000 in
set_option maxRecDepth 100000 in
theorem impl_ownLists.calls {k : Nat} {p104 : List (List Int)} {r : (List (List Int))} {I0 : Imm} {A105 : Option Addr} {c106 : Nat} (H : impl_ownLists k p104 = some r) (hr107 : Rd (Kd.slice (Kd.int .i64)) I0 A105 c106 p104) :
    Meets Try.prog 52 ([.slice A105 p104.length c106] : List Value).toArray I0 [] (fun v J M => ∃ (A_1 : Option Addr) (c_2 : Nat) (s_3 : Seg), v = .slice A_1 r.length c_2 ∧ M = [s_3] ∧ DOwn (DK.sl (Kd.int .i64) 2) 25 J A_1 c_2 r s_3) := by
  have hle := ImmLe.refl I0
  unfold impl_ownLists at H
  refine fn_intro (fn := Try.f52) 20 Try.func52 rfl rfl rfl (fun E Fs => ?_)
  refine at_seq ?_
  refine at_reg [] [0] (L2 := [(0, .slice A105 p104.length c106)]) (obs := []) (by kernel_rfl) ?_ ?_
  · intro w hs; exact trivial
  refine at_thn ?_
  refine at_seq ?_
  refine at_ops [0, 1] rfl ?_
  refine at_eff rfl rfl ?_
  refine eff_buildSlice (e := 25) (cells := #[]) ([] : List (List Int)).length rfl rfl rfl (by kernel_rfl) (fun g108 => ?_)
  have hd109 := own_lit (K := Kd.raw 1) (e := 25) (I := I0) (xs := ([] : List (List Value))) (css := ([] : List (List Value))) (cells := #[]) (b := g108) trivial rfl
  replace hd109 : DOwn (DK.sl (Kd.int .i64) 2) 25 I0 (some ⟨g108, 0, none⟩ : Option Addr) (([] : List (List Int)).length) ([] : List (List Int)) [(g108, .cells #[] 25 (0, 0))] := DOwn.lit (hs := []) (sis := []) hd109 trivial (by simp)
  refine at_seg [1] [] rfl [] [0, 3] (L2 := [(0, .slice A105 p104.length c106), (3, .slice (some ⟨g108, 0, none⟩ : Option Addr) ([] : List (List Int)).length (([] : List (List Int)).length))]) (obs := []) (by kernel_rfl) ?_ ?_
  · intro w hs; exact trivial
  refine at_end ?_
  refine at_thn ?_
  refine at_seq ?_
  refine at_seq ?_
  refine at_reg [] [3, 7, 8, 9] (L2 := [(3, .slice (some ⟨g108, 0, none⟩ : Option Addr) ([] : List (List Int)).length (([] : List (List Int)).length)), (7, .slice A105 p104.length c106), (8, .int .i64 (p104.length : Int)), (9, .int .i64 0)]) (obs := []) (by kernel_rfl) ?_ ?_
  · intro w hs; exact trivial
  refine at_thn ?_
  refine at_block ?_
  refine at_keep [3, 7, 8, 9] (L2 := [(3, .slice (some ⟨g108, 0, none⟩ : Option Addr) ([] : List (List Int)).length (([] : List (List Int)).length)), (7, .slice A105 p104.length c106), (8, .int .i64 (p104.length : Int)), (9, .int .i64 0)]) rfl ?_
  refine at_loop (fun k116 L I Ms => ∃ (x110 : List (List Int)) (A111 : Option Addr) (c112 : Nat) (s113 : Seg) (x115 : Int), L = [(3, .slice A111 x110.length c112), (7, .slice A105 p104.length c106), (8, .int .i64 (p104.length : Int)), (9, .int .i64 x115)] ∧ Ms = (s113 :: Fs) ∧ impl_ownLists_l0 k116 x110 x115 p104 = some r ∧ ImmLe I0 I ∧ k116 ≤ k ∧ DOwn (DK.sl (Kd.int .i64) 2) 25 I A111 c112 x110 s113 ∧ Rd (Kd.slice (Kd.int .i64)) I A105 c106 p104) ?_ ?_ k ⟨([] : List (List Int)), (some ⟨g108, 0, none⟩ : Option Addr), ([] : List (List Int)).length, [(g108, .cells #[] 25 (0, 0))], 0, rfl, rfl, H, hle, Nat.le_refl _, hd109, hr107⟩
  · rintro L I Ms ⟨_, _, _, _, _, rfl, rfl, H, _⟩; exact no_none H
  · clear H hle hd109 hr107
    intro k116 ih117 L I Ms h_; obtain ⟨x110, A111, c112, s113, x115, hL_, hM_, H, hle, hk118, ho114, hr107⟩ := h_; rw [hL_, hM_]; clear hL_ hM_ L Ms
    rw [impl_ownLists_l0] at H
    refine at_seq ?_
    refine at_reg [] [3, 7, 8, 9, 10] (L2 := [(3, .slice A111 x110.length c112), (7, .slice A105 p104.length c106), (8, .int .i64 (p104.length : Int)), (9, .int .i64 x115), (10, .bool (decide (x115 < (p104.length : Int))))]) (obs := []) (by kernel_rfl) ?_ ?_
    · intro w hs; exact trivial
    refine at_thn ?_
    refine at_seq ?_
    by_cases h119 : x115 < (p104.length : Int)
    · rw [if_pos h119] at H
      refine at_cond_t rfl (decide_eq_true h119) ?_
      refine at_skip ?_
      refine at_thn ?_
      refine at_seq ?_
      refine at_block ?_
      refine at_seq ?_
      obtain ⟨h120, H⟩ := ite_some H
      obtain ⟨cs125, hz126, hc121⟩ := hr107.elem [] x115 h120 h119
      obtain ⟨A122, c123, rfl, hr124⟩ := hz126
      refine at_reg [(1, .slice A122 (rdA [] p104 x115).length c123)] [3, 5, 7, 8, 9] (L2 := [(3, .slice A111 x110.length c112), (5, .slice A122 (rdA [] p104 x115).length c123), (7, .slice A105 p104.length c106), (8, .int .i64 (p104.length : Int)), (9, .int .i64 x115)]) (obs := [fun _ => A105.isSome = true ∧ 0 ≤ x115 ∧ x115 < ((p104.length : Nat) : Int), fun w => w.cell? ((A105.getD ad0).add (x115.toNat * 1)) = some (.slice A122 (rdA [] p104 x115).length c123)]) (by kernel_rfl) ?_ ?_
      · intro w hs; exact ⟨⟨hr107.ne x115 h120 h119, h120, h119⟩, cell0 (hc121 0 _ rfl hs)⟩
      refine at_thn ?_
      refine at_ops [0, 1, 2, 3, 4, 5] rfl ?_
      refine at_seg [0, 1] [2, 3, 4, 5] rfl [] [3, 7, 8, 9, 13, 14] (L2 := [(3, .slice A111 x110.length c112), (7, .slice A105 p104.length c106), (8, .int .i64 (p104.length : Int)), (9, .int .i64 x115), (13, .slice A111 x110.length c112), (14, .slice A122 (rdA [] p104 x115).length c123)]) (obs := []) (by kernel_rfl) ?_ ?_
      · intro w hs; exact trivial
      refine at_eff rfl rfl ?_
      obtain ⟨b8, H127, H⟩ := bind_some H
      have hm_ := slices_Clone_int64_int64.calls (I0 := I) H127 hr124
      refine eff_call rfl rfl ok48 rfl rfl (show Meets Try.prog 48 ([.slice A122 (rdA [] p104 x115).length c123] : List Value).toArray _ [] _ from hm_) (Mr := (s113 :: Fs)) (List.Perm.refl _) (fun v128 J129 M130 hq131 hJ132 => ?_)
      replace hle := hle.trans hJ132
      replace ho114 := ho114.mono hJ132
      replace hr107 := hr107.mono hJ132
      replace hr124 := hr124.mono hJ132
      obtain ⟨A133, c134, s135, rfl, rfl, ho136⟩ := hq131
      refine at_eff rfl rfl ?_
      refine eff_buildSlice (e := 25) (cells := #[.slice A133 b8.length c134]) ([b8] : List (List Int)).length rfl rfl rfl (by kernel_rfl) (fun g137 => ?_)
      have hd138 := own_lit (K := Kd.raw 1) (e := 25) (I := J129) (xs := ([[.slice A133 b8.length c134]] : List (List Value))) (css := ([[.slice A133 b8.length c134]] : List (List Value))) (cells := #[.slice A133 b8.length c134]) (b := g137) ⟨⟨rfl, rfl, rfl⟩, trivial⟩ rfl
      refine at_merge 1 0 rfl rfl rfl ?_
      replace hd138 : DOwn (DK.sl (Kd.int .i64) 2) 25 J129 (some ⟨g137, 0, none⟩ : Option Addr) (([b8] : List (List Int)).length) ([b8] : List (List Int)) (s135 ++ [(g137, .cells #[.slice A133 b8.length c134] 25 (0, 0))]) := DOwn.lit (hs := [[.slice A133 b8.length c134]]) (sis := [s135]) hd138 ⟨⟨_, _, rfl, ho136⟩, trivial⟩ (perm_lit1 _ _)
      refine at_eff rfl rfl ?_
      obtain ⟨h139, H⟩ := ite_some H
      obtain ⟨i_, hi_, hz_, hs_, hb_⟩ := info25
      refine eff_appendD (D := (DK.sl (Kd.int .i64) 2)) (xs := x110) (ys := ([b8] : List (List Int))) 0 0 rfl rfl rfl rfl rfl und22 und22 hi_ hz_ hs_ rfl rfl rfl ho114 hd138 rfl rfl (by rw [hb_]; omega) (by omega) (fun A140 c141 s142 hd143 => ?_)
      refine at_seg [5] [] rfl [] [3, 7, 8, 9] (L2 := [(3, .slice A140 (x110 ++ ([b8] : List (List Int))).length c141), (7, .slice A105 p104.length c106), (8, .int .i64 (p104.length : Int)), (9, .int .i64 x115)]) (obs := []) (by kernel_rfl) ?_ ?_
      · intro w hs; exact trivial
      refine at_end ?_
      refine at_in_norm ?_
      refine at_thn ?_
      refine at_reg [] [3, 7, 8, 9] (L2 := [(3, .slice A140 (x110 ++ ([b8] : List (List Int))).length c141), (7, .slice A105 p104.length c106), (8, .int .i64 (p104.length : Int)), (9, .int .i64 (IntKind.i64.wrap (x115 + 1)))]) (obs := []) (by kernel_rfl) ?_ ?_
      · intro w hs; exact trivial
      refine at_thn ?_
      refine at_keep [3, 7, 8, 9] (L2 := [(3, .slice A140 (x110 ++ ([b8] : List (List Int))).length c141), (7, .slice A105 p104.length c106), (8, .int .i64 (p104.length : Int)), (9, .int .i64 (IntKind.i64.wrap (x115 + 1)))]) rfl ?_
      exact ih117 _ (by omega) _ _ _ ⟨(x110 ++ ([b8] : List (List Int))), A140, c141, s142, IntKind.i64.wrap (x115 + 1), rfl, rfl, H, hle, by omega, hd143, hr107⟩
    · rw [if_neg h119] at H
      refine at_cond_f rfl (decide_eq_false h119) ?_
      refine at_exit ?_
      refine at_then_exit ?_
      refine at_then_exit ?_
      refine at_in_hit ?_
      refine at_thn ?_
      refine at_seq ?_
      refine at_reg [] [2] (L2 := [(2, .slice A111 x110.length c112)]) (obs := []) (by kernel_rfl) ?_ ?_
      · intro w hs; exact trivial
      refine at_thn ?_
      refine at_ret ?_
      obtain rfl := Option.some.inj H
      refine at_done (vs := [.slice A111 x110.length c112]) (obs := []) (.inl rfl) [.tmp 2] [] rfl (by kernel_rfl) (fun w hs => trivial) (fun w hs => ⟨_, _, [s113], rfl, ⟨A111, c112, s113, rfl, rfl, ho114⟩, hle, hs⟩)

/-! ### loop.example/g00146/impl.ownRing: function 34 -/
def impl_ownRing (k : Nat) (p98 : T_impl_Ring) : Option T_impl_Ring := (impl_ownLists k p98.Items).bind fun b8 => (some (⟨b8, p98.At⟩ : T_impl_Ring))
set_option maxHeartbeats 4000000 in
set_option maxRecDepth 100000 in
theorem impl_ownRing.calls {k : Nat} {p98 : T_impl_Ring} {r : T_impl_Ring} {I0 : Imm} {A99 : Option Addr} {c100 : Nat} (H : impl_ownRing k p98 = some r) (hr101 : Rd (Kd.slice (Kd.int .i64)) I0 A99 c100 p98.Items) :
    Meets Try.prog 34 ([.agg #[.slice A99 p98.Items.length c100, .int .i64 p98.At]] : List Value).toArray I0 [] (fun v J M => ∃ (A_1 : Option Addr) (c_2 : Nat) (s_3 : Seg), v = .agg #[.slice A_1 r.Items.length c_2, .int .i64 r.At] ∧ M = [s_3] ∧ DOwn (DK.sl (Kd.int .i64) 2) 25 J A_1 c_2 r.Items s_3) := by
  have hle := ImmLe.refl I0
  unfold impl_ownRing at H
  refine fn_intro (fn := Try.f34) 9 Try.func34 rfl rfl rfl (fun E Fs => ?_)
  refine at_seq ?_
  refine at_ops [0, 1] rfl ?_
  refine at_eff rfl rfl ?_
  refine eff_box rfl rfl rfl #[.slice A99 p98.Items.length c100, .int .i64 p98.At] rfl (fun g102 => ?_)
  refine at_eff rfl rfl ?_
  obtain ⟨i_, hi_, hz_, _, _⟩ := info27
  refine eff_alloc rfl rfl hi_ hz_ #[.slice none ([] : List (List Int)).length 0, .int .i64 0] rfl (fun g103 => ?_)
  refine at_end ?_
  refine at_thn ?_
  refine at_seq ?_
  refine at_x hmo (fun w => w.cell? ⟨g102, 0, none⟩ = some (.slice A99 p98.Items.length c100) ∧ w.cell? ⟨g102, 1, none⟩ = some (.int .i64 p98.At)) [6] ?_
  refine at_xseg [0, 1, 3, 4] 3 (#[true, true, false, true, true, false, false]) rfl (by kernel_rfl) [(1, .slice A99 p98.Items.length c100), (4, .int .i64 p98.At)] [2, 4, 7] (L2 := [(2, .pointer (some ⟨g103, 0, none⟩)), (4, .slice A99 p98.Items.length c100), (7, .int .i64 p98.At)]) (obs := [fun w => w.cell? ⟨g102, 0, none⟩ = some (.slice A99 p98.Items.length c100), fun w => w.cell? ⟨g102, 1, none⟩ = some (.int .i64 p98.At)]) (by kernel_rfl) (by kernel_rfl) (by kernel_rfl) (.inr fun w hs => ⟨hs.var (k := 1) rfl 0 rfl, hs.var (k := 1) rfl 1 rfl⟩) (fun w hS => ⟨hS.1, hS.2⟩) (fun w hs => ⟨hs.var (k := 1) rfl 0 rfl, hs.var (k := 1) rfl 1 rfl⟩) ?_
  refine at_x1 2 2 (#[true, true, true, true, true, false, false]) rfl (by kernel_rfl) (by kernel_rfl) rfl rfl ?_
  obtain ⟨b8, H104, H⟩ := bind_some H
  have hm_ := impl_ownLists.calls (I0 := I0) H104 hr101
  refine eff_call rfl rfl ok52 rfl rfl (show Meets Try.prog 52 ([.slice A99 p98.Items.length c100] : List Value).toArray _ [] _ from hm_) (Mr := ([(g103, .cells #[.slice none ([] : List (List Int)).length 0, .int .i64 0] 27 (0, 0))] :: [(g102, .cells #[.slice A99 p98.Items.length c100, .int .i64 p98.At] 27 (0, 0))] :: Fs)) (List.Perm.refl _) (fun v105 J106 M107 hq108 hJ109 => ?_)
  replace hle := hle.trans hJ109
  replace hr101 := hr101.mono hJ109
  obtain ⟨A110, c111, s112, rfl, rfl, ho113⟩ := hq108
  refine at_xS (fun w hs => ⟨hs.var (k := 2) rfl 0 rfl, hs.var (k := 2) rfl 1 rfl⟩) ?_
  refine at_xseg [5] 1 (#[true, true, true, true, true, true, false]) rfl (by kernel_rfl) [] [2, 8] (L2 := [(2, .pointer (some ⟨g103, 0, none⟩)), (8, .agg #[.slice A110 b8.length c111, .int .i64 p98.At])]) (obs := []) (by kernel_rfl) (by kernel_rfl) (by kernel_rfl) (.inr fun w hs => ⟨hs.var (k := 2) rfl 0 rfl, hs.var (k := 2) rfl 1 rfl⟩) (fun w hS => trivial) (fun w hs => trivial) ?_
  refine at_x1 0 6 (#[true, true, true, true, true, true, true]) rfl (by kernel_rfl) (by kernel_rfl) rfl rfl ?_
  refine eff_store 1 rfl rfl rfl rfl rfl rfl (.inl (Nat.le_refl _)) rfl (Nat.le_of_ble_eq_true (by kernel_rfl)) rfl ?_
  refine at_xX (by kernel_rfl) ?_
  refine at_xend (by kernel_rfl) ?_
  refine at_thn ?_
  refine at_ret ?_
  obtain rfl := Option.some.inj H
  refine at_drop (k := 2) rfl rfl ?_
  refine at_done (vs := [.agg #[.slice A110 b8.length c111, .int .i64 p98.At]]) (obs := [fun w => CellsAt w ⟨g103, 0, none⟩ [.slice A110 b8.length c111, .int .i64 p98.At] 0]) (.inl rfl) [.cell 2 27] [(2, .agg #[.slice A110 b8.length c111, .int .i64 p98.At])] rfl (by kernel_rfl) (fun w hs => cellsV (k := 1) hs rfl _ 0 (Nat.le_of_ble_eq_true (by kernel_rfl)) rfl) (fun w hs => ⟨_, _, [s112], rfl, ⟨A110, c111, s112, rfl, rfl, ho113⟩, hle, (hs.tail (perm_at (k := 1) rfl))⟩)
end Go.Proofs.Ytabdhegmepaeiaa
