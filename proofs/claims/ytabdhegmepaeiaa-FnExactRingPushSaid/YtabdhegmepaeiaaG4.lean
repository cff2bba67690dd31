import Derived.Test.YtabdhegmepaeiaaG3
namespace Go.Proofs.Ytabdhegmepaeiaa
open Go Eng
set_option linter.unusedVariables false
set_option linter.unusedSimpArgs false
/-! ### loop.example/g00146/impl.isMany: function 32 -/
def impl_isMany (p86 : Int) : Option Bool := some (decide (p86 > 400))
set_option maxHeartbeats 4000000 in
set_option maxRecDepth 100000 in
theorem impl_isMany.calls {p86 : Int} {r : Bool} {I0 : Imm} (H : impl_isMany p86 = some r) :
    Meets Try.prog 32 ([.int .i64 p86] : List Value).toArray I0 [] (fun v J M => v = .bool r ∧ M = []) := by
  have hle := ImmLe.refl I0
  unfold impl_isMany at H
  refine fn_intro (fn := Try.f32) 5 Try.func32 rfl rfl rfl (fun E Fs => ?_)
  refine at_seq ?_
  refine at_reg [] [0] (L2 := [(0, .int .i64 p86)]) (obs := []) (by kernel_rfl) ?_ ?_
  · intro w hs; exact trivial
  refine at_thn ?_
  refine at_seq ?_
  refine at_reg [] [2] (L2 := [(2, .bool (decide (p86 > 400)))]) (obs := []) (by kernel_rfl) ?_ ?_
  · intro w hs; exact trivial
  refine at_thn ?_
  refine at_ret ?_
  obtain rfl := Option.some.inj H
  refine at_done (vs := [.bool (decide (p86 > 400))]) (obs := []) (.inl rfl) [.tmp 2] [] rfl (by kernel_rfl) (fun w hs => trivial) (fun w hs => ⟨_, _, [], rfl, ⟨rfl, rfl⟩, hle, hs⟩)

/-! ### loop.example/g00146/impl.within: function 46 -/
def impl_within (p145 : Int) (p146 : Int) (p147 : Int) : Option Bool := if p146 ≤ p145 then (some (decide (p145 ≤ p147))) else (some false)
set_option maxHeartbeats 4000000 in
set_option maxRecDepth 100000 in
theorem impl_within.calls {p145 : Int} {p146 : Int} {p147 : Int} {r : Bool} {I0 : Imm} (H : impl_within p145 p146 p147 = some r) :
    Meets Try.prog 46 ([.int .i64 p145, .int .i64 p146, .int .i64 p147] : List Value).toArray I0 [] (fun v J M => v = .bool r ∧ M = []) := by
  have hle := ImmLe.refl I0
  unfold impl_within at H
  refine fn_intro (fn := Try.f46) 15 Try.func46 rfl rfl rfl (fun E Fs => ?_)
  refine at_seq ?_
  refine at_reg [] [0, 1, 2] (L2 := [(0, .int .i64 p145), (1, .int .i64 p146), (2, .int .i64 p147)]) (obs := []) (by kernel_rfl) ?_ ?_
  · intro w hs; exact trivial
  refine at_thn ?_
  refine at_seq ?_
  by_cases h148 : p146 ≤ p145
  · rw [if_pos h148] at H
    refine at_reg [(3, .bool true)] [6] (L2 := [(6, .bool (decide (p145 ≤ p147)))]) (obs := [fun _ => (.bool (decide (p146 ≤ p145)) : Value) = .bool true]) (by kernel_rfl) ?_ ?_
    · intro w hs; exact congrArg Value.bool (decide_eq_true h148)
    refine at_thn ?_
    refine at_ret ?_
    obtain rfl := Option.some.inj H
    refine at_done (vs := [.bool (decide (p145 ≤ p147))]) (obs := []) (.inl rfl) [.tmp 6] [] rfl (by kernel_rfl) (fun w hs => trivial) (fun w hs => ⟨_, _, [], rfl, ⟨rfl, rfl⟩, hle, hs⟩)
  · rw [if_neg h148] at H
    refine at_reg [(3, .bool false)] [6] (L2 := [(6, .bool false)]) (obs := [fun _ => (.bool (decide (p146 ≤ p145)) : Value) = .bool false]) (by kernel_rfl) ?_ ?_
    · intro w hs; exact congrArg Value.bool (decide_eq_false h148)
    refine at_thn ?_
    refine at_ret ?_
    obtain rfl := Option.some.inj H
    refine at_done (vs := [.bool false]) (obs := []) (.inl rfl) [.tmp 6] [] rfl (by kernel_rfl) (fun w hs => trivial) (fun w hs => ⟨_, _, [], rfl, ⟨rfl, rfl⟩, hle, hs⟩)

/-! ### loop.example/g00146/impl.isPoint: function 63 -/
def impl_isPoint (p144 : Int) : Option Bool := (impl_within p144 0 1114111).bind fun b8 => (if b8 = true then ((impl_within p144 55296 57343).bind fun b9 => (some (!b9))) else (some false))
set_option maxHeartbeats 4000000 in
set_option maxRecDepth 100000 in
theorem impl_isPoint.calls {p144 : Int} {r : Bool} {I0 : Imm} (H : impl_isPoint p144 = some r) :
    Meets Try.prog 63 ([.int .i64 p144] : List Value).toArray I0 [] (fun v J M => v = .bool r ∧ M = []) := by
  have hle := ImmLe.refl I0
  unfold impl_isPoint at H
  refine fn_intro (fn := Try.f63) 10 Try.func63 rfl rfl rfl (fun E Fs => ?_)
  refine at_seq ?_
  refine at_reg [] [0] (L2 := [(0, .int .i64 p144)]) (obs := []) (by kernel_rfl) ?_ ?_
  · intro w hs; exact trivial
  refine at_thn ?_
  refine at_seq ?_
  refine at_ops [0, 1, 2, 3, 4, 5, 6, 7] rfl ?_
  refine at_seg [0] [1, 2, 3, 4, 5, 6, 7] rfl [] [0, 3] (L2 := [(0, .int .i64 p144), (3, .int .i64 p144)]) (obs := []) (by kernel_rfl) ?_ ?_
  · intro w hs; exact trivial
  refine at_eff rfl rfl ?_
  obtain ⟨b8, H145, H⟩ := bind_some H
  have hm_ := impl_within.calls (I0 := I0) H145
  refine eff_call rfl rfl ok46 rfl rfl (show Meets Try.prog 46 ([.int .i64 p144, .int .i64 0, .int .i64 1114111] : List Value).toArray _ [] _ from hm_) (Mr := (Fs)) (List.Perm.refl _) (fun v146 J147 M148 hq149 hJ150 => ?_)
  replace hle := hle.trans hJ150
  obtain ⟨rfl, rfl⟩ := hq149
  by_cases h151 : b8 = true
  · rw [if_pos h151] at H
    refine at_seg [2, 3] [4, 5, 6, 7] rfl [(2, .bool true)] [5, 6] (L2 := [(5, .bool true), (6, .int .i64 p144)]) (obs := [fun _ => (.bool b8 : Value) = .bool true]) (by kernel_rfl) ?_ ?_
    · intro w hs; exact congrArg Value.bool (h151)
    refine at_eff rfl rfl ?_
    obtain ⟨b9, H152, H⟩ := bind_some H
    have hm_ := impl_within.calls (I0 := J147) H152
    refine eff_call rfl rfl ok46 rfl rfl (show Meets Try.prog 46 ([.int .i64 p144, .int .i64 55296, .int .i64 57343] : List Value).toArray _ [] _ from hm_) (Mr := (Fs)) (List.Perm.refl _) (fun v153 J154 M155 hq156 hJ157 => ?_)
    replace hle := hle.trans hJ157
    obtain ⟨rfl, rfl⟩ := hq156
    refine at_seg [5, 6, 7] [] rfl [] [2] (L2 := [(2, .bool (!b9))]) (obs := []) (by kernel_rfl) ?_ ?_
    · intro w hs; exact trivial
    refine at_end ?_
    refine at_thn ?_
    refine at_ret ?_
    obtain rfl := Option.some.inj H
    refine at_done (vs := [.bool (!b9)]) (obs := []) (.inl rfl) [.tmp 2] [] rfl (by kernel_rfl) (fun w hs => trivial) (fun w hs => ⟨_, _, [], rfl, ⟨rfl, rfl⟩, hle, hs⟩)
  · rw [if_neg h151] at H
    refine at_seg [2, 3] [4, 5, 6, 7] rfl [(2, .bool false)] [5, 6] (L2 := [(5, .bool false), (6, undef)]) (obs := [fun _ => (.bool b8 : Value) = .bool false]) (by kernel_rfl) ?_ ?_
    · intro w hs; exact congrArg Value.bool (ff_of h151)
    refine at_seg [4, 5, 6, 7] [] rfl [] [2] (L2 := [(2, .bool false)]) (obs := []) (by kernel_rfl) ?_ ?_
    · intro w hs; exact trivial
    refine at_end ?_
    refine at_thn ?_
    refine at_ret ?_
    obtain rfl := Option.some.inj H
    refine at_done (vs := [.bool false]) (obs := []) (.inl rfl) [.tmp 2] [] rfl (by kernel_rfl) (fun w hs => trivial) (fun w hs => ⟨_, _, [], rfl, ⟨rfl, rfl⟩, hle, hs⟩)

/-! ### loop.example/g00146/impl.PointsRight$1: function 62 -/
def impl_PointsRight_1 (p143 : Int) : Option Bool := (impl_isPoint p143).bind fun b8 => (some (!b8))
set_option maxHeartbeats 4000000 in
set_option maxRecDepth 100000 in
theorem impl_PointsRight_1.calls {p143 : Int} {r : Bool} {I0 : Imm} (H : impl_PointsRight_1 p143 = some r) :
    Meets Try.prog 62 ([.int .i64 p143] : List Value).toArray I0 [] (fun v J M => v = .bool r ∧ M = []) := by
  have hle := ImmLe.refl I0
  unfold impl_PointsRight_1 at H
  refine fn_intro (fn := Try.f62) 6 Try.func62 rfl rfl rfl (fun E Fs => ?_)
  refine at_seq ?_
  refine at_reg [] [0] (L2 := [(0, .int .i64 p143)]) (obs := []) (by kernel_rfl) ?_ ?_
  · intro w hs; exact trivial
  refine at_thn ?_
  refine at_seq ?_
  refine at_ops [0, 1, 2, 3] rfl ?_
  refine at_seg [0] [1, 2, 3] rfl [] [3] (L2 := [(3, .int .i64 p143)]) (obs := []) (by kernel_rfl) ?_ ?_
  · intro w hs; exact trivial
  refine at_eff rfl rfl ?_
  obtain ⟨b8, H144, H⟩ := bind_some H
  have hm_ := impl_isPoint.calls (I0 := I0) H144
  refine eff_call rfl rfl ok63 rfl rfl (show Meets Try.prog 63 ([.int .i64 p143] : List Value).toArray _ [] _ from hm_) (Mr := (Fs)) (List.Perm.refl _) (fun v145 J146 M147 hq148 hJ149 => ?_)
  replace hle := hle.trans hJ149
  obtain ⟨rfl, rfl⟩ := hq148
  refine at_seg [2, 3] [] rfl [] [2] (L2 := [(2, .bool (!b8))]) (obs := []) (by kernel_rfl) ?_ ?_
  · intro w hs; exact trivial
  refine at_end ?_
  refine at_thn ?_
  refine at_ret ?_
  obtain rfl := Option.some.inj H
  refine at_done (vs := [.bool (!b8)]) (obs := []) (.inl rfl) [.tmp 2] [] rfl (by kernel_rfl) (fun w hs => trivial) (fun w hs => ⟨_, _, [], rfl, ⟨rfl, rfl⟩, hle, hs⟩)

/-! ### slices.IndexFunc[[]int64,int64]: function 68 -/
def slices_IndexFunc_int64_int64_at_62_l0 : Nat → Int → (List Int) → Option Int
  | 0, _, _ => none
  | k + 1, x141, p137 => if x141 < (p137.length : Int) then (if 0 ≤ x141 then ((impl_PointsRight_1 (rdA 0 p137 x141)).bind fun b8 => (if b8 = true then (some x141) else (slices_IndexFunc_int64_int64_at_62_l0 k (IntKind.i64.wrap (x141 + 1)) p137))) else none) else (some (-1))
def slices_IndexFunc_int64_int64_at_62 (k : Nat) (p137 : List Int) : Option Int := slices_IndexFunc_int64_int64_at_62_l0 k 0 p137
set_option maxHeartbeats 4000000 in
set_option maxRecDepth 100000 in
theorem slices_IndexFunc_int64_int64_at_62.calls {k : Nat} {p137 : List Int} {r : Int} {I0 : Imm} {A138 : Option Addr} {c139 : Nat} (H : slices_IndexFunc_int64_int64_at_62 k p137 = some r) (hr140 : Rd (Kd.int .i64) I0 A138 c139 p137) :
    Meets Try.prog 68 ([.slice A138 p137.length c139, .func (.func 62) #[] #[]] : List Value).toArray I0 [] (fun v J M => v = .int .i64 r ∧ M = []) := by
  have hle := ImmLe.refl I0
  unfold slices_IndexFunc_int64_int64_at_62 at H
  refine fn_intro (fn := Try.f68) 19 Try.func68 rfl rfl rfl (fun E Fs => ?_)
  refine at_seq ?_
  refine at_reg [] [0, 1] (L2 := [(0, .slice A138 p137.length c139), (1, .func (.func 62) #[] #[])]) (obs := []) (by kernel_rfl) ?_ ?_
  · intro w hs; exact trivial
  refine at_thn ?_
  refine at_seq ?_
  refine at_seq ?_
  refine at_reg [] [0, 1, 7, 8] (L2 := [(0, .slice A138 p137.length c139), (1, .func (.func 62) #[] #[]), (7, .int .i64 (p137.length : Int)), (8, .int .i64 0)]) (obs := []) (by kernel_rfl) ?_ ?_
  · intro w hs; exact trivial
  refine at_thn ?_
  refine at_block ?_
  refine at_keep [0, 1, 7, 8] (L2 := [(0, .slice A138 p137.length c139), (1, .func (.func 62) #[] #[]), (7, .int .i64 (p137.length : Int)), (8, .int .i64 0)]) rfl ?_
  refine at_loop (fun k142 L I Ms => ∃ (x141 : Int), L = [(0, .slice A138 p137.length c139), (1, .func (.func 62) #[] #[]), (7, .int .i64 (p137.length : Int)), (8, .int .i64 x141)] ∧ Ms = ([] ++ Fs) ∧ slices_IndexFunc_int64_int64_at_62_l0 k142 x141 p137 = some r ∧ ImmLe I0 I ∧ k142 ≤ k ∧ Rd (Kd.int .i64) I A138 c139 p137) ?_ ?_ k ⟨0, rfl, rfl, H, hle, Nat.le_refl _, hr140⟩
  · rintro L I Ms ⟨_, rfl, rfl, H, _⟩; exact no_none H
  · clear H hle hr140
    intro k142 ih143 L I Ms h_; obtain ⟨x141, hL_, hM_, H, hle, hk144, hr140⟩ := h_; rw [hL_, hM_]; clear hL_ hM_ L Ms
    rw [slices_IndexFunc_int64_int64_at_62_l0] at H
    refine at_seq ?_
    refine at_reg [] [0, 1, 7, 8, 9] (L2 := [(0, .slice A138 p137.length c139), (1, .func (.func 62) #[] #[]), (7, .int .i64 (p137.length : Int)), (8, .int .i64 x141), (9, .bool (decide (x141 < (p137.length : Int))))]) (obs := []) (by kernel_rfl) ?_ ?_
    · intro w hs; exact trivial
    refine at_thn ?_
    refine at_seq ?_
    by_cases h145 : x141 < (p137.length : Int)
    · rw [if_pos h145] at H
      refine at_cond_t rfl (decide_eq_true h145) ?_
      refine at_skip ?_
      refine at_thn ?_
      refine at_seq ?_
      refine at_block ?_
      refine at_seq ?_
      refine at_reg [] [0, 1, 5, 7, 8] (L2 := [(0, .slice A138 p137.length c139), (1, .func (.func 62) #[] #[]), (5, .int .i64 x141), (7, .int .i64 (p137.length : Int)), (8, .int .i64 x141)]) (obs := []) (by kernel_rfl) ?_ ?_
      · intro w hs; exact trivial
      refine at_thn ?_
      refine at_seq ?_
      refine at_ops [0, 1, 2, 3, 4, 5] rfl ?_
      obtain ⟨h146, H⟩ := ite_some H
      refine at_seg [0, 1, 2, 3, 4] [5] rfl [(4, .int .i64 (rdA 0 p137 x141))] [0, 1, 5, 7, 8, 11, 15] (L2 := [(0, .slice A138 p137.length c139), (1, .func (.func 62) #[] #[]), (5, .int .i64 x141), (7, .int .i64 (p137.length : Int)), (8, .int .i64 x141), (11, .func (.func 62) #[] #[]), (15, .int .i64 (rdA 0 p137 x141))]) (obs := [fun _ => A138.isSome = true ∧ 0 ≤ x141 ∧ x141 < ((p137.length : Nat) : Int), fun w => w.cell? ((A138.getD ad0).add (x141.toNat * 1)) = some (.int .i64 (rdA 0 p137 x141))]) (by kernel_rfl) ?_ ?_
      · intro w hs; exact ⟨⟨hr140.ne x141 h146 h145, h146, h145⟩, hr140.one 0 x141 h146 h145 hs⟩
      refine at_eff rfl rfl ?_
      obtain ⟨b8, H147, H⟩ := bind_some H
      have hm_ := impl_PointsRight_1.calls (I0 := I) H147
      refine eff_callv (first := []) (captured := []) rfl rfl rfl ok62 rfl rfl (hm_) (Mr := (Fs)) (List.Perm.refl _) (fun v148 J149 M150 hq151 hJ152 => ?_)
      replace hle := hle.trans hJ152
      replace hr140 := hr140.mono hJ152
      obtain ⟨rfl, rfl⟩ := hq151
      refine at_end ?_
      refine at_thn ?_
      by_cases h153 : b8 = true
      · rw [if_pos h153] at H
        refine at_cond_t rfl (h153) ?_
        refine at_seq ?_
        refine at_reg [] [4] (L2 := [(4, .int .i64 x141)]) (obs := []) (by kernel_rfl) ?_ ?_
        · intro w hs; exact trivial
        refine at_thn ?_
        refine at_ret ?_
        refine at_in_ret ?_
        refine at_then_ret ?_
        refine at_then_ret ?_
        refine at_in_ret ?_
        refine at_then_ret ?_
        obtain rfl := Option.some.inj H
        refine at_done (vs := [.int .i64 x141]) (obs := []) (.inl rfl) [.tmp 4] [] rfl (by kernel_rfl) (fun w hs => trivial) (fun w hs => ⟨_, _, [], rfl, ⟨rfl, rfl⟩, hle, hs⟩)
      · rw [if_neg h153] at H
        refine at_cond_f rfl (ff_of h153) ?_
        refine at_skip ?_
        refine at_in_norm ?_
        refine at_thn ?_
        refine at_reg [] [0, 1, 7, 8] (L2 := [(0, .slice A138 p137.length c139), (1, .func (.func 62) #[] #[]), (7, .int .i64 (p137.length : Int)), (8, .int .i64 (IntKind.i64.wrap (x141 + 1)))]) (obs := []) (by kernel_rfl) ?_ ?_
        · intro w hs; exact trivial
        refine at_thn ?_
        refine at_keep [0, 1, 7, 8] (L2 := [(0, .slice A138 p137.length c139), (1, .func (.func 62) #[] #[]), (7, .int .i64 (p137.length : Int)), (8, .int .i64 (IntKind.i64.wrap (x141 + 1)))]) rfl ?_
        exact ih143 _ (by omega) _ _ _ ⟨IntKind.i64.wrap (x141 + 1), rfl, rfl, H, hle, by omega, hr140⟩
    · rw [if_neg h145] at H
      refine at_cond_f rfl (decide_eq_false h145) ?_
      refine at_exit ?_
      refine at_then_exit ?_
      refine at_then_exit ?_
      refine at_in_hit ?_
      refine at_thn ?_
      refine at_seq ?_
      refine at_reg [] [4] (L2 := [(4, .int .i64 (-1))]) (obs := []) (by kernel_rfl) ?_ ?_
      · intro w hs; exact trivial
      refine at_thn ?_
      refine at_ret ?_
      obtain rfl := Option.some.inj H
      refine at_done (vs := [.int .i64 (-1)]) (obs := []) (.inl rfl) [.tmp 4] [] rfl (by kernel_rfl) (fun w hs => trivial) (fun w hs => ⟨_, _, [], rfl, ⟨rfl, rfl⟩, hle, hs⟩)

/-! ### slices.ContainsFunc[[]int64,int64]: function 61 -/
def slices_ContainsFunc_int64_int64_at_62 (k : Nat) (p133 : List Int) : Option Bool := (slices_IndexFunc_int64_int64_at_62 k p133).bind fun b8 => (some (decide (b8 ≥ 0)))
set_option maxHeartbeats 4000000 in
set_option maxRecDepth 100000 in
theorem slices_ContainsFunc_int64_int64_at_62.calls {k : Nat} {p133 : List Int} {r : Bool} {I0 : Imm} {A134 : Option Addr} {c135 : Nat} (H : slices_ContainsFunc_int64_int64_at_62 k p133 = some r) (hr136 : Rd (Kd.int .i64) I0 A134 c135 p133) :
    Meets Try.prog 61 ([.slice A134 p133.length c135, .func (.func 62) #[] #[]] : List Value).toArray I0 [] (fun v J M => v = .bool r ∧ M = []) := by
  have hle := ImmLe.refl I0
  unfold slices_ContainsFunc_int64_int64_at_62 at H
  refine fn_intro (fn := Try.f61) 9 Try.func61 rfl rfl rfl (fun E Fs => ?_)
  refine at_seq ?_
  refine at_reg [] [0, 1] (L2 := [(0, .slice A134 p133.length c135), (1, .func (.func 62) #[] #[])]) (obs := []) (by kernel_rfl) ?_ ?_
  · intro w hs; exact trivial
  refine at_thn ?_
  refine at_seq ?_
  refine at_ops [0, 1, 2, 3, 4] rfl ?_
  refine at_seg [0, 1] [2, 3, 4] rfl [] [5, 6] (L2 := [(5, .slice A134 p133.length c135), (6, .func (.func 62) #[] #[])]) (obs := []) (by kernel_rfl) ?_ ?_
  · intro w hs; exact trivial
  refine at_eff rfl rfl ?_
  obtain ⟨b8, H137, H⟩ := bind_some H
  have hm_ := slices_IndexFunc_int64_int64_at_62.calls (I0 := I0) H137 hr136
  refine eff_call rfl rfl ok68 rfl rfl (show Meets Try.prog 68 ([.slice A134 p133.length c135, .func (.func 62) #[] #[]] : List Value).toArray _ [] _ from hm_) (Mr := (Fs)) (List.Perm.refl _) (fun v138 J139 M140 hq141 hJ142 => ?_)
  replace hle := hle.trans hJ142
  replace hr136 := hr136.mono hJ142
  obtain ⟨rfl, rfl⟩ := hq141
  refine at_seg [3, 4] [] rfl [] [4] (L2 := [(4, .bool (decide (b8 ≥ 0)))]) (obs := []) (by kernel_rfl) ?_ ?_
  · intro w hs; exact trivial
  refine at_end ?_
  refine at_thn ?_
  refine at_ret ?_
  obtain rfl := Option.some.inj H
  refine at_done (vs := [.bool (decide (b8 ≥ 0))]) (obs := []) (.inl rfl) [.tmp 4] [] rfl (by kernel_rfl) (fun w hs => trivial) (fun w hs => ⟨_, _, [], rfl, ⟨rfl, rfl⟩, hle, hs⟩)

/-! ### loop.example/g00146/impl.PointsRight: function 51 -/
def impl_PointsRight (k : Nat) (p128 : List Int) : Option Bool := if (p128.length : Int) ≤ 300 then ((slices_ContainsFunc_int64_int64_at_62 k p128).bind fun b8 => (some (!b8))) else (some false)
set_option maxHeartbeats 4000000 in
set_option maxRecDepth 100000 in
theorem impl_PointsRight.calls {k : Nat} {p128 : List Int} {r : Bool} {I0 : Imm} {A129 : Option Addr} {c130 : Nat} (H : impl_PointsRight k p128 = some r) (hr131 : Rd (Kd.int .i64) I0 A129 c130 p128) :
    Meets Try.prog 51 ([.slice A129 p128.length c130] : List Value).toArray I0 [] (fun v J M => v = .bool r ∧ M = []) := by
  have hle := ImmLe.refl I0
  unfold impl_PointsRight at H
  refine fn_intro (fn := Try.f51) 11 Try.func51 rfl rfl rfl (fun E Fs => ?_)
  refine at_seq ?_
  refine at_reg [] [0] (L2 := [(0, .slice A129 p128.length c130)]) (obs := []) (by kernel_rfl) ?_ ?_
  · intro w hs; exact trivial
  refine at_thn ?_
  refine at_seq ?_
  refine at_ops [0, 1, 2, 3, 4, 5, 6, 7, 8] rfl ?_
  by_cases h132 : (p128.length : Int) ≤ 300
  · rw [if_pos h132] at H
    refine at_seg [0, 1, 2, 3, 4] [5, 6, 7, 8] rfl [(3, .bool true)] [6, 7] (L2 := [(6, .bool true), (7, .slice A129 p128.length c130)]) (obs := [fun _ => (.bool (decide ((p128.length : Int) ≤ 300)) : Value) = .bool true]) (by kernel_rfl) ?_ ?_
    · intro w hs; exact congrArg Value.bool (decide_eq_true h132)
    refine at_eff rfl rfl ?_
    obtain ⟨b8, H133, H⟩ := bind_some H
    have hm_ := slices_ContainsFunc_int64_int64_at_62.calls (I0 := I0) H133 hr131
    refine eff_call rfl rfl ok61 rfl rfl (show Meets Try.prog 61 ([.slice A129 p128.length c130, .func (.func 62) #[] #[]] : List Value).toArray _ [] _ from hm_) (Mr := (Fs)) (List.Perm.refl _) (fun v134 J135 M136 hq137 hJ138 => ?_)
    replace hle := hle.trans hJ138
    replace hr131 := hr131.mono hJ138
    obtain ⟨rfl, rfl⟩ := hq137
    refine at_seg [6, 7, 8] [] rfl [] [2] (L2 := [(2, .bool (!b8))]) (obs := []) (by kernel_rfl) ?_ ?_
    · intro w hs; exact trivial
    refine at_end ?_
    refine at_thn ?_
    refine at_ret ?_
    obtain rfl := Option.some.inj H
    refine at_done (vs := [.bool (!b8)]) (obs := []) (.inl rfl) [.tmp 2] [] rfl (by kernel_rfl) (fun w hs => trivial) (fun w hs => ⟨_, _, [], rfl, ⟨rfl, rfl⟩, hle, hs⟩)
  · rw [if_neg h132] at H
    refine at_seg [0, 1, 2, 3, 4] [5, 6, 7, 8] rfl [(3, .bool false)] [6, 7] (L2 := [(6, .bool false), (7, undef)]) (obs := [fun _ => (.bool (decide ((p128.length : Int) ≤ 300)) : Value) = .bool false]) (by kernel_rfl) ?_ ?_
    · intro w hs; exact congrArg Value.bool (decide_eq_false h132)
    refine at_seg [5, 6, 7, 8] [] rfl [] [2] (L2 := [(2, .bool false)]) (obs := []) (by kernel_rfl) ?_ ?_
    · intro w hs; exact trivial
    refine at_end ?_
    refine at_thn ?_
    refine at_ret ?_
    obtain rfl := Option.some.inj H
    refine at_done (vs := [.bool false]) (obs := []) (.inl rfl) [.tmp 2] [] rfl (by kernel_rfl) (fun w hs => trivial) (fun w hs => ⟨_, _, [], rfl, ⟨rfl, rfl⟩, hle, hs⟩)

/-! ### loop.example/g00146/impl.isItem: function 33 -/
def impl_isItem (k : Nat) (p123 : List Int) : Option Bool := if (p123.length : Int) > 0 then ((impl_PointsRight k p123).bind fun b8 => (some b8)) else (some false)
set_option maxHeartbeats 4000000 in
set_option maxRecDepth 100000 in
theorem impl_isItem.calls {k : Nat} {p123 : List Int} {r : Bool} {I0 : Imm} {A124 : Option Addr} {c125 : Nat} (H : impl_isItem k p123 = some r) (hr126 : Rd (Kd.int .i64) I0 A124 c125 p123) :
    Meets Try.prog 33 ([.slice A124 p123.length c125] : List Value).toArray I0 [] (fun v J M => v = .bool r ∧ M = []) := by
  have hle := ImmLe.refl I0
  unfold impl_isItem at H
  refine fn_intro (fn := Try.f33) 10 Try.func33 rfl rfl rfl (fun E Fs => ?_)
  refine at_seq ?_
  refine at_reg [] [0] (L2 := [(0, .slice A124 p123.length c125)]) (obs := []) (by kernel_rfl) ?_ ?_
  · intro w hs; exact trivial
  refine at_thn ?_
  refine at_seq ?_
  refine at_ops [0, 1, 2, 3, 4, 5, 6, 7] rfl ?_
  by_cases h127 : (p123.length : Int) > 0
  · rw [if_pos h127] at H
    refine at_seg [0, 1, 2, 3, 4] [5, 6, 7] rfl [(3, .bool true)] [6, 7] (L2 := [(6, .bool true), (7, .slice A124 p123.length c125)]) (obs := [fun _ => (.bool (decide ((p123.length : Int) > 0)) : Value) = .bool true]) (by kernel_rfl) ?_ ?_
    · intro w hs; exact congrArg Value.bool (decide_eq_true h127)
    refine at_eff rfl rfl ?_
    obtain ⟨b8, H128, H⟩ := bind_some H
    have hm_ := impl_PointsRight.calls (I0 := I0) H128 hr126
    refine eff_call rfl rfl ok51 rfl rfl (show Meets Try.prog 51 ([.slice A124 p123.length c125] : List Value).toArray _ [] _ from hm_) (Mr := (Fs)) (List.Perm.refl _) (fun v129 J130 M131 hq132 hJ133 => ?_)
    replace hle := hle.trans hJ133
    replace hr126 := hr126.mono hJ133
    obtain ⟨rfl, rfl⟩ := hq132
    refine at_seg [6, 7] [] rfl [] [2] (L2 := [(2, .bool b8)]) (obs := []) (by kernel_rfl) ?_ ?_
    · intro w hs; exact trivial
    refine at_end ?_
    refine at_thn ?_
    refine at_ret ?_
    obtain rfl := Option.some.inj H
    refine at_done (vs := [.bool b8]) (obs := []) (.inl rfl) [.tmp 2] [] rfl (by kernel_rfl) (fun w hs => trivial) (fun w hs => ⟨_, _, [], rfl, ⟨rfl, rfl⟩, hle, hs⟩)
  · rw [if_neg h127] at H
    refine at_seg [0, 1, 2, 3, 4] [5, 6, 7] rfl [(3, .bool false)] [6, 7] (L2 := [(6, .bool false), (7, undef)]) (obs := [fun _ => (.bool (decide ((p123.length : Int) > 0)) : Value) = .bool false]) (by kernel_rfl) ?_ ?_
    · intro w hs; exact congrArg Value.bool (decide_eq_false h127)
    refine at_seg [5, 6, 7] [] rfl [] [2] (L2 := [(2, .bool false)]) (obs := []) (by kernel_rfl) ?_ ?_
    · intro w hs; exact trivial
    refine at_end ?_
    refine at_thn ?_
    refine at_ret ?_
    obtain rfl := Option.some.inj H
    refine at_done (vs := [.bool false]) (obs := []) (.inl rfl) [.tmp 2] [] rfl (by kernel_rfl) (fun w hs => trivial) (fun w hs => ⟨_, _, [], rfl, ⟨rfl, rfl⟩, hle, hs⟩)

/-! ### loop.example/g00146/impl.areItems$1: function 59 -/
def impl_areItems_1 (k : Nat) (p119 : List Int) : Option Bool := (impl_isItem k p119).bind fun b8 => (some (!b8))
set_option maxHeartbeats 4000000 in
set_option maxRecDepth 100000 in
theorem impl_areItems_1.calls {k : Nat} {p119 : List Int} {r : Bool} {I0 : Imm} {A120 : Option Addr} {c121 : Nat} (H : impl_areItems_1 k p119 = some r) (hr122 : Rd (Kd.int .i64) I0 A120 c121 p119) :
    Meets Try.prog 59 ([.slice A120 p119.length c121] : List Value).toArray I0 [] (fun v J M => v = .bool r ∧ M = []) := by
  have hle := ImmLe.refl I0
  unfold impl_areItems_1 at H
  refine fn_intro (fn := Try.f59) 6 Try.func59 rfl rfl rfl (fun E Fs => ?_)
  refine at_seq ?_
  refine at_reg [] [0] (L2 := [(0, .slice A120 p119.length c121)]) (obs := []) (by kernel_rfl) ?_ ?_
  · intro w hs; exact trivial
  refine at_thn ?_
  refine at_seq ?_
  refine at_ops [0, 1, 2, 3] rfl ?_
  refine at_seg [0] [1, 2, 3] rfl [] [3] (L2 := [(3, .slice A120 p119.length c121)]) (obs := []) (by kernel_rfl) ?_ ?_
  · intro w hs; exact trivial
  refine at_eff rfl rfl ?_
  obtain ⟨b8, H123, H⟩ := bind_some H
  have hm_ := impl_isItem.calls (I0 := I0) H123 hr122
  refine eff_call rfl rfl ok33 rfl rfl (show Meets Try.prog 33 ([.slice A120 p119.length c121] : List Value).toArray _ [] _ from hm_) (Mr := (Fs)) (List.Perm.refl _) (fun v124 J125 M126 hq127 hJ128 => ?_)
  replace hle := hle.trans hJ128
  replace hr122 := hr122.mono hJ128
  obtain ⟨rfl, rfl⟩ := hq127
  refine at_seg [2, 3] [] rfl [] [2] (L2 := [(2, .bool (!b8))]) (obs := []) (by kernel_rfl) ?_ ?_
  · intro w hs; exact trivial
  refine at_end ?_
  refine at_thn ?_
  refine at_ret ?_
  obtain rfl := Option.some.inj H
  refine at_done (vs := [.bool (!b8)]) (obs := []) (.inl rfl) [.tmp 2] [] rfl (by kernel_rfl) (fun w hs => trivial) (fun w hs => ⟨_, _, [], rfl, ⟨rfl, rfl⟩, hle, hs⟩)

/-! ### slices.IndexFunc[[][]int64,[]int64]: function 67 -/
def slices_IndexFunc_int64_int64_at_59_l0 : Nat → Int → (List (List Int)) → Option Int
  | 0, _, _ => none
  | k + 1, x111, p107 => if x111 < (p107.length : Int) then (if 0 ≤ x111 then ((impl_areItems_1 k (rdA [] p107 x111)).bind fun b8 => (if b8 = true then (some x111) else (slices_IndexFunc_int64_int64_at_59_l0 k (IntKind.i64.wrap (x111 + 1)) p107))) else none) else (some (-1))
def slices_IndexFunc_int64_int64_at_59 (k : Nat) (p107 : List (List Int)) : Option Int := slices_IndexFunc_int64_int64_at_59_l0 k 0 p107
set_option maxHeartbeats 4000000 in
set_option maxRecDepth 100000 in
theorem slices_IndexFunc_int64_int64_at_59.calls {k : Nat} {p107 : List (List Int)} {r : Int} {I0 : Imm} {A108 : Option Addr} {c109 : Nat} (H : slices_IndexFunc_int64_int64_at_59 k p107 = some r) (hr110 : Rd (Kd.slice (Kd.int .i64)) I0 A108 c109 p107) :
    Meets Try.prog 67 ([.slice A108 p107.length c109, .func (.func 59) #[] #[]] : List Value).toArray I0 [] (fun v J M => v = .int .i64 r ∧ M = []) := by
  have hle := ImmLe.refl I0
  unfold slices_IndexFunc_int64_int64_at_59 at H
  refine fn_intro (fn := Try.f67) 19 Try.func67 rfl rfl rfl (fun E Fs => ?_)
  refine at_seq ?_
  refine at_reg [] [0, 1] (L2 := [(0, .slice A108 p107.length c109), (1, .func (.func 59) #[] #[])]) (obs := []) (by kernel_rfl) ?_ ?_
  · intro w hs; exact trivial
  refine at_thn ?_
  refine at_seq ?_
  refine at_seq ?_
  refine at_reg [] [0, 1, 7, 8] (L2 := [(0, .slice A108 p107.length c109), (1, .func (.func 59) #[] #[]), (7, .int .i64 (p107.length : Int)), (8, .int .i64 0)]) (obs := []) (by kernel_rfl) ?_ ?_
  · intro w hs; exact trivial
  refine at_thn ?_
  refine at_block ?_
  refine at_keep [0, 1, 7, 8] (L2 := [(0, .slice A108 p107.length c109), (1, .func (.func 59) #[] #[]), (7, .int .i64 (p107.length : Int)), (8, .int .i64 0)]) rfl ?_
  refine at_loop (fun k112 L I Ms => ∃ (x111 : Int), L = [(0, .slice A108 p107.length c109), (1, .func (.func 59) #[] #[]), (7, .int .i64 (p107.length : Int)), (8, .int .i64 x111)] ∧ Ms = ([] ++ Fs) ∧ slices_IndexFunc_int64_int64_at_59_l0 k112 x111 p107 = some r ∧ ImmLe I0 I ∧ k112 ≤ k ∧ Rd (Kd.slice (Kd.int .i64)) I A108 c109 p107) ?_ ?_ k ⟨0, rfl, rfl, H, hle, Nat.le_refl _, hr110⟩
  · rintro L I Ms ⟨_, rfl, rfl, H, _⟩; exact no_none H
  · clear H hle hr110
    intro k112 ih113 L I Ms h_; obtain ⟨x111, hL_, hM_, H, hle, hk114, hr110⟩ := h_; rw [hL_, hM_]; clear hL_ hM_ L Ms
    rw [slices_IndexFunc_int64_int64_at_59_l0] at H
    refine at_seq ?_
    refine at_reg [] [0, 1, 7, 8, 9] (L2 := [(0, .slice A108 p107.length c109), (1, .func (.func 59) #[] #[]), (7, .int .i64 (p107.length : Int)), (8, .int .i64 x111), (9, .bool (decide (x111 < (p107.length : Int))))]) (obs := []) (by kernel_rfl) ?_ ?_
    · intro w hs; exact trivial
    refine at_thn ?_
    refine at_seq ?_
    by_cases h115 : x111 < (p107.length : Int)
    · rw [if_pos h115] at H
      refine at_cond_t rfl (decide_eq_true h115) ?_
      refine at_skip ?_
      refine at_thn ?_
      refine at_seq ?_
      refine at_block ?_
      refine at_seq ?_
      refine at_reg [] [0, 1, 5, 7, 8] (L2 := [(0, .slice A108 p107.length c109), (1, .func (.func 59) #[] #[]), (5, .int .i64 x111), (7, .int .i64 (p107.length : Int)), (8, .int .i64 x111)]) (obs := []) (by kernel_rfl) ?_ ?_
      · intro w hs; exact trivial
      refine at_thn ?_
      refine at_seq ?_
      refine at_ops [0, 1, 2, 3, 4, 5] rfl ?_
      obtain ⟨h116, H⟩ := ite_some H
      obtain ⟨cs121, hz122, hc117⟩ := hr110.elem [] x111 h116 h115
      obtain ⟨A118, c119, rfl, hr120⟩ := hz122
      refine at_seg [0, 1, 2, 3, 4] [5] rfl [(4, .slice A118 (rdA [] p107 x111).length c119)] [0, 1, 5, 7, 8, 11, 15] (L2 := [(0, .slice A108 p107.length c109), (1, .func (.func 59) #[] #[]), (5, .int .i64 x111), (7, .int .i64 (p107.length : Int)), (8, .int .i64 x111), (11, .func (.func 59) #[] #[]), (15, .slice A118 (rdA [] p107 x111).length c119)]) (obs := [fun _ => A108.isSome = true ∧ 0 ≤ x111 ∧ x111 < ((p107.length : Nat) : Int), fun w => w.cell? ((A108.getD ad0).add (x111.toNat * 1)) = some (.slice A118 (rdA [] p107 x111).length c119)]) (by kernel_rfl) ?_ ?_
      · intro w hs; exact ⟨⟨hr110.ne x111 h116 h115, h116, h115⟩, cell0 (hc117 0 _ rfl hs)⟩
      refine at_eff rfl rfl ?_
      obtain ⟨b8, H123, H⟩ := bind_some H
      have hm_ := impl_areItems_1.calls (I0 := I) H123 hr120
      refine eff_callv (first := []) (captured := []) rfl rfl rfl ok59 rfl rfl (hm_) (Mr := (Fs)) (List.Perm.refl _) (fun v124 J125 M126 hq127 hJ128 => ?_)
      replace hle := hle.trans hJ128
      replace hr110 := hr110.mono hJ128
      replace hr120 := hr120.mono hJ128
      obtain ⟨rfl, rfl⟩ := hq127
      refine at_end ?_
      refine at_thn ?_
      by_cases h129 : b8 = true
      · rw [if_pos h129] at H
        refine at_cond_t rfl (h129) ?_
        refine at_seq ?_
        refine at_reg [] [4] (L2 := [(4, .int .i64 x111)]) (obs := []) (by kernel_rfl) ?_ ?_
        · intro w hs; exact trivial
        refine at_thn ?_
        refine at_ret ?_
        refine at_in_ret ?_
        refine at_then_ret ?_
        refine at_then_ret ?_
        refine at_in_ret ?_
        refine at_then_ret ?_
        obtain rfl := Option.some.inj H
        refine at_done (vs := [.int .i64 x111]) (obs := []) (.inl rfl) [.tmp 4] [] rfl (by kernel_rfl) (fun w hs => trivial) (fun w hs => ⟨_, _, [], rfl, ⟨rfl, rfl⟩, hle, hs⟩)
      · rw [if_neg h129] at H
        refine at_cond_f rfl (ff_of h129) ?_
        refine at_skip ?_
        refine at_in_norm ?_
        refine at_thn ?_
        refine at_reg [] [0, 1, 7, 8] (L2 := [(0, .slice A108 p107.length c109), (1, .func (.func 59) #[] #[]), (7, .int .i64 (p107.length : Int)), (8, .int .i64 (IntKind.i64.wrap (x111 + 1)))]) (obs := []) (by kernel_rfl) ?_ ?_
        · intro w hs; exact trivial
        refine at_thn ?_
        refine at_keep [0, 1, 7, 8] (L2 := [(0, .slice A108 p107.length c109), (1, .func (.func 59) #[] #[]), (7, .int .i64 (p107.length : Int)), (8, .int .i64 (IntKind.i64.wrap (x111 + 1)))]) rfl ?_
        exact ih113 _ (by omega) _ _ _ ⟨IntKind.i64.wrap (x111 + 1), rfl, rfl, H, hle, by omega, hr110⟩
    · rw [if_neg h115] at H
      refine at_cond_f rfl (decide_eq_false h115) ?_
      refine at_exit ?_
      refine at_then_exit ?_
      refine at_then_exit ?_
      refine at_in_hit ?_
      refine at_thn ?_
      refine at_seq ?_
      refine at_reg [] [4] (L2 := [(4, .int .i64 (-1))]) (obs := []) (by kernel_rfl) ?_ ?_
      · intro w hs; exact trivial
      refine at_thn ?_
      refine at_ret ?_
      obtain rfl := Option.some.inj H
      refine at_done (vs := [.int .i64 (-1)]) (obs := []) (.inl rfl) [.tmp 4] [] rfl (by kernel_rfl) (fun w hs => trivial) (fun w hs => ⟨_, _, [], rfl, ⟨rfl, rfl⟩, hle, hs⟩)

/-! ### slices.ContainsFunc[[][]int64,[]int64]: function 58 -/
def slices_ContainsFunc_int64_int64_at_59 (k : Nat) (p103 : List (List Int)) : Option Bool := (slices_IndexFunc_int64_int64_at_59 k p103).bind fun b8 => (some (decide (b8 ≥ 0)))
set_option maxHeartbeats 4000000 in
set_option maxRecDepth 100000 in
theorem slices_ContainsFunc_int64_int64_at_59.calls {k : Nat} {p103 : List (List Int)} {r : Bool} {I0 : Imm} {A104 : Option Addr} {c105 : Nat} (H : slices_ContainsFunc_int64_int64_at_59 k p103 = some r) (hr106 : Rd (Kd.slice (Kd.int .i64)) I0 A104 c105 p103) :
    Meets Try.prog 58 ([.slice A104 p103.length c105, .func (.func 59) #[] #[]] : List Value).toArray I0 [] (fun v J M => v = .bool r ∧ M = []) := by
  have hle := ImmLe.refl I0
  unfold slices_ContainsFunc_int64_int64_at_59 at H
  refine fn_intro (fn := Try.f58) 9 Try.func58 rfl rfl rfl (fun E Fs => ?_)
  refine at_seq ?_
  refine at_reg [] [0, 1] (L2 := [(0, .slice A104 p103.length c105), (1, .func (.func 59) #[] #[])]) (obs := []) (by kernel_rfl) ?_ ?_
  · intro w hs; exact trivial
  refine at_thn ?_
  refine at_seq ?_
  refine at_ops [0, 1, 2, 3, 4] rfl ?_
  refine at_seg [0, 1] [2, 3, 4] rfl [] [5, 6] (L2 := [(5, .slice A104 p103.length c105), (6, .func (.func 59) #[] #[])]) (obs := []) (by kernel_rfl) ?_ ?_
  · intro w hs; exact trivial
  refine at_eff rfl rfl ?_
  obtain ⟨b8, H107, H⟩ := bind_some H
  have hm_ := slices_IndexFunc_int64_int64_at_59.calls (I0 := I0) H107 hr106
  refine eff_call rfl rfl ok67 rfl rfl (show Meets Try.prog 67 ([.slice A104 p103.length c105, .func (.func 59) #[] #[]] : List Value).toArray _ [] _ from hm_) (Mr := (Fs)) (List.Perm.refl _) (fun v108 J109 M110 hq111 hJ112 => ?_)
  replace hle := hle.trans hJ112
  replace hr106 := hr106.mono hJ112
  obtain ⟨rfl, rfl⟩ := hq111
  refine at_seg [3, 4] [] rfl [] [4] (L2 := [(4, .bool (decide (b8 ≥ 0)))]) (obs := []) (by kernel_rfl) ?_ ?_
  · intro w hs; exact trivial
  refine at_end ?_
  refine at_thn ?_
  refine at_ret ?_
  obtain rfl := Option.some.inj H
  refine at_done (vs := [.bool (decide (b8 ≥ 0))]) (obs := []) (.inl rfl) [.tmp 4] [] rfl (by kernel_rfl) (fun w hs => trivial) (fun w hs => ⟨_, _, [], rfl, ⟨rfl, rfl⟩, hle, hs⟩)

/-! ### loop.example/g00146/impl.areItems: function 45 -/
def impl_areItems (k : Nat) (p99 : List (List Int)) : Option Bool := (slices_ContainsFunc_int64_int64_at_59 k p99).bind fun b8 => (some (!b8))
set_option maxHeartbeats 4000000 in
set_option maxRecDepth 100000 in
theorem impl_areItems.calls {k : Nat} {p99 : List (List Int)} {r : Bool} {I0 : Imm} {A100 : Option Addr} {c101 : Nat} (H : impl_areItems k p99 = some r) (hr102 : Rd (Kd.slice (Kd.int .i64)) I0 A100 c101 p99) :
    Meets Try.prog 45 ([.slice A100 p99.length c101] : List Value).toArray I0 [] (fun v J M => v = .bool r ∧ M = []) := by
  have hle := ImmLe.refl I0
  unfold impl_areItems at H
  refine fn_intro (fn := Try.f45) 6 Try.func45 rfl rfl rfl (fun E Fs => ?_)
  refine at_seq ?_
  refine at_reg [] [0] (L2 := [(0, .slice A100 p99.length c101)]) (obs := []) (by kernel_rfl) ?_ ?_
  · intro w hs; exact trivial
  refine at_thn ?_
  refine at_seq ?_
  refine at_ops [0, 1, 2, 3] rfl ?_
  refine at_seg [0] [1, 2, 3] rfl [] [3] (L2 := [(3, .slice A100 p99.length c101)]) (obs := []) (by kernel_rfl) ?_ ?_
  · intro w hs; exact trivial
  refine at_eff rfl rfl ?_
  obtain ⟨b8, H103, H⟩ := bind_some H
  have hm_ := slices_ContainsFunc_int64_int64_at_59.calls (I0 := I0) H103 hr102
  refine eff_call rfl rfl ok58 rfl rfl (show Meets Try.prog 58 ([.slice A100 p99.length c101, .func (.func 59) #[] #[]] : List Value).toArray _ [] _ from hm_) (Mr := (Fs)) (List.Perm.refl _) (fun v104 J105 M106 hq107 hJ108 => ?_)
  replace hle := hle.trans hJ108
  replace hr102 := hr102.mono hJ108
  obtain ⟨rfl, rfl⟩ := hq107
  refine at_seg [2, 3] [] rfl [] [2] (L2 := [(2, .bool (!b8))]) (obs := []) (by kernel_rfl) ?_ ?_
  · intro w hs; exact trivial
  refine at_end ?_
  refine at_thn ?_
  refine at_ret ?_
  obtain rfl := Option.some.inj H
  refine at_done (vs := [.bool (!b8)]) (obs := []) (.inl rfl) [.tmp 2] [] rfl (by kernel_rfl) (fun w hs => trivial) (fun w hs => ⟨_, _, [], rfl, ⟨rfl, rfl⟩, hle, hs⟩)

/-! ### loop.example/g00146/impl.size[[]int64]: function 47 -/
def impl_size_int64 (p106 : List (List Int)) : Option Int := some (p106.length : Int)
set_option maxHeartbeats 4000000 in
set_option maxRecDepth 100000 in
theorem impl_size_int64.calls {p106 : List (List Int)} {r : Int} {I0 : Imm} {A107 : Option Addr} {c108 : Nat} (H : impl_size_int64 p106 = some r) (hr109 : Rd (Kd.slice (Kd.int .i64)) I0 A107 c108 p106) :
    Meets Try.prog 47 ([.slice A107 p106.length c108] : List Value).toArray I0 [] (fun v J M => v = .int .i64 r ∧ M = []) := by
  have hle := ImmLe.refl I0
  unfold impl_size_int64 at H
  refine fn_intro (fn := Try.f47) 5 Try.func47 rfl rfl rfl (fun E Fs => ?_)
  refine at_seq ?_
  refine at_reg [] [0] (L2 := [(0, .slice A107 p106.length c108)]) (obs := []) (by kernel_rfl) ?_ ?_
  · intro w hs; exact trivial
  refine at_thn ?_
  refine at_seq ?_
  refine at_reg [] [2] (L2 := [(2, .int .i64 (p106.length : Int))]) (obs := []) (by kernel_rfl) ?_ ?_
  · intro w hs; exact trivial
  refine at_thn ?_
  refine at_ret ?_
  obtain rfl := Option.some.inj H
  refine at_done (vs := [.int .i64 (p106.length : Int)]) (obs := []) (.inl rfl) [.tmp 2] [] rfl (by kernel_rfl) (fun w hs => trivial) (fun w hs => ⟨_, _, [], rfl, ⟨rfl, rfl⟩, hle, hs⟩)

/-! ### loop.example/g00146/impl.RingRight: function 21 -/
def impl_RingRight (k : Nat) (p93 : T_impl_Ring) : Option Bool := if (p93.Items.length : Int) ≤ 10 then ((impl_areItems k p93.Items).bind fun b8 => (if b8 = true then ((impl_size_int64 p93.Items).bind fun b9 => ((impl_within p93.At 0 (mx (IntKind.i64.wrap (b9 - 1)) 0)).bind fun b10 => (some b10))) else (some false))) else (some false)
set_option maxHeartbeats 4000000 in
set_option maxRecDepth 100000 in
theorem impl_RingRight.calls {k : Nat} {p93 : T_impl_Ring} {r : Bool} {I0 : Imm} {A94 : Option Addr} {c95 : Nat} (H : impl_RingRight k p93 = some r) (hr96 : Rd (Kd.slice (Kd.int .i64)) I0 A94 c95 p93.Items) :
    Meets Try.prog 21 ([.agg #[.slice A94 p93.Items.length c95, .int .i64 p93.At]] : List Value).toArray I0 [] (fun v J M => v = .bool r ∧ M = []) := by
  have hle := ImmLe.refl I0
  unfold impl_RingRight at H
  refine fn_intro (fn := Try.f21) 22 Try.func21 rfl rfl rfl (fun E Fs => ?_)
  refine at_seq ?_
  refine at_ops [0, 1] rfl ?_
  refine at_eff rfl rfl ?_
  refine eff_box rfl rfl rfl #[.slice A94 p93.Items.length c95, .int .i64 p93.At] rfl (fun g97 => ?_)
  refine at_seg [1] [] rfl [] [1] (L2 := [(1, .pointer (some ⟨g97, 0, none⟩))]) (obs := []) (by kernel_rfl) ?_ ?_
  · intro w hs; exact trivial
  refine at_end ?_
  refine at_thn ?_
  refine at_seq ?_
  by_cases h98 : (p93.Items.length : Int) ≤ 10
  · rw [if_pos h98] at H
    refine at_x hmo (fun w => w.cell? ⟨g97, 0, none⟩ = some (.slice A94 p93.Items.length c95) ∧ w.cell? ⟨g97, 0, none⟩ = some (.slice A94 p93.Items.length c95)) [] ?_
    refine at_xseg [0, 1, 2, 3, 4, 5, 6] 13 (#[true, true, true, true, true, true, true, false, false, false, false, false, false, false, false, false, false, false, false, false]) rfl (by kernel_rfl) [(1, .slice A94 p93.Items.length c95), (4, .bool true), (6, .slice A94 p93.Items.length c95)] [1, 7, 9] (L2 := [(1, .pointer (some ⟨g97, 0, none⟩)), (7, .bool true), (9, .slice A94 p93.Items.length c95)]) (obs := [fun w => w.cell? ⟨g97, 0, none⟩ = some (.slice A94 p93.Items.length c95), fun _ => (.bool (decide ((p93.Items.length : Int) ≤ 10)) : Value) = .bool true, fun w => w.cell? ⟨g97, 0, none⟩ = some (.slice A94 p93.Items.length c95)]) (by kernel_rfl) (by kernel_rfl) (by kernel_rfl) (.inr fun w hs => ⟨hs.var (k := 0) rfl 0 rfl, hs.var (k := 0) rfl 0 rfl⟩) (fun w hS => ⟨hS.1, congrArg Value.bool (decide_eq_true h98), hS.2⟩) (fun w hs => ⟨hs.var (k := 0) rfl 0 rfl, congrArg Value.bool (decide_eq_true h98), hs.var (k := 0) rfl 0 rfl⟩) ?_
    refine at_x1 12 7 (#[true, true, true, true, true, true, true, true, false, false, false, false, false, false, false, false, false, false, false, false]) rfl (by kernel_rfl) (by kernel_rfl) rfl rfl ?_
    obtain ⟨b8, H99, H⟩ := bind_some H
    have hm_ := impl_areItems.calls (I0 := I0) H99 hr96
    refine eff_call rfl rfl ok45 rfl rfl (show Meets Try.prog 45 ([.slice A94 p93.Items.length c95] : List Value).toArray _ [] _ from hm_) (Mr := ([(g97, .cells #[.slice A94 p93.Items.length c95, .int .i64 p93.At] 27 (0, 0))] :: Fs)) (List.Perm.refl _) (fun v100 J101 M102 hq103 hJ104 => ?_)
    replace hle := hle.trans hJ104
    replace hr96 := hr96.mono hJ104
    obtain ⟨rfl, rfl⟩ := hq103
    refine at_xS (fun w hs => ⟨hs.var (k := 0) rfl 0 rfl, hs.var (k := 0) rfl 0 rfl⟩) ?_
    by_cases h105 : b8 = true
    · rw [if_pos h105] at H
      refine at_xweak (S' := fun w => w.cell? ⟨g97, 0, none⟩ = some (.slice A94 p93.Items.length c95) ∧ w.cell? ⟨g97, 0, none⟩ = some (.slice A94 p93.Items.length c95) ∧ w.cell? ⟨g97, 1, none⟩ = some (.int .i64 p93.At) ∧ w.cell? ⟨g97, 0, none⟩ = some (.slice A94 p93.Items.length c95)) (fun w h_ => ⟨h_.1, h_.2.1⟩) ?_
      refine at_xseg [8, 9, 10, 11, 12, 13] 6 (#[true, true, true, true, true, true, true, true, true, true, true, true, true, true, false, false, false, false, false, false]) rfl (by kernel_rfl) [(9, .bool true), (11, .int .i64 p93.At), (13, .slice A94 p93.Items.length c95)] [12, 14, 16] (L2 := [(12, .bool true), (14, .int .i64 p93.At), (16, .slice A94 p93.Items.length c95)]) (obs := [fun _ => (.bool b8 : Value) = .bool true, fun w => w.cell? ⟨g97, 1, none⟩ = some (.int .i64 p93.At), fun w => w.cell? ⟨g97, 0, none⟩ = some (.slice A94 p93.Items.length c95)]) (by kernel_rfl) (by kernel_rfl) (by kernel_rfl) (.inr fun w hs => ⟨hs.var (k := 0) rfl 0 rfl, hs.var (k := 0) rfl 0 rfl, hs.var (k := 0) rfl 1 rfl, hs.var (k := 0) rfl 0 rfl⟩) (fun w hS => ⟨congrArg Value.bool (h105), hS.2.2.1, hS.2.2.2⟩) (fun w hs => ⟨congrArg Value.bool (h105), hs.var (k := 0) rfl 1 rfl, hs.var (k := 0) rfl 0 rfl⟩) ?_
      refine at_x1 5 14 (#[true, true, true, true, true, true, true, true, true, true, true, true, true, true, true, false, false, false, false, false]) rfl (by kernel_rfl) (by kernel_rfl) rfl rfl ?_
      obtain ⟨b9, H106, H⟩ := bind_some H
      have hm_ := impl_size_int64.calls (I0 := J101) H106 hr96
      refine eff_call rfl rfl ok47 rfl rfl (show Meets Try.prog 47 ([.slice A94 p93.Items.length c95] : List Value).toArray _ [] _ from hm_) (Mr := ([(g97, .cells #[.slice A94 p93.Items.length c95, .int .i64 p93.At] 27 (0, 0))] :: Fs)) (List.Perm.refl _) (fun v107 J108 M109 hq110 hJ111 => ?_)
      replace hle := hle.trans hJ111
      replace hr96 := hr96.mono hJ111
      obtain ⟨rfl, rfl⟩ := hq110
      refine at_xS (fun w hs => ⟨hs.var (k := 0) rfl 0 rfl, hs.var (k := 0) rfl 0 rfl, hs.var (k := 0) rfl 1 rfl, hs.var (k := 0) rfl 0 rfl⟩) ?_
      refine at_xseg [15, 16] 3 (#[true, true, true, true, true, true, true, true, true, true, true, true, true, true, true, true, true, false, false, false]) rfl (by kernel_rfl) [] [12, 14, 19] (L2 := [(12, .bool true), (14, .int .i64 p93.At), (19, .int .i64 (mx (IntKind.i64.wrap (b9 - 1)) 0))]) (obs := []) (by kernel_rfl) (by kernel_rfl) (by kernel_rfl) (.inr fun w hs => ⟨hs.var (k := 0) rfl 0 rfl, hs.var (k := 0) rfl 0 rfl, hs.var (k := 0) rfl 1 rfl, hs.var (k := 0) rfl 0 rfl⟩) (fun w hS => trivial) (fun w hs => trivial) ?_
      refine at_x1 2 17 (#[true, true, true, true, true, true, true, true, true, true, true, true, true, true, true, true, true, true, false, false]) rfl (by kernel_rfl) (by kernel_rfl) rfl rfl ?_
      obtain ⟨b10, H112, H⟩ := bind_some H
      have hm_ := impl_within.calls (I0 := J108) H112
      refine eff_call rfl rfl ok46 rfl rfl (show Meets Try.prog 46 ([.int .i64 p93.At, .int .i64 0, .int .i64 (mx (IntKind.i64.wrap (b9 - 1)) 0)] : List Value).toArray _ [] _ from hm_) (Mr := ([(g97, .cells #[.slice A94 p93.Items.length c95, .int .i64 p93.At] 27 (0, 0))] :: Fs)) (List.Perm.refl _) (fun v113 J114 M115 hq116 hJ117 => ?_)
      replace hle := hle.trans hJ117
      replace hr96 := hr96.mono hJ117
      obtain ⟨rfl, rfl⟩ := hq116
      refine at_xS (fun w hs => ⟨hs.var (k := 0) rfl 0 rfl, hs.var (k := 0) rfl 0 rfl, hs.var (k := 0) rfl 1 rfl, hs.var (k := 0) rfl 0 rfl⟩) ?_
      refine at_xseg [18, 19] 0 (#[true, true, true, true, true, true, true, true, true, true, true, true, true, true, true, true, true, true, true, true]) rfl (by kernel_rfl) [] [2] (L2 := [(2, .bool b10)]) (obs := []) (by kernel_rfl) (by kernel_rfl) (by kernel_rfl) (.inr fun w hs => ⟨hs.var (k := 0) rfl 0 rfl, hs.var (k := 0) rfl 0 rfl, hs.var (k := 0) rfl 1 rfl, hs.var (k := 0) rfl 0 rfl⟩) (fun w hS => trivial) (fun w hs => trivial) ?_
      refine at_xend (by kernel_rfl) ?_
      refine at_thn ?_
      refine at_ret ?_
      obtain rfl := Option.some.inj H
      refine at_drop (k := 0) rfl rfl ?_
      refine at_done (vs := [.bool b10]) (obs := []) (.inl rfl) [.tmp 2] [] rfl (by kernel_rfl) (fun w hs => trivial) (fun w hs => ⟨_, _, [], rfl, ⟨rfl, rfl⟩, hle, hs⟩)
    · rw [if_neg h105] at H
      refine at_xseg [8, 9, 10, 11, 12, 13] 6 (#[true, true, true, true, true, true, true, true, true, true, true, true, true, true, false, false, false, false, false, false]) rfl (by kernel_rfl) [(9, .bool false)] [12, 14, 16] (L2 := [(12, .bool false), (14, undef), (16, undef)]) (obs := [fun _ => (.bool b8 : Value) = .bool false]) (by kernel_rfl) (by kernel_rfl) (by kernel_rfl) (.inr fun w hs => ⟨hs.var (k := 0) rfl 0 rfl, hs.var (k := 0) rfl 0 rfl⟩) (fun w hS => congrArg Value.bool (ff_of h105)) (fun w hs => congrArg Value.bool (ff_of h105)) ?_
      refine at_xseg [14, 15, 16] 3 (#[true, true, true, true, true, true, true, true, true, true, true, true, true, true, true, true, true, false, false, false]) rfl (by kernel_rfl) [] [12, 14, 19] (L2 := [(12, .bool false), (14, undef), (19, undef)]) (obs := []) (by kernel_rfl) (by kernel_rfl) (by kernel_rfl) (.inr fun w hs => ⟨hs.var (k := 0) rfl 0 rfl, hs.var (k := 0) rfl 0 rfl⟩) (fun w hS => trivial) (fun w hs => trivial) ?_
      refine at_xseg [17, 18, 19] 0 (#[true, true, true, true, true, true, true, true, true, true, true, true, true, true, true, true, true, true, true, true]) rfl (by kernel_rfl) [] [2] (L2 := [(2, .bool false)]) (obs := []) (by kernel_rfl) (by kernel_rfl) (by kernel_rfl) (.inr fun w hs => ⟨hs.var (k := 0) rfl 0 rfl, hs.var (k := 0) rfl 0 rfl⟩) (fun w hS => trivial) (fun w hs => trivial) ?_
      refine at_xend (by kernel_rfl) ?_
      refine at_thn ?_
      refine at_ret ?_
      obtain rfl := Option.some.inj H
      refine at_drop (k := 0) rfl rfl ?_
      refine at_done (vs := [.bool false]) (obs := []) (.inl rfl) [.tmp 2] [] rfl (by kernel_rfl) (fun w hs => trivial) (fun w hs => ⟨_, _, [], rfl, ⟨rfl, rfl⟩, hle, hs⟩)
  · rw [if_neg h98] at H
    refine at_x hmo (fun w => w.cell? ⟨g97, 0, none⟩ = some (.slice A94 p93.Items.length c95)) [] ?_
    refine at_xseg [0, 1, 2, 3, 4, 5, 6] 13 (#[true, true, true, true, true, true, true, false, false, false, false, false, false, false, false, false, false, false, false, false]) rfl (by kernel_rfl) [(1, .slice A94 p93.Items.length c95), (4, .bool false)] [1, 7, 9] (L2 := [(1, .pointer (some ⟨g97, 0, none⟩)), (7, .bool false), (9, undef)]) (obs := [fun w => w.cell? ⟨g97, 0, none⟩ = some (.slice A94 p93.Items.length c95), fun _ => (.bool (decide ((p93.Items.length : Int) ≤ 10)) : Value) = .bool false]) (by kernel_rfl) (by kernel_rfl) (by kernel_rfl) (.inr fun w hs => hs.var (k := 0) rfl 0 rfl) (fun w hS => ⟨hS, congrArg Value.bool (decide_eq_false h98)⟩) (fun w hs => ⟨hs.var (k := 0) rfl 0 rfl, congrArg Value.bool (decide_eq_false h98)⟩) ?_
    refine at_xseg [7, 8, 9, 10, 11, 12, 13] 6 (#[true, true, true, true, true, true, true, true, true, true, true, true, true, true, false, false, false, false, false, false]) rfl (by kernel_rfl) [] [12, 14, 16] (L2 := [(12, .bool false), (14, undef), (16, undef)]) (obs := []) (by kernel_rfl) (by kernel_rfl) (by kernel_rfl) (.inr fun w hs => hs.var (k := 0) rfl 0 rfl) (fun w hS => trivial) (fun w hs => trivial) ?_
    refine at_xseg [14, 15, 16] 3 (#[true, true, true, true, true, true, true, true, true, true, true, true, true, true, true, true, true, false, false, false]) rfl (by kernel_rfl) [] [12, 14, 19] (L2 := [(12, .bool false), (14, undef), (19, undef)]) (obs := []) (by kernel_rfl) (by kernel_rfl) (by kernel_rfl) (.inr fun w hs => hs.var (k := 0) rfl 0 rfl) (fun w hS => trivial) (fun w hs => trivial) ?_
    refine at_xseg [17, 18, 19] 0 (#[true, true, true, true, true, true, true, true, true, true, true, true, true, true, true, true, true, true, true, true]) rfl (by kernel_rfl) [] [2] (L2 := [(2, .bool false)]) (obs := []) (by kernel_rfl) (by kernel_rfl) (by kernel_rfl) (.inr fun w hs => hs.var (k := 0) rfl 0 rfl) (fun w hS => trivial) (fun w hs => trivial) ?_
    refine at_xend (by kernel_rfl) ?_
    refine at_thn ?_
    refine at_ret ?_
    obtain rfl := Option.some.inj H
    refine at_drop (k := 0) rfl rfl ?_
    refine at_done (vs := [.bool false]) (obs := []) (.inl rfl) [.tmp 2] [] rfl (by kernel_rfl) (fun w hs => trivial) (fun w hs => ⟨_, _, [], rfl, ⟨rfl, rfl⟩, hle, hs⟩)

/-! ### slices.Clone[[]int64,int64]: function 48 -/
def slices_Clone_int64_int64 (p116 : List Int) : Option (List Int) := if ([] : List Int).length + p116.length ≤ 17592186044416 then (some (([] : List Int) ++ p116)) else none
set_option maxHeartbeats 4000000 in
set_option maxRecDepth 100000 in
theorem slices_Clone_int64_int64.calls {p116 : List Int} {r : (List Int)} {I0 : Imm} {A117 : Option Addr} {c118 : Nat} (H : slices_Clone_int64_int64 p116 = some r) (hr119 : Rd (Kd.int .i64) I0 A117 c118 p116) :
    Meets Try.prog 48 ([.slice A117 p116.length c118] : List Value).toArray I0 [] (fun v J M => ∃ (A_1 : Option Addr) (c_2 : Nat) (s_3 : Seg), v = .slice A_1 r.length c_2 ∧ M = [s_3] ∧ Own (Kd.int .i64) 2 J A_1 c_2 r s_3) := by
  have hle := ImmLe.refl I0
  unfold slices_Clone_int64_int64 at H
  refine fn_intro (fn := Try.f48) 8 Try.func48 rfl rfl rfl (fun E Fs => ?_)
  refine at_seq ?_
  refine at_reg [] [0] (L2 := [(0, .slice A117 p116.length c118)]) (obs := []) (by kernel_rfl) ?_ ?_
  · intro w hs; exact trivial
  refine at_thn ?_
  refine at_seq ?_
  refine at_seq ?_
  refine at_reg [] [0, 4] (L2 := [(0, .slice A117 p116.length c118), (4, .bool A117.isNone)]) (obs := []) (by kernel_rfl) ?_ ?_
  · intro w hs; exact trivial
  refine at_thn ?_
  by_cases h120 : A117.isNone = true
  · have hx_ := hr119.nilOf h120
    replace H : (some ([] : List Int)) = some r := by simpa [hx_] using H
    refine at_cond_t rfl (h120) ?_
    refine at_seq ?_
    refine at_reg [] [2] (L2 := [(2, .slice none ([] : List Int).length 0)]) (obs := []) (by kernel_rfl) ?_ ?_
    · intro w hs; exact trivial
    refine at_thn ?_
    refine at_ret ?_
    refine at_then_ret ?_
    refine at_nilseg ?_
    have ho121 := Own.nil (Kd.int .i64) 2 I0
    obtain rfl := Option.some.inj H
    refine at_done (vs := [.slice none ([] : List Int).length 0]) (obs := []) (.inl rfl) [.tmp 2] [] rfl (by kernel_rfl) (fun w hs => trivial) (fun w hs => ⟨_, _, [[]], rfl, ⟨none, 0, [], rfl, rfl, ho121⟩, hle, hs⟩)
  · refine at_cond_f rfl (ff_of h120) ?_
    refine at_skip ?_
    refine at_thn ?_
    refine at_seq ?_
    refine at_ops [0, 1, 2, 3] rfl ?_
    refine at_eff rfl rfl ?_
    refine eff_buildSlice (e := 2) (cells := #[]) ([] : List Int).length rfl rfl rfl (by kernel_rfl) (fun g121 => ?_)
    have ho122 := own_lit (K := (Kd.int .i64)) (e := 2) (I := I0) (xs := ([] : List Int)) (css := []) (cells := #[]) (b := g121) trivial rfl
    refine at_seg [1] [2, 3] rfl [] [5, 6] (L2 := [(5, .slice (some ⟨g121, 0, none⟩ : Option Addr) ([] : List Int).length (([] : List Int).length)), (6, .slice A117 p116.length c118)]) (obs := []) (by kernel_rfl) ?_ ?_
    · intro w hs; exact trivial
    refine at_eff rfl rfl ?_
    obtain ⟨h123, H⟩ := ite_some H
    obtain ⟨i_, hi_, hz_, hs_, hb_⟩ := info2
    refine eff_append (K := (Kd.int .i64)) (xs := ([] : List Int)) (ys := p116) 0 rfl rfl rfl rfl rfl und25 und25 hi_ hz_ hs_ rfl rfl rfl ho122 rfl (fun w hs => hr119.rowAt hs) (by rw [hb_]; omega) (by omega) (fun A124 c125 s126 ho127 => ?_)
    refine at_seg [3] [] rfl [] [2] (L2 := [(2, .slice A124 (([] : List Int) ++ p116).length c125)]) (obs := []) (by kernel_rfl) ?_ ?_
    · intro w hs; exact trivial
    refine at_end ?_
    refine at_thn ?_
    refine at_ret ?_
    obtain rfl := Option.some.inj H
    refine at_done (vs := [.slice A124 (([] : List Int) ++ p116).length c125]) (obs := []) (.inl rfl) [.tmp 2] [] rfl (by kernel_rfl) (fun w hs => trivial) (fun w hs => ⟨_, _, [s126], rfl, ⟨A124, c125, s126, rfl, rfl, ho127⟩, hle, hs⟩)
end Go.Proofs.Ytabdhegmepaeiaa
