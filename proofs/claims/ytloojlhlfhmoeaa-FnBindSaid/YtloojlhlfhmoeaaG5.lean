import Derived.Test.YtloojlhlfhmoeaaG4
namespace Go.Proofs.Ytloojlhlfhmoeaa
open Go Eng
set_option linter.unusedVariables false
set_option linter.unusedSimpArgs false
/-! ### loop.example/g00146/impl.isMany: function 15 -/
def impl_isMany (p44 : Int) : Option Bool := some (decide (p44 > 400))
set_option maxHeartbeats 4000000 in
set_option maxRecDepth 100000 in
theorem impl_isMany.calls {p44 : Int} {r : Bool} {I0 : Imm} (H : impl_isMany p44 = some r) :
    Meets Try.prog 15 ([.int .i64 p44] : List Value).toArray I0 [] (fun v J M => v = .bool r ∧ M = []) := by
  have hle := ImmLe.refl I0
  unfold impl_isMany at H
  refine fn_intro (fn := Try.f15) 5 Try.func15 rfl rfl rfl (fun E Fs => ?_)
  refine at_seq ?_
  refine at_reg [] [0] (L2 := [(0, .int .i64 p44)]) (obs := []) (by kernel_rfl) ?_ ?_
  · intro w hs; exact trivial
  refine at_thn ?_
  refine at_seq ?_
  refine at_reg [] [2] (L2 := [(2, .bool (decide (p44 > 400)))]) (obs := []) (by kernel_rfl) ?_ ?_
  · intro w hs; exact trivial
  refine at_thn ?_
  refine at_ret ?_
  obtain rfl := Option.some.inj H
  refine at_done (vs := [.bool (decide (p44 > 400))]) (obs := []) (.inl rfl) [.tmp 2] [] rfl (by kernel_rfl) (fun w hs => trivial) (fun w hs => ⟨_, _, [], rfl, ⟨rfl, rfl⟩, hle, hs⟩)

/-! ### slices.Clone[[]loop.example/g00146/impl.Key,loop.example/g00146/impl.Key]: function 16 -/
def impl_Key (p51 : List T_impl_Key) : Option (List T_impl_Key) := if ([] : List T_impl_Key).length + p51.length ≤ 3518437208883 then (some (([] : List T_impl_Key) ++ p51)) else none
set_option maxHeartbeats 4000000 in
set_option maxRecDepth 100000 in
theorem impl_Key.calls {p51 : List T_impl_Key} {r : (List T_impl_Key)} {I0 : Imm} {A52 : Option Addr} {c53 : Nat} (H : impl_Key p51 = some r) (hr54 : Rd k_impl_Key I0 A52 c53 p51) :
    Meets Try.prog 16 ([.slice A52 p51.length c53] : List Value).toArray I0 [] (fun v J M => ∃ (A_1 : Option Addr) (c_2 : Nat) (s_3 : Seg), v = .slice A_1 r.length c_2 ∧ M = [s_3] ∧ Own k_impl_Key 25 J A_1 c_2 r s_3) := by
  have hle := ImmLe.refl I0
  unfold impl_Key at H
  refine fn_intro (fn := Try.f16) 8 Try.func16 rfl rfl rfl (fun E Fs => ?_)
  refine at_seq ?_
  refine at_reg [] [0] (L2 := [(0, .slice A52 p51.length c53)]) (obs := []) (by kernel_rfl) ?_ ?_
  · intro w hs; exact trivial
  refine at_thn ?_
  refine at_seq ?_
  refine at_seq ?_
  refine at_reg [] [0, 4] (L2 := [(0, .slice A52 p51.length c53), (4, .bool A52.isNone)]) (obs := []) (by kernel_rfl) ?_ ?_
  · intro w hs; exact trivial
  refine at_thn ?_
  by_cases h55 : A52.isNone = true
  · have hx_ := hr54.nilOf h55
    replace H : (some ([] : List T_impl_Key)) = some r := by simpa [hx_] using H
    refine at_cond_t rfl (h55) ?_
    refine at_seq ?_
    refine at_reg [] [2] (L2 := [(2, .slice none ([] : List T_impl_Key).length 0)]) (obs := []) (by kernel_rfl) ?_ ?_
    · intro w hs; exact trivial
    refine at_thn ?_
    refine at_ret ?_
    refine at_then_ret ?_
    refine at_nilseg ?_
    have ho56 := Own.nil k_impl_Key 25 I0
    obtain rfl := Option.some.inj H
    refine at_done (vs := [.slice none ([] : List T_impl_Key).length 0]) (obs := []) (.inl rfl) [.tmp 2] [] rfl (by kernel_rfl) (fun w hs => trivial) (fun w hs => ⟨_, _, [[]], rfl, ⟨none, 0, [], rfl, rfl, ho56⟩, hle, hs⟩)
  · refine at_cond_f rfl (ff_of h55) ?_
    refine at_skip ?_
    refine at_thn ?_
    refine at_seq ?_
    refine at_ops [0, 1, 2, 3] rfl ?_
    refine at_eff rfl rfl ?_
    refine eff_buildSlice (e := 25) (cells := #[]) ([] : List T_impl_Key).length rfl rfl rfl (by kernel_rfl) (fun g56 => ?_)
    have ho57 := own_lit (K := k_impl_Key) (e := 25) (I := I0) (xs := ([] : List T_impl_Key)) (css := []) (cells := #[]) (b := g56) trivial rfl
    refine at_seg [1] [2, 3] rfl [] [5, 6] (L2 := [(5, .slice (some ⟨g56, 0, none⟩ : Option Addr) ([] : List T_impl_Key).length (([] : List T_impl_Key).length)), (6, .slice A52 p51.length c53)]) (obs := []) (by kernel_rfl) ?_ ?_
    · intro w hs; exact trivial
    refine at_eff rfl rfl ?_
    obtain ⟨h58, H⟩ := ite_some H
    obtain ⟨i_, hi_, hz_, hs_, hb_⟩ := info25
    refine eff_append (K := k_impl_Key) (xs := ([] : List T_impl_Key)) (ys := p51) 0 rfl rfl rfl rfl rfl und23 und23 hi_ hz_ hs_ rfl rfl rfl ho57 rfl (fun w hs => hr54.rowAt hs) (by rw [hb_]; omega) (by omega) (fun A59 c60 s61 ho62 => ?_)
    refine at_seg [3] [] rfl [] [2] (L2 := [(2, .slice A59 (([] : List T_impl_Key) ++ p51).length c60)]) (obs := []) (by kernel_rfl) ?_ ?_
    · intro w hs; exact trivial
    refine at_end ?_
    refine at_thn ?_
    refine at_ret ?_
    obtain rfl := Option.some.inj H
    refine at_done (vs := [.slice A59 (([] : List T_impl_Key) ++ p51).length c60]) (obs := []) (.inl rfl) [.tmp 2] [] rfl (by kernel_rfl) (fun w hs => trivial) (fun w hs => ⟨_, _, [s61], rfl, ⟨A59, c60, s61, rfl, rfl, ho62⟩, hle, hs⟩)

/-! ### loop.example/g00146/impl.within: function 30 -/
def impl_within (p73 : Int) (p74 : Int) (p75 : Int) : Option Bool := if p74 ≤ p73 then (some (decide (p73 ≤ p75))) else (some false)
set_option maxHeartbeats 4000000 in
set_option maxRecDepth 100000 in
theorem impl_within.calls {p73 : Int} {p74 : Int} {p75 : Int} {r : Bool} {I0 : Imm} (H : impl_within p73 p74 p75 = some r) :
    Meets Try.prog 30 ([.int .i64 p73, .int .i64 p74, .int .i64 p75] : List Value).toArray I0 [] (fun v J M => v = .bool r ∧ M = []) := by
  have hle := ImmLe.refl I0
  unfold impl_within at H
  refine fn_intro (fn := Try.f30) 15 Try.func30 rfl rfl rfl (fun E Fs => ?_)
  refine at_seq ?_
  refine at_reg [] [0, 1, 2] (L2 := [(0, .int .i64 p73), (1, .int .i64 p74), (2, .int .i64 p75)]) (obs := []) (by kernel_rfl) ?_ ?_
  · intro w hs; exact trivial
  refine at_thn ?_
  refine at_seq ?_
  by_cases h76 : p74 ≤ p73
  · rw [if_pos h76] at H
    refine at_reg [(3, .bool true)] [6] (L2 := [(6, .bool (decide (p73 ≤ p75)))]) (obs := [fun _ => (.bool (decide (p74 ≤ p73)) : Value) = .bool true]) (by kernel_rfl) ?_ ?_
    · intro w hs; exact congrArg Value.bool (decide_eq_true h76)
    refine at_thn ?_
    refine at_ret ?_
    obtain rfl := Option.some.inj H
    refine at_done (vs := [.bool (decide (p73 ≤ p75))]) (obs := []) (.inl rfl) [.tmp 6] [] rfl (by kernel_rfl) (fun w hs => trivial) (fun w hs => ⟨_, _, [], rfl, ⟨rfl, rfl⟩, hle, hs⟩)
  · rw [if_neg h76] at H
    refine at_reg [(3, .bool false)] [6] (L2 := [(6, .bool false)]) (obs := [fun _ => (.bool (decide (p74 ≤ p73)) : Value) = .bool false]) (by kernel_rfl) ?_ ?_
    · intro w hs; exact congrArg Value.bool (decide_eq_false h76)
    refine at_thn ?_
    refine at_ret ?_
    obtain rfl := Option.some.inj H
    refine at_done (vs := [.bool false]) (obs := []) (.inl rfl) [.tmp 6] [] rfl (by kernel_rfl) (fun w hs => trivial) (fun w hs => ⟨_, _, [], rfl, ⟨rfl, rfl⟩, hle, hs⟩)

/-! ### loop.example/g00146/impl.isKeyName: function 31 -/
def impl_isKeyName_l0 : Nat → Int → (List UInt8) → Option Bool
  | 0, _, _ => none
  | k + 1, x88, p87 => if x88 < (p87.length : Int) then (if 0 ≤ x88 then (if (bt p87 x88) ≥ 97 then (if (bt p87 x88) ≤ 122 then (impl_isKeyName_l0 k (IntKind.i64.wrap (x88 + 1)) p87) else (if (bt p87 x88) = 45 then (impl_isKeyName_l0 k (IntKind.i64.wrap (x88 + 1)) p87) else (some false))) else (if (bt p87 x88) = 45 then (impl_isKeyName_l0 k (IntKind.i64.wrap (x88 + 1)) p87) else (some false))) else none) else ((impl_within (p87.length : Int) 1 20).bind fun b7 => (some b7))
def impl_isKeyName (k : Nat) (p87 : List UInt8) : Option Bool := impl_isKeyName_l0 k 0 p87
set_option maxHeartbeats 4000000 in
set_option maxRecDepth 100000 in
theorem impl_isKeyName.calls {k : Nat} {p87 : List UInt8} {r : Bool} {I0 : Imm} (H : impl_isKeyName k p87 = some r) :
    Meets Try.prog 31 ([str p87] : List Value).toArray I0 [] (fun v J M => v = .bool r ∧ M = []) := by
  have hle := ImmLe.refl I0
  unfold impl_isKeyName at H
  refine fn_intro (fn := Try.f31) 30 Try.func31 rfl rfl rfl (fun E Fs => ?_)
  refine at_seq ?_
  refine at_reg [] [0] (L2 := [(0, str p87)]) (obs := []) (by kernel_rfl) ?_ ?_
  · intro w hs; exact trivial
  refine at_thn ?_
  refine at_seq ?_
  refine at_seq ?_
  refine at_reg [] [0, 5, 6] (L2 := [(0, str p87), (5, .int .i64 (p87.length : Int)), (6, .int .i64 0)]) (obs := []) (by kernel_rfl) ?_ ?_
  · intro w hs; exact trivial
  refine at_thn ?_
  refine at_block ?_
  refine at_keep [0, 5, 6] (L2 := [(0, str p87), (5, .int .i64 (p87.length : Int)), (6, .int .i64 0)]) rfl ?_
  refine at_loop (fun k89 L I Ms => ∃ (x88 : Int), L = [(0, str p87), (5, .int .i64 (p87.length : Int)), (6, .int .i64 x88)] ∧ Ms = ([] ++ Fs) ∧ impl_isKeyName_l0 k89 x88 p87 = some r ∧ ImmLe I0 I ∧ k89 ≤ k) ?_ ?_ k ⟨0, rfl, rfl, H, hle, Nat.le_refl _⟩
  · rintro L I Ms ⟨_, rfl, rfl, H, _⟩; exact no_none H
  · clear H hle
    intro k89 ih90 L I Ms h_; obtain ⟨x88, hL_, hM_, H, hle, hk91⟩ := h_; rw [hL_, hM_]; clear hL_ hM_ L Ms
    rw [impl_isKeyName_l0] at H
    refine at_seq ?_
    refine at_reg [] [0, 5, 6, 7] (L2 := [(0, str p87), (5, .int .i64 (p87.length : Int)), (6, .int .i64 x88), (7, .bool (decide (x88 < (p87.length : Int))))]) (obs := []) (by kernel_rfl) ?_ ?_
    · intro w hs; exact trivial
    refine at_thn ?_
    refine at_seq ?_
    by_cases h92 : x88 < (p87.length : Int)
    · rw [if_pos h92] at H
      refine at_cond_t rfl (decide_eq_true h92) ?_
      refine at_skip ?_
      refine at_thn ?_
      refine at_seq ?_
      refine at_block ?_
      refine at_seq ?_
      refine at_reg [] [0, 3, 5, 6] (L2 := [(0, str p87), (3, .int .i64 x88), (5, .int .i64 (p87.length : Int)), (6, .int .i64 x88)]) (obs := []) (by kernel_rfl) ?_ ?_
      · intro w hs; exact trivial
      refine at_thn ?_
      refine at_seq ?_
      obtain ⟨h93, H⟩ := ite_some H
      by_cases h94 : (bt p87 x88) ≥ 97
      · rw [if_pos h94] at H
        by_cases h95 : (bt p87 x88) ≤ 122
        · rw [if_pos h95] at H
          refine at_reg [(4, .bool true), (10, .bool true)] [0, 5, 6, 25] (L2 := [(0, str p87), (5, .int .i64 (p87.length : Int)), (6, .int .i64 x88), (25, .bool false)]) (obs := [fun _ => 0 ≤ x88 ∧ x88 < ((p87.length : Nat) : Int), fun _ => (.bool (decide ((bt p87 x88) ≥ 97)) : Value) = .bool true, fun _ => 0 ≤ x88 ∧ x88 < ((p87.length : Nat) : Int), fun _ => (.bool (decide ((bt p87 x88) ≤ 122)) : Value) = .bool true]) (by kernel_rfl) ?_ ?_
          · intro w hs; exact ⟨⟨h93, h92⟩, congrArg Value.bool (decide_eq_true h94), ⟨h93, h92⟩, congrArg Value.bool (decide_eq_true h95)⟩
          refine at_thn ?_
          refine at_cond_f rfl (rfl) ?_
          refine at_skip ?_
          refine at_in_norm ?_
          refine at_thn ?_
          refine at_reg [] [0, 5, 6] (L2 := [(0, str p87), (5, .int .i64 (p87.length : Int)), (6, .int .i64 (IntKind.i64.wrap (x88 + 1)))]) (obs := []) (by kernel_rfl) ?_ ?_
          · intro w hs; exact trivial
          refine at_thn ?_
          refine at_keep [0, 5, 6] (L2 := [(0, str p87), (5, .int .i64 (p87.length : Int)), (6, .int .i64 (IntKind.i64.wrap (x88 + 1)))]) rfl ?_
          exact ih90 _ (by omega) _ _ _ ⟨IntKind.i64.wrap (x88 + 1), rfl, rfl, H, hle, by omega⟩
        · rw [if_neg h95] at H
          refine at_reg [(4, .bool true), (10, .bool false)] [0, 5, 6, 25] (L2 := [(0, str p87), (5, .int .i64 (p87.length : Int)), (6, .int .i64 x88), (25, .bool (!((bt p87 x88) == 45)))]) (obs := [fun _ => 0 ≤ x88 ∧ x88 < ((p87.length : Nat) : Int), fun _ => (.bool (decide ((bt p87 x88) ≥ 97)) : Value) = .bool true, fun _ => 0 ≤ x88 ∧ x88 < ((p87.length : Nat) : Int), fun _ => (.bool (decide ((bt p87 x88) ≤ 122)) : Value) = .bool false, fun _ => 0 ≤ x88 ∧ x88 < ((p87.length : Nat) : Int)]) (by kernel_rfl) ?_ ?_
          · intro w hs; exact ⟨⟨h93, h92⟩, congrArg Value.bool (decide_eq_true h94), ⟨h93, h92⟩, congrArg Value.bool (decide_eq_false h95), ⟨h93, h92⟩⟩
          refine at_thn ?_
          by_cases h96 : (bt p87 x88) = 45
          · rw [if_pos h96] at H
            refine at_cond_f rfl (not_ff (beq_iff_eq.2 h96)) ?_
            refine at_skip ?_
            refine at_in_norm ?_
            refine at_thn ?_
            refine at_reg [] [0, 5, 6] (L2 := [(0, str p87), (5, .int .i64 (p87.length : Int)), (6, .int .i64 (IntKind.i64.wrap (x88 + 1)))]) (obs := []) (by kernel_rfl) ?_ ?_
            · intro w hs; exact trivial
            refine at_thn ?_
            refine at_keep [0, 5, 6] (L2 := [(0, str p87), (5, .int .i64 (p87.length : Int)), (6, .int .i64 (IntKind.i64.wrap (x88 + 1)))]) rfl ?_
            exact ih90 _ (by omega) _ _ _ ⟨IntKind.i64.wrap (x88 + 1), rfl, rfl, H, hle, by omega⟩
          · rw [if_neg h96] at H
            refine at_cond_t rfl (not_tt (beq_eq_false_iff_ne.2 h96)) ?_
            refine at_seq ?_
            refine at_reg [] [2] (L2 := [(2, .bool false)]) (obs := []) (by kernel_rfl) ?_ ?_
            · intro w hs; exact trivial
            refine at_thn ?_
            refine at_ret ?_
            refine at_in_ret ?_
            refine at_then_ret ?_
            refine at_then_ret ?_
            refine at_in_ret ?_
            refine at_then_ret ?_
            obtain rfl := Option.some.inj H
            refine at_done (vs := [.bool false]) (obs := []) (.inl rfl) [.tmp 2] [] rfl (by kernel_rfl) (fun w hs => trivial) (fun w hs => ⟨_, _, [], rfl, ⟨rfl, rfl⟩, hle, hs⟩)
      · rw [if_neg h94] at H
        refine at_reg [(4, .bool false)] [0, 5, 6, 25] (L2 := [(0, str p87), (5, .int .i64 (p87.length : Int)), (6, .int .i64 x88), (25, .bool (!((bt p87 x88) == 45)))]) (obs := [fun _ => 0 ≤ x88 ∧ x88 < ((p87.length : Nat) : Int), fun _ => (.bool (decide ((bt p87 x88) ≥ 97)) : Value) = .bool false, fun _ => 0 ≤ x88 ∧ x88 < ((p87.length : Nat) : Int)]) (by kernel_rfl) ?_ ?_
        · intro w hs; exact ⟨⟨h93, h92⟩, congrArg Value.bool (decide_eq_false h94), ⟨h93, h92⟩⟩
        refine at_thn ?_
        by_cases h97 : (bt p87 x88) = 45
        · rw [if_pos h97] at H
          refine at_cond_f rfl (not_ff (beq_iff_eq.2 h97)) ?_
          refine at_skip ?_
          refine at_in_norm ?_
          refine at_thn ?_
          refine at_reg [] [0, 5, 6] (L2 := [(0, str p87), (5, .int .i64 (p87.length : Int)), (6, .int .i64 (IntKind.i64.wrap (x88 + 1)))]) (obs := []) (by kernel_rfl) ?_ ?_
          · intro w hs; exact trivial
          refine at_thn ?_
          refine at_keep [0, 5, 6] (L2 := [(0, str p87), (5, .int .i64 (p87.length : Int)), (6, .int .i64 (IntKind.i64.wrap (x88 + 1)))]) rfl ?_
          exact ih90 _ (by omega) _ _ _ ⟨IntKind.i64.wrap (x88 + 1), rfl, rfl, H, hle, by omega⟩
        · rw [if_neg h97] at H
          refine at_cond_t rfl (not_tt (beq_eq_false_iff_ne.2 h97)) ?_
          refine at_seq ?_
          refine at_reg [] [2] (L2 := [(2, .bool false)]) (obs := []) (by kernel_rfl) ?_ ?_
          · intro w hs; exact trivial
          refine at_thn ?_
          refine at_ret ?_
          refine at_in_ret ?_
          refine at_then_ret ?_
          refine at_then_ret ?_
          refine at_in_ret ?_
          refine at_then_ret ?_
          obtain rfl := Option.some.inj H
          refine at_done (vs := [.bool false]) (obs := []) (.inl rfl) [.tmp 2] [] rfl (by kernel_rfl) (fun w hs => trivial) (fun w hs => ⟨_, _, [], rfl, ⟨rfl, rfl⟩, hle, hs⟩)
    · rw [if_neg h92] at H
      refine at_cond_f rfl (decide_eq_false h92) ?_
      refine at_exit ?_
      refine at_then_exit ?_
      refine at_then_exit ?_
      refine at_in_hit ?_
      refine at_thn ?_
      refine at_seq ?_
      refine at_ops [0, 1, 2, 3] rfl ?_
      refine at_seg [0, 1] [2, 3] rfl [] [28] (L2 := [(28, .int .i64 (p87.length : Int))]) (obs := []) (by kernel_rfl) ?_ ?_
      · intro w hs; exact trivial
      refine at_eff rfl rfl ?_
      obtain ⟨b7, H98, H⟩ := bind_some H
      have hm_ := impl_within.calls (I0 := I) H98
      refine eff_call rfl rfl ok30 rfl rfl (show Meets Try.prog 30 ([.int .i64 (p87.length : Int), .int .i64 1, .int .i64 20] : List Value).toArray _ [] _ from hm_) (Mr := (Fs)) (List.Perm.refl _) (fun v99 J100 M101 hq102 hJ103 => ?_)
      replace hle := hle.trans hJ103
      obtain ⟨rfl, rfl⟩ := hq102
      refine at_seg [3] [] rfl [] [2] (L2 := [(2, .bool b7)]) (obs := []) (by kernel_rfl) ?_ ?_
      · intro w hs; exact trivial
      refine at_end ?_
      refine at_thn ?_
      refine at_ret ?_
      obtain rfl := Option.some.inj H
      refine at_done (vs := [.bool b7]) (obs := []) (.inl rfl) [.tmp 2] [] rfl (by kernel_rfl) (fun w hs => trivial) (fun w hs => ⟨_, _, [], rfl, ⟨rfl, rfl⟩, hle, hs⟩)

/-! ### loop.example/g00146/impl.keyRight: function 17 -/
def impl_keyRight (k : Nat) (p71 : T_impl_Key) : Option Bool := (impl_within p71.Map 1 9).bind fun b5 => (if b5 = true then ((impl_within (p71.Keys.length : Int) 1 6).bind fun b6 => (if b6 = true then ((impl_isKeyName k p71.Name).bind fun b7 => (some b7)) else (some false))) else (some false))
set_option maxHeartbeats 4000000 in
set_option maxRecDepth 100000 in
theorem impl_keyRight.calls {k : Nat} {p71 : T_impl_Key} {r : Bool} {I0 : Imm} (H : impl_keyRight k p71 = some r) :
    Meets Try.prog 17 ([.agg #[.int .i64 p71.Map, str p71.Keys, str p71.Name]] : List Value).toArray I0 [] (fun v J M => v = .bool r ∧ M = []) := by
  have hle := ImmLe.refl I0
  unfold impl_keyRight at H
  refine fn_intro (fn := Try.f17) 17 Try.func17 rfl rfl rfl (fun E Fs => ?_)
  refine at_seq ?_
  refine at_ops [0, 1] rfl ?_
  refine at_eff rfl rfl ?_
  refine eff_box rfl rfl rfl #[.int .i64 p71.Map, str p71.Keys, str p71.Name] rfl (fun g72 => ?_)
  refine at_seg [1] [] rfl [] [1] (L2 := [(1, .pointer (some ⟨g72, 0, none⟩))]) (obs := []) (by kernel_rfl) ?_ ?_
  · intro w hs; exact trivial
  refine at_end ?_
  refine at_thn ?_
  refine at_seq ?_
  refine at_ops [0, 1, 2, 3, 4, 5, 6, 7, 8, 9, 10, 11, 12, 13, 14] rfl ?_
  refine at_seg [0, 1] [2, 3, 4, 5, 6, 7, 8, 9, 10, 11, 12, 13, 14] rfl [(1, .int .i64 p71.Map)] [1, 4] (L2 := [(1, .pointer (some ⟨g72, 0, none⟩)), (4, .int .i64 p71.Map)]) (obs := [fun w => w.cell? ⟨g72, 0, none⟩ = some (.int .i64 p71.Map)]) (by kernel_rfl) ?_ ?_
  · intro w hs; exact hs.var (k := 0) rfl 0 rfl
  refine at_eff rfl rfl ?_
  obtain ⟨b5, H73, H⟩ := bind_some H
  have hm_ := impl_within.calls (I0 := I0) H73
  refine eff_call rfl rfl ok30 rfl rfl (show Meets Try.prog 30 ([.int .i64 p71.Map, .int .i64 1, .int .i64 9] : List Value).toArray _ [] _ from hm_) (Mr := ([(g72, .cells #[.int .i64 p71.Map, str p71.Keys, str p71.Name] 25 (0, 0))] :: Fs)) (List.Perm.refl _) (fun v74 J75 M76 hq77 hJ78 => ?_)
  replace hle := hle.trans hJ78
  obtain ⟨rfl, rfl⟩ := hq77
  by_cases h79 : b5 = true
  · rw [if_pos h79] at H
    refine at_seg [3, 4, 5, 6] [7, 8, 9, 10, 11, 12, 13, 14] rfl [(3, .bool true), (5, str p71.Keys)] [1, 6, 9] (L2 := [(1, .pointer (some ⟨g72, 0, none⟩)), (6, .bool true), (9, .int .i64 (p71.Keys.length : Int))]) (obs := [fun _ => (.bool b5 : Value) = .bool true, fun w => w.cell? ⟨g72, 1, none⟩ = some (str p71.Keys)]) (by kernel_rfl) ?_ ?_
    · intro w hs; exact ⟨congrArg Value.bool (h79), hs.var (k := 0) rfl 1 rfl⟩
    refine at_eff rfl rfl ?_
    obtain ⟨b6, H80, H⟩ := bind_some H
    have hm_ := impl_within.calls (I0 := J75) H80
    refine eff_call rfl rfl ok30 rfl rfl (show Meets Try.prog 30 ([.int .i64 (p71.Keys.length : Int), .int .i64 1, .int .i64 6] : List Value).toArray _ [] _ from hm_) (Mr := ([(g72, .cells #[.int .i64 p71.Map, str p71.Keys, str p71.Name] 25 (0, 0))] :: Fs)) (List.Perm.refl _) (fun v81 J82 M83 hq84 hJ85 => ?_)
    replace hle := hle.trans hJ85
    obtain ⟨rfl, rfl⟩ := hq84
    by_cases h86 : b6 = true
    · rw [if_pos h86] at H
      refine at_seg [8, 9, 10, 11] [12, 13, 14] rfl [(9, .bool true), (11, str p71.Name)] [12, 14] (L2 := [(12, .bool true), (14, str p71.Name)]) (obs := [fun _ => (.bool b6 : Value) = .bool true, fun w => w.cell? ⟨g72, 2, none⟩ = some (str p71.Name)]) (by kernel_rfl) ?_ ?_
      · intro w hs; exact ⟨congrArg Value.bool (h86), hs.var (k := 0) rfl 2 rfl⟩
      refine at_eff rfl rfl ?_
      obtain ⟨b7, H87, H⟩ := bind_some H
      have hm_ := impl_isKeyName.calls (I0 := J82) H87
      refine eff_call rfl rfl ok31 rfl rfl (show Meets Try.prog 31 ([str p71.Name] : List Value).toArray _ [] _ from hm_) (Mr := ([(g72, .cells #[.int .i64 p71.Map, str p71.Keys, str p71.Name] 25 (0, 0))] :: Fs)) (List.Perm.refl _) (fun v88 J89 M90 hq91 hJ92 => ?_)
      replace hle := hle.trans hJ92
      obtain ⟨rfl, rfl⟩ := hq91
      refine at_seg [13, 14] [] rfl [] [2] (L2 := [(2, .bool b7)]) (obs := []) (by kernel_rfl) ?_ ?_
      · intro w hs; exact trivial
      refine at_end ?_
      refine at_thn ?_
      refine at_ret ?_
      obtain rfl := Option.some.inj H
      refine at_drop (k := 0) rfl rfl ?_
      refine at_done (vs := [.bool b7]) (obs := []) (.inl rfl) [.tmp 2] [] rfl (by kernel_rfl) (fun w hs => trivial) (fun w hs => ⟨_, _, [], rfl, ⟨rfl, rfl⟩, hle, hs⟩)
    · rw [if_neg h86] at H
      refine at_seg [8, 9, 10, 11] [12, 13, 14] rfl [(9, .bool false)] [12, 14] (L2 := [(12, .bool false), (14, undef)]) (obs := [fun _ => (.bool b6 : Value) = .bool false]) (by kernel_rfl) ?_ ?_
      · intro w hs; exact congrArg Value.bool (ff_of h86)
      refine at_seg [12, 13, 14] [] rfl [] [2] (L2 := [(2, .bool false)]) (obs := []) (by kernel_rfl) ?_ ?_
      · intro w hs; exact trivial
      refine at_end ?_
      refine at_thn ?_
      refine at_ret ?_
      obtain rfl := Option.some.inj H
      refine at_drop (k := 0) rfl rfl ?_
      refine at_done (vs := [.bool false]) (obs := []) (.inl rfl) [.tmp 2] [] rfl (by kernel_rfl) (fun w hs => trivial) (fun w hs => ⟨_, _, [], rfl, ⟨rfl, rfl⟩, hle, hs⟩)
  · rw [if_neg h79] at H
    refine at_seg [3, 4, 5, 6] [7, 8, 9, 10, 11, 12, 13, 14] rfl [(3, .bool false)] [1, 6, 9] (L2 := [(1, .pointer (some ⟨g72, 0, none⟩)), (6, .bool false), (9, undef)]) (obs := [fun _ => (.bool b5 : Value) = .bool false]) (by kernel_rfl) ?_ ?_
    · intro w hs; exact congrArg Value.bool (ff_of h79)
    refine at_seg [7, 8, 9, 10, 11] [12, 13, 14] rfl [] [12, 14] (L2 := [(12, .bool false), (14, undef)]) (obs := []) (by kernel_rfl) ?_ ?_
    · intro w hs; exact trivial
    refine at_seg [12, 13, 14] [] rfl [] [2] (L2 := [(2, .bool false)]) (obs := []) (by kernel_rfl) ?_ ?_
    · intro w hs; exact trivial
    refine at_end ?_
    refine at_thn ?_
    refine at_ret ?_
    obtain rfl := Option.some.inj H
    refine at_drop (k := 0) rfl rfl ?_
    refine at_done (vs := [.bool false]) (obs := []) (.inl rfl) [.tmp 2] [] rfl (by kernel_rfl) (fun w hs => trivial) (fun w hs => ⟨_, _, [], rfl, ⟨rfl, rfl⟩, hle, hs⟩)

/-! ### cmp.isNaN[int64]: function 41 -/
def cmp_isNaN_int64 (p90 : Int) : Option Bool := some (p90 != p90)
set_option maxHeartbeats 4000000 in
set_option maxRecDepth 100000 in
theorem cmp_isNaN_int64.calls {p90 : Int} {r : Bool} {I0 : Imm} (H : cmp_isNaN_int64 p90 = some r) :
    Meets Try.prog 41 ([.int .i64 p90] : List Value).toArray I0 [] (fun v J M => v = .bool r ∧ M = []) := by
  have hle := ImmLe.refl I0
  unfold cmp_isNaN_int64 at H
  refine fn_intro (fn := Try.f41) 6 Try.func41 rfl rfl rfl (fun E Fs => ?_)
  refine at_seq ?_
  refine at_reg [] [0] (L2 := [(0, .int .i64 p90)]) (obs := []) (by kernel_rfl) ?_ ?_
  · intro w hs; exact trivial
  refine at_thn ?_
  refine at_seq ?_
  refine at_reg [] [2] (L2 := [(2, .bool (p90 != p90))]) (obs := []) (by kernel_rfl) ?_ ?_
  · intro w hs; exact trivial
  refine at_thn ?_
  refine at_ret ?_
  obtain rfl := Option.some.inj H
  refine at_done (vs := [.bool (p90 != p90)]) (obs := []) (.inl rfl) [.tmp 2] [] rfl (by kernel_rfl) (fun w hs => trivial) (fun w hs => ⟨_, _, [], rfl, ⟨rfl, rfl⟩, hle, hs⟩)

/-! ### cmp.Compare[int64]: function 33 -/
def cmp_Compare_int64 (p88 : Int) (p89 : Int) : Option Int := (cmp_isNaN_int64 p88).bind fun b6 => ((cmp_isNaN_int64 p89).bind fun b7 => (if b6 = true then (if b7 = true then (some 0) else (some (-1))) else (if b7 = true then (some 1) else (if p88 < p89 then (some (-1)) else (if p88 > p89 then (some 1) else (some 0))))))
set_option maxHeartbeats 4000000 in
set_option maxRecDepth 100000 in
theorem cmp_Compare_int64.calls {p88 : Int} {p89 : Int} {r : Int} {I0 : Imm} (H : cmp_Compare_int64 p88 p89 = some r) :
    Meets Try.prog 33 ([.int .i64 p88, .int .i64 p89] : List Value).toArray I0 [] (fun v J M => v = .int .i64 r ∧ M = []) := by
  have hle := ImmLe.refl I0
  unfold cmp_Compare_int64 at H
  refine fn_intro (fn := Try.f33) 20 Try.func33 rfl rfl rfl (fun E Fs => ?_)
  refine at_seq ?_
  refine at_reg [] [0, 1] (L2 := [(0, .int .i64 p88), (1, .int .i64 p89)]) (obs := []) (by kernel_rfl) ?_ ?_
  · intro w hs; exact trivial
  refine at_thn ?_
  refine at_seq ?_
  refine at_ops [0, 1, 2] rfl ?_
  refine at_seg [0] [1, 2] rfl [] [0, 1, 7] (L2 := [(0, .int .i64 p88), (1, .int .i64 p89), (7, .int .i64 p88)]) (obs := []) (by kernel_rfl) ?_ ?_
  · intro w hs; exact trivial
  refine at_eff rfl rfl ?_
  obtain ⟨b6, H90, H⟩ := bind_some H
  have hm_ := cmp_isNaN_int64.calls (I0 := I0) H90
  refine eff_call rfl rfl ok41 rfl rfl (show Meets Try.prog 41 ([.int .i64 p88] : List Value).toArray _ [] _ from hm_) (Mr := (Fs)) (List.Perm.refl _) (fun v91 J92 M93 hq94 hJ95 => ?_)
  replace hle := hle.trans hJ95
  obtain ⟨rfl, rfl⟩ := hq94
  refine at_seg [2] [] rfl [] [0, 1, 5] (L2 := [(0, .int .i64 p88), (1, .int .i64 p89), (5, .bool b6)]) (obs := []) (by kernel_rfl) ?_ ?_
  · intro w hs; exact trivial
  refine at_end ?_
  refine at_thn ?_
  refine at_seq ?_
  refine at_ops [0, 1, 2] rfl ?_
  refine at_seg [0] [1, 2] rfl [] [0, 1, 5, 9] (L2 := [(0, .int .i64 p88), (1, .int .i64 p89), (5, .bool b6), (9, .int .i64 p89)]) (obs := []) (by kernel_rfl) ?_ ?_
  · intro w hs; exact trivial
  refine at_eff rfl rfl ?_
  obtain ⟨b7, H96, H⟩ := bind_some H
  have hm_ := cmp_isNaN_int64.calls (I0 := J92) H96
  refine eff_call rfl rfl ok41 rfl rfl (show Meets Try.prog 41 ([.int .i64 p89] : List Value).toArray _ [] _ from hm_) (Mr := (Fs)) (List.Perm.refl _) (fun v97 J98 M99 hq100 hJ101 => ?_)
  replace hle := hle.trans hJ101
  obtain ⟨rfl, rfl⟩ := hq100
  refine at_seg [2] [] rfl [] [0, 1, 5, 6] (L2 := [(0, .int .i64 p88), (1, .int .i64 p89), (5, .bool b6), (6, .bool b7)]) (obs := []) (by kernel_rfl) ?_ ?_
  · intro w hs; exact trivial
  refine at_end ?_
  refine at_thn ?_
  refine at_seq ?_
  refine at_seq ?_
  refine at_reg [] [0, 1, 6, 11] (L2 := [(0, .int .i64 p88), (1, .int .i64 p89), (6, .bool b7), (11, .bool b6)]) (obs := []) (by kernel_rfl) ?_ ?_
  · intro w hs; exact trivial
  refine at_thn ?_
  by_cases h102 : b6 = true
  · rw [if_pos h102] at H
    refine at_cond_t rfl (h102) ?_
    refine at_seq ?_
    refine at_seq ?_
    refine at_reg [] [12] (L2 := [(12, .bool b7)]) (obs := []) (by kernel_rfl) ?_ ?_
    · intro w hs; exact trivial
    refine at_thn ?_
    by_cases h103 : b7 = true
    · rw [if_pos h103] at H
      refine at_cond_t rfl (h103) ?_
      refine at_seq ?_
      refine at_reg [] [4] (L2 := [(4, .int .i64 0)]) (obs := []) (by kernel_rfl) ?_ ?_
      · intro w hs; exact trivial
      refine at_thn ?_
      refine at_ret ?_
      refine at_then_ret ?_
      refine at_then_ret ?_
      obtain rfl := Option.some.inj H
      refine at_done (vs := [.int .i64 0]) (obs := []) (.inl rfl) [.tmp 4] [] rfl (by kernel_rfl) (fun w hs => trivial) (fun w hs => ⟨_, _, [], rfl, ⟨rfl, rfl⟩, hle, hs⟩)
    · rw [if_neg h103] at H
      refine at_cond_f rfl (ff_of h103) ?_
      refine at_skip ?_
      refine at_thn ?_
      refine at_seq ?_
      refine at_reg [] [4] (L2 := [(4, .int .i64 (-1))]) (obs := []) (by kernel_rfl) ?_ ?_
      · intro w hs; exact trivial
      refine at_thn ?_
      refine at_ret ?_
      refine at_then_ret ?_
      obtain rfl := Option.some.inj H
      refine at_done (vs := [.int .i64 (-1)]) (obs := []) (.inl rfl) [.tmp 4] [] rfl (by kernel_rfl) (fun w hs => trivial) (fun w hs => ⟨_, _, [], rfl, ⟨rfl, rfl⟩, hle, hs⟩)
  · rw [if_neg h102] at H
    refine at_cond_f rfl (ff_of h102) ?_
    refine at_skip ?_
    refine at_thn ?_
    refine at_seq ?_
    refine at_seq ?_
    refine at_reg [] [0, 1, 13] (L2 := [(0, .int .i64 p88), (1, .int .i64 p89), (13, .bool b7)]) (obs := []) (by kernel_rfl) ?_ ?_
    · intro w hs; exact trivial
    refine at_thn ?_
    by_cases h104 : b7 = true
    · rw [if_pos h104] at H
      refine at_cond_t rfl (h104) ?_
      refine at_seq ?_
      refine at_reg [] [4] (L2 := [(4, .int .i64 1)]) (obs := []) (by kernel_rfl) ?_ ?_
      · intro w hs; exact trivial
      refine at_thn ?_
      refine at_ret ?_
      refine at_then_ret ?_
      obtain rfl := Option.some.inj H
      refine at_done (vs := [.int .i64 1]) (obs := []) (.inl rfl) [.tmp 4] [] rfl (by kernel_rfl) (fun w hs => trivial) (fun w hs => ⟨_, _, [], rfl, ⟨rfl, rfl⟩, hle, hs⟩)
    · rw [if_neg h104] at H
      refine at_cond_f rfl (ff_of h104) ?_
      refine at_skip ?_
      refine at_thn ?_
      refine at_seq ?_
      refine at_seq ?_
      refine at_reg [] [0, 1, 16] (L2 := [(0, .int .i64 p88), (1, .int .i64 p89), (16, .bool (decide (p88 < p89)))]) (obs := []) (by kernel_rfl) ?_ ?_
      · intro w hs; exact trivial
      refine at_thn ?_
      by_cases h105 : p88 < p89
      · rw [if_pos h105] at H
        refine at_cond_t rfl (decide_eq_true h105) ?_
        refine at_seq ?_
        refine at_reg [] [4] (L2 := [(4, .int .i64 (-1))]) (obs := []) (by kernel_rfl) ?_ ?_
        · intro w hs; exact trivial
        refine at_thn ?_
        refine at_ret ?_
        refine at_then_ret ?_
        obtain rfl := Option.some.inj H
        refine at_done (vs := [.int .i64 (-1)]) (obs := []) (.inl rfl) [.tmp 4] [] rfl (by kernel_rfl) (fun w hs => trivial) (fun w hs => ⟨_, _, [], rfl, ⟨rfl, rfl⟩, hle, hs⟩)
      · rw [if_neg h105] at H
        refine at_cond_f rfl (decide_eq_false h105) ?_
        refine at_skip ?_
        refine at_thn ?_
        refine at_seq ?_
        refine at_seq ?_
        refine at_reg [] [19] (L2 := [(19, .bool (decide (p88 > p89)))]) (obs := []) (by kernel_rfl) ?_ ?_
        · intro w hs; exact trivial
        refine at_thn ?_
        by_cases h106 : p88 > p89
        · rw [if_pos h106] at H
          refine at_cond_t rfl (decide_eq_true h106) ?_
          refine at_seq ?_
          refine at_reg [] [4] (L2 := [(4, .int .i64 1)]) (obs := []) (by kernel_rfl) ?_ ?_
          · intro w hs; exact trivial
          refine at_thn ?_
          refine at_ret ?_
          refine at_then_ret ?_
          obtain rfl := Option.some.inj H
          refine at_done (vs := [.int .i64 1]) (obs := []) (.inl rfl) [.tmp 4] [] rfl (by kernel_rfl) (fun w hs => trivial) (fun w hs => ⟨_, _, [], rfl, ⟨rfl, rfl⟩, hle, hs⟩)
        · rw [if_neg h106] at H
          refine at_cond_f rfl (decide_eq_false h106) ?_
          refine at_skip ?_
          refine at_thn ?_
          refine at_seq ?_
          refine at_reg [] [4] (L2 := [(4, .int .i64 0)]) (obs := []) (by kernel_rfl) ?_ ?_
          · intro w hs; exact trivial
          refine at_thn ?_
          refine at_ret ?_
          obtain rfl := Option.some.inj H
          refine at_done (vs := [.int .i64 0]) (obs := []) (.inl rfl) [.tmp 4] [] rfl (by kernel_rfl) (fun w hs => trivial) (fun w hs => ⟨_, _, [], rfl, ⟨rfl, rfl⟩, hle, hs⟩)

/-! ### internal/bytealg.CompareString: function 42 -/
def bytealg_CompareString (p96 : List UInt8) (p97 : List UInt8) : Option Int := some (Lib.compareBytes p96 p97)
set_option maxHeartbeats 4000000 in
set_option maxRecDepth 100000 in
theorem bytealg_CompareString.calls {p96 : List UInt8} {p97 : List UInt8} {r : Int} {I0 : Imm} (H : bytealg_CompareString p96 p97 = some r) :
    Meets Try.prog 42 ([str p96, str p97] : List Value).toArray I0 [] (fun v J M => v = .int .i64 r ∧ M = []) := by
  have hle := ImmLe.refl I0
  unfold bytealg_CompareString at H
  refine fn_intro (fn := Try.f42) 8 Try.func42 rfl rfl rfl (fun E Fs => ?_)
  refine at_seq ?_
  refine at_reg [] [0, 1] (L2 := [(0, str p96), (1, str p97)]) (obs := []) (by kernel_rfl) ?_ ?_
  · intro w hs; exact trivial
  refine at_thn ?_
  refine at_seq ?_
  refine at_ops [0, 1, 2, 3] rfl ?_
  refine at_seg [0, 1] [2, 3] rfl [] [5, 6] (L2 := [(5, str p96), (6, str p97)]) (obs := []) (by kernel_rfl) ?_ ?_
  · intro w hs; exact trivial
  refine at_eff rfl rfl ?_
  refine eff_cmpString (fn := Try.f46) rfl rfl Try.func46 (by kernel_rfl) (by kernel_rfl) (by kernel_rfl) (by kernel_rfl) rfl rfl ?_
  refine at_seg [3] [] rfl [] [4] (L2 := [(4, .int .i64 (Lib.compareBytes p96 p97))]) (obs := []) (by kernel_rfl) ?_ ?_
  · intro w hs; exact trivial
  refine at_end ?_
  refine at_thn ?_
  refine at_ret ?_
  obtain rfl := Option.some.inj H
  refine at_done (vs := [.int .i64 (Lib.compareBytes p96 p97)]) (obs := []) (.inl rfl) [.tmp 4] [] rfl (by kernel_rfl) (fun w hs => trivial) (fun w hs => ⟨_, _, [], rfl, ⟨rfl, rfl⟩, hle, hs⟩)

/-! ### strings.Compare: function 34 -/
def strings_Compare (p94 : List UInt8) (p95 : List UInt8) : Option Int := (bytealg_CompareString p94 p95).bind fun b7 => (some b7)
set_option maxHeartbeats 4000000 in
set_option maxRecDepth 100000 in
theorem strings_Compare.calls {p94 : List UInt8} {p95 : List UInt8} {r : Int} {I0 : Imm} (H : strings_Compare p94 p95 = some r) :
    Meets Try.prog 34 ([str p94, str p95] : List Value).toArray I0 [] (fun v J M => v = .int .i64 r ∧ M = []) := by
  have hle := ImmLe.refl I0
  unfold strings_Compare at H
  refine fn_intro (fn := Try.f34) 8 Try.func34 rfl rfl rfl (fun E Fs => ?_)
  refine at_seq ?_
  refine at_reg [] [0, 1] (L2 := [(0, str p94), (1, str p95)]) (obs := []) (by kernel_rfl) ?_ ?_
  · intro w hs; exact trivial
  refine at_thn ?_
  refine at_seq ?_
  refine at_ops [0, 1, 2, 3] rfl ?_
  refine at_seg [0, 1] [2, 3] rfl [] [5, 6] (L2 := [(5, str p94), (6, str p95)]) (obs := []) (by kernel_rfl) ?_ ?_
  · intro w hs; exact trivial
  refine at_eff rfl rfl ?_
  obtain ⟨b7, H96, H⟩ := bind_some H
  have hm_ := bytealg_CompareString.calls (I0 := I0) H96
  refine eff_call rfl rfl ok42 rfl rfl (show Meets Try.prog 42 ([str p94, str p95] : List Value).toArray _ [] _ from hm_) (Mr := (Fs)) (List.Perm.refl _) (fun v97 J98 M99 hq100 hJ101 => ?_)
  replace hle := hle.trans hJ101
  obtain ⟨rfl, rfl⟩ := hq100
  refine at_seg [3] [] rfl [] [4] (L2 := [(4, .int .i64 b7)]) (obs := []) (by kernel_rfl) ?_ ?_
  · intro w hs; exact trivial
  refine at_end ?_
  refine at_thn ?_
  refine at_ret ?_
  obtain rfl := Option.some.inj H
  refine at_done (vs := [.int .i64 b7]) (obs := []) (.inl rfl) [.tmp 4] [] rfl (by kernel_rfl) (fun w hs => trivial) (fun w hs => ⟨_, _, [], rfl, ⟨rfl, rfl⟩, hle, hs⟩)

/-! ### cmp.Or[int]: function 32 -/
def cmp_Or_int_l0 : Nat → Int → (List Int) → Option Int
  | 0, _, _ => none
  | k + 1, x106, p102 => if x106 < (p102.length : Int) then (if 0 ≤ x106 then (if (rdA 0 p102 x106) = 0 then (cmp_Or_int_l0 k (IntKind.i64.wrap (x106 + 1)) p102) else (some (rdA 0 p102 x106))) else none) else (some 0)
def cmp_Or_int (k : Nat) (p102 : List Int) : Option Int := cmp_Or_int_l0 k 0 p102
set_option maxHeartbeats 4000000 in
set_option maxRecDepth 100000 in
theorem cmp_Or_int.calls {k : Nat} {p102 : List Int} {r : Int} {I0 : Imm} {A103 : Option Addr} {c104 : Nat} (H : cmp_Or_int k p102 = some r) (hr105 : Rd (Kd.int .i64) I0 A103 c104 p102) :
    Meets Try.prog 32 ([.slice A103 p102.length c104] : List Value).toArray I0 [] (fun v J M => v = .int .i64 r ∧ M = []) := by
  have hle := ImmLe.refl I0
  unfold cmp_Or_int at H
  refine fn_intro (fn := Try.f32) 18 Try.func32 rfl rfl rfl (fun E Fs => ?_)
  refine at_seq ?_
  refine at_reg [] [0] (L2 := [(0, .slice A103 p102.length c104)]) (obs := []) (by kernel_rfl) ?_ ?_
  · intro w hs; exact trivial
  refine at_thn ?_
  refine at_seq ?_
  refine at_reg [] [0, 3] (L2 := [(0, .slice A103 p102.length c104), (3, .int .i64 0)]) (obs := []) (by kernel_rfl) ?_ ?_
  · intro w hs; exact trivial
  refine at_thn ?_
  refine at_seq ?_
  refine at_seq ?_
  refine at_reg [] [3, 6, 7, 8] (L2 := [(3, .int .i64 0), (6, .slice A103 p102.length c104), (7, .int .i64 (p102.length : Int)), (8, .int .i64 0)]) (obs := []) (by kernel_rfl) ?_ ?_
  · intro w hs; exact trivial
  refine at_thn ?_
  refine at_block ?_
  refine at_keep [3, 6, 7, 8] (L2 := [(3, .int .i64 0), (6, .slice A103 p102.length c104), (7, .int .i64 (p102.length : Int)), (8, .int .i64 0)]) rfl ?_
  refine at_loop (fun k107 L I Ms => ∃ (x106 : Int), L = [(3, .int .i64 0), (6, .slice A103 p102.length c104), (7, .int .i64 (p102.length : Int)), (8, .int .i64 x106)] ∧ Ms = ([] ++ Fs) ∧ cmp_Or_int_l0 k107 x106 p102 = some r ∧ ImmLe I0 I ∧ k107 ≤ k ∧ Rd (Kd.int .i64) I A103 c104 p102) ?_ ?_ k ⟨0, rfl, rfl, H, hle, Nat.le_refl _, hr105⟩
  · rintro L I Ms ⟨_, rfl, rfl, H, _⟩; exact no_none H
  · clear H hle hr105
    intro k107 ih108 L I Ms h_; obtain ⟨x106, hL_, hM_, H, hle, hk109, hr105⟩ := h_; rw [hL_, hM_]; clear hL_ hM_ L Ms
    rw [cmp_Or_int_l0] at H
    refine at_seq ?_
    refine at_reg [] [3, 6, 7, 8, 9] (L2 := [(3, .int .i64 0), (6, .slice A103 p102.length c104), (7, .int .i64 (p102.length : Int)), (8, .int .i64 x106), (9, .bool (decide (x106 < (p102.length : Int))))]) (obs := []) (by kernel_rfl) ?_ ?_
    · intro w hs; exact trivial
    refine at_thn ?_
    refine at_seq ?_
    by_cases h110 : x106 < (p102.length : Int)
    · rw [if_pos h110] at H
      refine at_cond_t rfl (decide_eq_true h110) ?_
      refine at_skip ?_
      refine at_thn ?_
      refine at_seq ?_
      refine at_block ?_
      refine at_seq ?_
      obtain ⟨h111, H⟩ := ite_some H
      refine at_reg [(1, .int .i64 (rdA 0 p102 x106))] [3, 5, 6, 7, 8] (L2 := [(3, .int .i64 0), (5, .int .i64 (rdA 0 p102 x106)), (6, .slice A103 p102.length c104), (7, .int .i64 (p102.length : Int)), (8, .int .i64 x106)]) (obs := [fun _ => A103.isSome = true ∧ 0 ≤ x106 ∧ x106 < ((p102.length : Nat) : Int), fun w => w.cell? ((A103.getD ad0).add (x106.toNat * 1)) = some (.int .i64 (rdA 0 p102 x106))]) (by kernel_rfl) ?_ ?_
      · intro w hs; exact ⟨⟨hr105.ne x106 h111 h110, h111, h110⟩, hr105.one 0 x106 h111 h110 hs⟩
      refine at_thn ?_
      refine at_seq ?_
      refine at_reg [] [3, 5, 6, 7, 8, 14] (L2 := [(3, .int .i64 0), (5, .int .i64 (rdA 0 p102 x106)), (6, .slice A103 p102.length c104), (7, .int .i64 (p102.length : Int)), (8, .int .i64 x106), (14, .bool ((rdA 0 p102 x106) != 0))]) (obs := []) (by kernel_rfl) ?_ ?_
      · intro w hs; exact trivial
      refine at_thn ?_
      by_cases h112 : (rdA 0 p102 x106) = 0
      · rw [if_pos h112] at H
        refine at_cond_f rfl (bne_eq_false_iff_eq.2 h112) ?_
        refine at_skip ?_
        refine at_in_norm ?_
        refine at_thn ?_
        refine at_reg [] [3, 6, 7, 8] (L2 := [(3, .int .i64 0), (6, .slice A103 p102.length c104), (7, .int .i64 (p102.length : Int)), (8, .int .i64 (IntKind.i64.wrap (x106 + 1)))]) (obs := []) (by kernel_rfl) ?_ ?_
        · intro w hs; exact trivial
        refine at_thn ?_
        refine at_keep [3, 6, 7, 8] (L2 := [(3, .int .i64 0), (6, .slice A103 p102.length c104), (7, .int .i64 (p102.length : Int)), (8, .int .i64 (IntKind.i64.wrap (x106 + 1)))]) rfl ?_
        exact ih108 _ (by omega) _ _ _ ⟨IntKind.i64.wrap (x106 + 1), rfl, rfl, H, hle, by omega, hr105⟩
      · rw [if_neg h112] at H
        refine at_cond_t rfl (bne_iff_ne.2 h112) ?_
        refine at_seq ?_
        refine at_reg [] [2] (L2 := [(2, .int .i64 (rdA 0 p102 x106))]) (obs := []) (by kernel_rfl) ?_ ?_
        · intro w hs; exact trivial
        refine at_thn ?_
        refine at_ret ?_
        refine at_in_ret ?_
        refine at_then_ret ?_
        refine at_then_ret ?_
        refine at_in_ret ?_
        refine at_then_ret ?_
        obtain rfl := Option.some.inj H
        refine at_done (vs := [.int .i64 (rdA 0 p102 x106)]) (obs := []) (.inl rfl) [.tmp 2] [] rfl (by kernel_rfl) (fun w hs => trivial) (fun w hs => ⟨_, _, [], rfl, ⟨rfl, rfl⟩, hle, hs⟩)
    · rw [if_neg h110] at H
      refine at_cond_f rfl (decide_eq_false h110) ?_
      refine at_exit ?_
      refine at_then_exit ?_
      refine at_then_exit ?_
      refine at_in_hit ?_
      refine at_thn ?_
      refine at_seq ?_
      refine at_reg [] [2] (L2 := [(2, .int .i64 0)]) (obs := []) (by kernel_rfl) ?_ ?_
      · intro w hs; exact trivial
      refine at_thn ?_
      refine at_ret ?_
      obtain rfl := Option.some.inj H
      refine at_done (vs := [.int .i64 0]) (obs := []) (.inl rfl) [.tmp 2] [] rfl (by kernel_rfl) (fun w hs => trivial) (fun w hs => ⟨_, _, [], rfl, ⟨rfl, rfl⟩, hle, hs⟩)

/-! ### loop.example/g00146/impl.compareKeys: function 19 -/
def impl_compareKeys (k : Nat) (p84 : T_impl_Key) (p85 : T_impl_Key) : Option Int := (cmp_Compare_int64 p84.Map p85.Map).bind fun b6 => ((strings_Compare p84.Keys p85.Keys).bind fun b7 => ((cmp_Or_int k ([b6, b7] : List Int)).bind fun b8 => (some b8)))
set_option maxHeartbeats 4000000 in
set_option maxRecDepth 100000 in
theorem impl_compareKeys.calls {k : Nat} {p84 : T_impl_Key} {p85 : T_impl_Key} {r : Int} {I0 : Imm} (H : impl_compareKeys k p84 p85 = some r) :
    Meets Try.prog 19 ([.agg #[.int .i64 p84.Map, str p84.Keys, str p84.Name], .agg #[.int .i64 p85.Map, str p85.Keys, str p85.Name]] : List Value).toArray I0 [] (fun v J M => v = .int .i64 r ∧ M = []) := by
  have hle := ImmLe.refl I0
  unfold impl_compareKeys at H
  refine fn_intro (fn := Try.f19) 17 Try.func19 rfl rfl rfl (fun E Fs => ?_)
  refine at_seq ?_
  refine at_ops [0, 1, 2] rfl ?_
  refine at_eff rfl rfl ?_
  refine eff_box rfl rfl rfl #[.int .i64 p84.Map, str p84.Keys, str p84.Name] rfl (fun g86 => ?_)
  refine at_eff rfl rfl ?_
  refine eff_box rfl rfl rfl #[.int .i64 p85.Map, str p85.Keys, str p85.Name] rfl (fun g87 => ?_)
  refine at_seg [2] [] rfl [] [2, 3] (L2 := [(2, .pointer (some ⟨g86, 0, none⟩)), (3, .pointer (some ⟨g87, 0, none⟩))]) (obs := []) (by kernel_rfl) ?_ ?_
  · intro w hs; exact trivial
  refine at_end ?_
  refine at_thn ?_
  refine at_seq ?_
  refine at_x hmo (fun w => w.cell? ⟨g86, 0, none⟩ = some (.int .i64 p84.Map) ∧ w.cell? ⟨g87, 0, none⟩ = some (.int .i64 p85.Map) ∧ w.cell? ⟨g86, 1, none⟩ = some (str p84.Keys) ∧ w.cell? ⟨g87, 1, none⟩ = some (str p85.Keys)) [] ?_
  refine at_xseg [0, 1, 2, 3, 5, 6, 7, 8] 5 (#[true, true, true, true, false, true, true, true, true, false, false, false, false]) rfl (by kernel_rfl) [(1, .int .i64 p84.Map), (3, .int .i64 p85.Map), (6, str p84.Keys), (8, str p85.Keys)] [6, 8, 11, 13] (L2 := [(6, .int .i64 p84.Map), (8, .int .i64 p85.Map), (11, str p84.Keys), (13, str p85.Keys)]) (obs := [fun w => w.cell? ⟨g86, 0, none⟩ = some (.int .i64 p84.Map), fun w => w.cell? ⟨g87, 0, none⟩ = some (.int .i64 p85.Map), fun w => w.cell? ⟨g86, 1, none⟩ = some (str p84.Keys), fun w => w.cell? ⟨g87, 1, none⟩ = some (str p85.Keys)]) (by kernel_rfl) (by kernel_rfl) (by kernel_rfl) (.inr fun w hs => ⟨hs.var (k := 1) rfl 0 rfl, hs.var (k := 0) rfl 0 rfl, hs.var (k := 1) rfl 1 rfl, hs.var (k := 0) rfl 1 rfl⟩) (fun w hS => ⟨hS.1, hS.2.1, hS.2.2.1, hS.2.2.2⟩) (fun w hs => ⟨hs.var (k := 1) rfl 0 rfl, hs.var (k := 0) rfl 0 rfl, hs.var (k := 1) rfl 1 rfl, hs.var (k := 0) rfl 1 rfl⟩) ?_
  refine at_x1 4 4 (#[true, true, true, true, true, true, true, true, true, false, false, false, false]) rfl (by kernel_rfl) (by kernel_rfl) rfl rfl ?_
  obtain ⟨b6, H88, H⟩ := bind_some H
  have hm_ := cmp_Compare_int64.calls (I0 := I0) H88
  refine eff_call rfl rfl ok33 rfl rfl (show Meets Try.prog 33 ([.int .i64 p84.Map, .int .i64 p85.Map] : List Value).toArray _ [] _ from hm_) (Mr := ([(g87, .cells #[.int .i64 p85.Map, str p85.Keys, str p85.Name] 25 (0, 0))] :: [(g86, .cells #[.int .i64 p84.Map, str p84.Keys, str p84.Name] 25 (0, 0))] :: Fs)) (List.Perm.refl _) (fun v89 J90 M91 hq92 hJ93 => ?_)
  replace hle := hle.trans hJ93
  obtain ⟨rfl, rfl⟩ := hq92
  refine at_xS (fun w hs => ⟨hs.var (k := 1) rfl 0 rfl, hs.var (k := 0) rfl 0 rfl, hs.var (k := 1) rfl 1 rfl, hs.var (k := 0) rfl 1 rfl⟩) ?_
  refine at_x1 3 9 (#[true, true, true, true, true, true, true, true, true, true, false, false, false]) rfl (by kernel_rfl) (by kernel_rfl) rfl rfl ?_
  obtain ⟨b7, H94, H⟩ := bind_some H
  have hm_ := strings_Compare.calls (I0 := J90) H94
  refine eff_call rfl rfl ok34 rfl rfl (show Meets Try.prog 34 ([str p84.Keys, str p85.Keys] : List Value).toArray _ [] _ from hm_) (Mr := ([(g87, .cells #[.int .i64 p85.Map, str p85.Keys, str p85.Name] 25 (0, 0))] :: [(g86, .cells #[.int .i64 p84.Map, str p84.Keys, str p84.Name] 25 (0, 0))] :: Fs)) (List.Perm.refl _) (fun v95 J96 M97 hq98 hJ99 => ?_)
  replace hle := hle.trans hJ99
  obtain ⟨rfl, rfl⟩ := hq98
  refine at_xS (fun w hs => ⟨hs.var (k := 1) rfl 0 rfl, hs.var (k := 0) rfl 0 rfl, hs.var (k := 1) rfl 1 rfl, hs.var (k := 0) rfl 1 rfl⟩) ?_
  refine at_x1 2 10 (#[true, true, true, true, true, true, true, true, true, true, true, false, false]) rfl (by kernel_rfl) (by kernel_rfl) rfl rfl ?_
  refine eff_buildSlice (e := 3) (cells := #[.int .i64 b6, .int .i64 b7]) ([b6, b7] : List Int).length rfl rfl rfl (by kernel_rfl) (fun g100 => ?_)
  have ho101 := own_lit (K := (Kd.int .i64)) (e := 3) (I := J96) (xs := ([b6, b7] : List Int)) (css := [[.int .i64 b6], [.int .i64 b7]]) (cells := #[.int .i64 b6, .int .i64 b7]) (b := g100) ⟨rfl, ⟨rfl, trivial⟩⟩ rfl
  refine at_xS (fun w hs => ⟨hs.var (k := 2) rfl 0 rfl, hs.var (k := 1) rfl 0 rfl, hs.var (k := 2) rfl 1 rfl, hs.var (k := 1) rfl 1 rfl⟩) ?_
  refine at_x1 1 11 (#[true, true, true, true, true, true, true, true, true, true, true, true, false]) rfl (by kernel_rfl) (by kernel_rfl) rfl rfl ?_
  obtain ⟨b8, H102, H⟩ := bind_some H
  refine eff_read rfl rfl (rv := .int .i64 b8) (Ms' := ([(g100, .cells #[.int .i64 b6, .int .i64 b7] 3 (0, 0))] :: [(g87, .cells #[.int .i64 p85.Map, str p85.Keys, str p85.Name] 25 (0, 0))] :: [(g86, .cells #[.int .i64 p84.Map, str p84.Keys, str p84.Name] 25 (0, 0))] :: Fs)) ok32 rfl rfl ?_ ?_
  · refine Reads.lend (k := 0) rfl (fun J103 hJ104 hin105 => ?_)
    exact Reads.of_meets (Mr := ([(g87, .cells #[.int .i64 p85.Map, str p85.Keys, str p85.Name] 25 (0, 0))] :: [(g86, .cells #[.int .i64 p84.Map, str p84.Keys, str p84.Name] 25 (0, 0))] :: Fs)) (show Meets Try.prog 32 ([.slice (some ⟨g100, 0, none⟩ : Option Addr) ([b6, b7] : List Int).length (([b6, b7] : List Int).length)] : List Value).toArray J103 [] _ from cmp_Or_int.calls (I0 := J103) H102 (ho101.rd hJ104 hin105)) (List.Perm.refl _)
  refine at_xS (fun w hs => ⟨hs.var (k := 2) rfl 0 rfl, hs.var (k := 1) rfl 0 rfl, hs.var (k := 2) rfl 1 rfl, hs.var (k := 1) rfl 1 rfl⟩) ?_
  refine at_xseg [12] 0 (#[true, true, true, true, true, true, true, true, true, true, true, true, true]) rfl (by kernel_rfl) [] [4] (L2 := [(4, .int .i64 b8)]) (obs := []) (by kernel_rfl) (by kernel_rfl) (by kernel_rfl) (.inr fun w hs => ⟨hs.var (k := 2) rfl 0 rfl, hs.var (k := 1) rfl 0 rfl, hs.var (k := 2) rfl 1 rfl, hs.var (k := 1) rfl 1 rfl⟩) (fun w hS => trivial) (fun w hs => trivial) ?_
  refine at_xend (by kernel_rfl) ?_
  refine at_thn ?_
  refine at_ret ?_
  obtain rfl := Option.some.inj H
  refine at_drop (k := 0) rfl rfl ?_
  refine at_drop (k := 0) rfl rfl ?_
  refine at_drop (k := 0) rfl rfl ?_
  refine at_done (vs := [.int .i64 b8]) (obs := []) (.inl rfl) [.tmp 4] [] rfl (by kernel_rfl) (fun w hs => trivial) (fun w hs => ⟨_, _, [], rfl, ⟨rfl, rfl⟩, hle, hs⟩)
end Go.Proofs.Ytloojlhlfhmoeaa
