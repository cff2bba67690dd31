import Derived.Test.YtnhnipdanpcbeaaG7
namespace Go.Proofs.Ytnhnipdanpcbeaa
open Go Eng
set_option linter.unusedVariables false
set_option linter.unusedSimpArgs false
/-! ### loop.example/g00146/spec.l01Point: function 49 -/
def spec_l01Point (p59 : Int) : Option Bool := if p59 ≥ 0 then (if p59 ≤ 1114111 then (if p59 ≥ 55296 then (some (!(decide (p59 ≤ 57343)))) else (some true)) else (some false)) else (some false)
set_option maxHeartbeats 4000000 in
set_option maxRecDepth 100000 in
theorem spec_l01Point.calls {p59 : Int} {r : Bool} {I0 : Imm} (H : spec_l01Point p59 = some r) :
    Meets Try.prog 49 ([.int .i64 p59] : List Value).toArray I0 [] (fun v J M => v = .bool r ∧ M = []) := by
  have hle := ImmLe.refl I0
  unfold spec_l01Point at H
  refine fn_intro (fn := Try.f49) 18 Try.func49 rfl rfl rfl (fun E Fs => ?_)
  refine at_seq ?_
  refine at_reg [] [0] (L2 := [(0, .int .i64 p59)]) (obs := []) (by kernel_rfl) ?_ ?_
  · intro w hs; exact trivial
  refine at_thn ?_
  refine at_seq ?_
  by_cases h60 : p59 ≥ 0
  · rw [if_pos h60] at H
    by_cases h61 : p59 ≤ 1114111
    · rw [if_pos h61] at H
      by_cases h62 : p59 ≥ 55296
      · rw [if_pos h62] at H
        refine at_reg [(2, .bool true), (6, .bool true), (9, .bool true)] [2] (L2 := [(2, .bool (!(decide (p59 ≤ 57343))))]) (obs := [fun _ => (.bool (decide (p59 ≥ 0)) : Value) = .bool true, fun _ => (.bool (decide (p59 ≤ 1114111)) : Value) = .bool true, fun _ => (.bool (decide (p59 ≥ 55296)) : Value) = .bool true]) (by kernel_rfl) ?_ ?_
        · intro w hs; exact ⟨congrArg Value.bool (decide_eq_true h60), congrArg Value.bool (decide_eq_true h61), congrArg Value.bool (decide_eq_true h62)⟩
        refine at_thn ?_
        refine at_ret ?_
        obtain rfl := Option.some.inj H
        refine at_done (vs := [.bool (!(decide (p59 ≤ 57343)))]) (obs := []) (.inl rfl) [.tmp 2] [] rfl (by kernel_rfl) (fun w hs => trivial) (fun w hs => ⟨_, _, [], rfl, ⟨rfl, rfl⟩, hle, hs⟩)
      · rw [if_neg h62] at H
        refine at_reg [(2, .bool true), (6, .bool true), (9, .bool false)] [2] (L2 := [(2, .bool true)]) (obs := [fun _ => (.bool (decide (p59 ≥ 0)) : Value) = .bool true, fun _ => (.bool (decide (p59 ≤ 1114111)) : Value) = .bool true, fun _ => (.bool (decide (p59 ≥ 55296)) : Value) = .bool false]) (by kernel_rfl) ?_ ?_
        · intro w hs; exact ⟨congrArg Value.bool (decide_eq_true h60), congrArg Value.bool (decide_eq_true h61), congrArg Value.bool (decide_eq_false h62)⟩
        refine at_thn ?_
        refine at_ret ?_
        obtain rfl := Option.some.inj H
        refine at_done (vs := [.bool true]) (obs := []) (.inl rfl) [.tmp 2] [] rfl (by kernel_rfl) (fun w hs => trivial) (fun w hs => ⟨_, _, [], rfl, ⟨rfl, rfl⟩, hle, hs⟩)
    · rw [if_neg h61] at H
      refine at_reg [(2, .bool true), (6, .bool false)] [2] (L2 := [(2, .bool false)]) (obs := [fun _ => (.bool (decide (p59 ≥ 0)) : Value) = .bool true, fun _ => (.bool (decide (p59 ≤ 1114111)) : Value) = .bool false]) (by kernel_rfl) ?_ ?_
      · intro w hs; exact ⟨congrArg Value.bool (decide_eq_true h60), congrArg Value.bool (decide_eq_false h61)⟩
      refine at_thn ?_
      refine at_ret ?_
      obtain rfl := Option.some.inj H
      refine at_done (vs := [.bool false]) (obs := []) (.inl rfl) [.tmp 2] [] rfl (by kernel_rfl) (fun w hs => trivial) (fun w hs => ⟨_, _, [], rfl, ⟨rfl, rfl⟩, hle, hs⟩)
  · rw [if_neg h60] at H
    refine at_reg [(2, .bool false)] [2] (L2 := [(2, .bool false)]) (obs := [fun _ => (.bool (decide (p59 ≥ 0)) : Value) = .bool false]) (by kernel_rfl) ?_ ?_
    · intro w hs; exact congrArg Value.bool (decide_eq_false h60)
    refine at_thn ?_
    refine at_ret ?_
    obtain rfl := Option.some.inj H
    refine at_done (vs := [.bool false]) (obs := []) (.inl rfl) [.tmp 2] [] rfl (by kernel_rfl) (fun w hs => trivial) (fun w hs => ⟨_, _, [], rfl, ⟨rfl, rfl⟩, hle, hs⟩)

/-! ### loop.example/g00146/spec.PointsRight: function 24 -/
def spec_PointsRight_l0 : Nat → Int → (List Int) → Option Bool
  | 0, _, _ => none
  | k + 1, x57, p52 => if x57 < (p52.length : Int) then (if 0 ≤ x57 then ((spec_l01Point (rdA 0 p52 x57)).bind fun b4 => (if b4 = true then (spec_PointsRight_l0 k (IntKind.i64.wrap (x57 + 1)) p52) else (some false))) else none) else (some true)
def spec_PointsRight (k : Nat) (p52 : List Int) : Option Bool := if (p52.length : Int) > 300 then (some false) else (spec_PointsRight_l0 k 0 p52)
set_option maxHeartbeats 4000000 in
set_option maxRecDepth 100000 in
theorem spec_PointsRight.calls {k : Nat} {p52 : List Int} {r : Bool} {I0 : Imm} {A53 : Option Addr} {c54 : Nat} (H : spec_PointsRight k p52 = some r) (hr55 : Rd (Kd.int .i64) I0 A53 c54 p52) :
    Meets Try.prog 24 ([.slice A53 p52.length c54] : List Value).toArray I0 [] (fun v J M => v = .bool r ∧ M = []) := by
  have hle := ImmLe.refl I0
  unfold spec_PointsRight at H
  refine fn_intro (fn := Try.f24) 19 Try.func24 rfl rfl rfl (fun E Fs => ?_)
  refine at_seq ?_
  refine at_reg [] [0] (L2 := [(0, .slice A53 p52.length c54)]) (obs := []) (by kernel_rfl) ?_ ?_
  · intro w hs; exact trivial
  refine at_thn ?_
  refine at_seq ?_
  refine at_seq ?_
  refine at_reg [] [0, 6] (L2 := [(0, .slice A53 p52.length c54), (6, .bool (decide ((p52.length : Int) > 300)))]) (obs := []) (by kernel_rfl) ?_ ?_
  · intro w hs; exact trivial
  refine at_thn ?_
  by_cases h56 : (p52.length : Int) > 300
  · rw [if_pos h56] at H
    refine at_cond_t rfl (decide_eq_true h56) ?_
    refine at_seq ?_
    refine at_reg [] [2] (L2 := [(2, .bool false)]) (obs := []) (by kernel_rfl) ?_ ?_
    · intro w hs; exact trivial
    refine at_thn ?_
    refine at_ret ?_
    refine at_then_ret ?_
    obtain rfl := Option.some.inj H
    refine at_done (vs := [.bool false]) (obs := []) (.inl rfl) [.tmp 2] [] rfl (by kernel_rfl) (fun w hs => trivial) (fun w hs => ⟨_, _, [], rfl, ⟨rfl, rfl⟩, hle, hs⟩)
  · rw [if_neg h56] at H
    refine at_cond_f rfl (decide_eq_false h56) ?_
    refine at_skip ?_
    refine at_thn ?_
    refine at_seq ?_
    refine at_seq ?_
    refine at_reg [] [0, 3] (L2 := [(0, .slice A53 p52.length c54), (3, .int .i64 0)]) (obs := []) (by kernel_rfl) ?_ ?_
    · intro w hs; exact trivial
    refine at_thn ?_
    refine at_block ?_
    refine at_keep [0, 3] (L2 := [(0, .slice A53 p52.length c54), (3, .int .i64 0)]) rfl ?_
    refine at_loop (fun k58 L I Ms => ∃ (x57 : Int), L = [(0, .slice A53 p52.length c54), (3, .int .i64 x57)] ∧ Ms = ([] ++ Fs) ∧ spec_PointsRight_l0 k58 x57 p52 = some r ∧ ImmLe I0 I ∧ k58 ≤ k ∧ Rd (Kd.int .i64) I A53 c54 p52) ?_ ?_ k ⟨0, rfl, rfl, H, hle, Nat.le_refl _, hr55⟩
    · rintro L I Ms ⟨_, rfl, rfl, H, _⟩; exact no_none H
    · clear H hle hr55
      intro k58 ih59 L I Ms h_; obtain ⟨x57, hL_, hM_, H, hle, hk60, hr55⟩ := h_; rw [hL_, hM_]; clear hL_ hM_ L Ms
      rw [spec_PointsRight_l0] at H
      refine at_seq ?_
      refine at_seq ?_
      refine at_reg [] [0, 3, 10] (L2 := [(0, .slice A53 p52.length c54), (3, .int .i64 x57), (10, .bool (decide (x57 < (p52.length : Int))))]) (obs := []) (by kernel_rfl) ?_ ?_
      · intro w hs; exact trivial
      refine at_thn ?_
      by_cases h61 : x57 < (p52.length : Int)
      · rw [if_pos h61] at H
        refine at_cond_t rfl (decide_eq_true h61) ?_
        refine at_skip ?_
        refine at_thn ?_
        refine at_seq ?_
        refine at_block ?_
        refine at_seq ?_
        refine at_ops [0, 1, 2, 3, 4, 5] rfl ?_
        obtain ⟨h62, H⟩ := ite_some H
        refine at_seg [0, 1, 2, 3] [4, 5] rfl [(3, .int .i64 (rdA 0 p52 x57))] [0, 3, 16] (L2 := [(0, .slice A53 p52.length c54), (3, .int .i64 x57), (16, .int .i64 (rdA 0 p52 x57))]) (obs := [fun _ => A53.isSome = true ∧ 0 ≤ x57 ∧ x57 < ((p52.length : Nat) : Int), fun w => w.cell? ((A53.getD ad0).add (x57.toNat * 1)) = some (.int .i64 (rdA 0 p52 x57))]) (by kernel_rfl) ?_ ?_
        · intro w hs; exact ⟨⟨hr55.ne x57 h62 h61, h62, h61⟩, hr55.one 0 x57 h62 h61 hs⟩
        refine at_eff rfl rfl ?_
        obtain ⟨b4, H63, H⟩ := bind_some H
        have hm_ := spec_l01Point.calls (I0 := I) H63
        refine eff_call rfl rfl ok49 rfl rfl (show Meets Try.prog 49 ([.int .i64 (rdA 0 p52 x57)] : List Value).toArray _ [] _ from hm_) (Mr := (Fs)) (List.Perm.refl _) (fun v64 J65 M66 hq67 hJ68 => ?_)
        replace hle := hle.trans hJ68
        replace hr55 := hr55.mono hJ68
        obtain ⟨rfl, rfl⟩ := hq67
        refine at_seg [5] [] rfl [] [0, 3, 18] (L2 := [(0, .slice A53 p52.length c54), (3, .int .i64 x57), (18, .bool (!b4))]) (obs := []) (by kernel_rfl) ?_ ?_
        · intro w hs; exact trivial
        refine at_end ?_
        refine at_thn ?_
        by_cases h69 : b4 = true
        · rw [if_pos h69] at H
          refine at_cond_f rfl (not_ff (h69)) ?_
          refine at_skip ?_
          refine at_in_norm ?_
          refine at_thn ?_
          refine at_reg [] [0, 3] (L2 := [(0, .slice A53 p52.length c54), (3, .int .i64 (IntKind.i64.wrap (x57 + 1)))]) (obs := []) (by kernel_rfl) ?_ ?_
          · intro w hs; exact trivial
          refine at_thn ?_
          refine at_keep [0, 3] (L2 := [(0, .slice A53 p52.length c54), (3, .int .i64 (IntKind.i64.wrap (x57 + 1)))]) rfl ?_
          exact ih59 _ (by omega) _ _ _ ⟨IntKind.i64.wrap (x57 + 1), rfl, rfl, H, hle, by omega, hr55⟩
        · rw [if_neg h69] at H
          refine at_cond_t rfl (not_tt (ff_of h69)) ?_
          refine at_seq ?_
          refine at_reg [] [2] (L2 := [(2, .bool false)]) (obs := []) (by kernel_rfl) ?_ ?_
          · intro w hs; exact trivial
          refine at_thn ?_
          refine at_ret ?_
          refine at_in_ret ?_
          refine at_then_ret ?_
          refine at_then_ret ?_
          refine at_in_ret ?_
          refine at_then_ret ?_
          obtain rfl := Option.some.inj H
          refine at_done (vs := [.bool false]) (obs := []) (.inl rfl) [.tmp 2] [] rfl (by kernel_rfl) (fun w hs => trivial) (fun w hs => ⟨_, _, [], rfl, ⟨rfl, rfl⟩, hle, hs⟩)
      · rw [if_neg h61] at H
        refine at_cond_f rfl (decide_eq_false h61) ?_
        refine at_exit ?_
        refine at_then_exit ?_
        refine at_then_exit ?_
        refine at_in_hit ?_
        refine at_thn ?_
        refine at_seq ?_
        refine at_reg [] [2] (L2 := [(2, .bool true)]) (obs := []) (by kernel_rfl) ?_ ?_
        · intro w hs; exact trivial
        refine at_thn ?_
        refine at_ret ?_
        obtain rfl := Option.some.inj H
        refine at_done (vs := [.bool true]) (obs := []) (.inl rfl) [.tmp 2] [] rfl (by kernel_rfl) (fun w hs => trivial) (fun w hs => ⟨_, _, [], rfl, ⟨rfl, rfl⟩, hle, hs⟩)

/-! ### loop.example/g00146/spec.BufRight: function 25 -/
def spec_BufRight (k : Nat) (p59 : T_impl_Buf) : Option Bool := (spec_PointsRight k p59.Points).bind fun b5 => (if b5 = true then (if p59.Cursor ≥ 0 then (if p59.Cursor ≤ (p59.Points.length : Int) then (if p59.Mark ≥ 0 then (some (decide (p59.Mark ≤ (p59.Points.length : Int)))) else (some false)) else (some false)) else (some false)) else (some false))
set_option maxHeartbeats 4000000 in
set_option maxRecDepth 100000 in
theorem spec_BufRight.calls {k : Nat} {p59 : T_impl_Buf} {r : Bool} {I0 : Imm} {A60 : Option Addr} {c61 : Nat} (H : spec_BufRight k p59 = some r) (hr62 : Rd (Kd.int .i64) I0 A60 c61 p59.Points) :
    Meets Try.prog 25 ([.agg #[.slice A60 p59.Points.length c61, .int .i64 p59.Cursor, .int .i64 p59.Mark]] : List Value).toArray I0 [] (fun v J M => v = .bool r ∧ M = []) := by
  have hle := ImmLe.refl I0
  unfold spec_BufRight at H
  refine fn_intro (fn := Try.f25) 32 Try.func25 rfl rfl rfl (fun E Fs => ?_)
  refine at_seq ?_
  refine at_ops [0, 1] rfl ?_
  refine at_eff rfl rfl ?_
  refine eff_box rfl rfl rfl #[.slice A60 p59.Points.length c61, .int .i64 p59.Cursor, .int .i64 p59.Mark] rfl (fun g63 => ?_)
  refine at_seg [1] [] rfl [] [1] (L2 := [(1, .pointer (some ⟨g63, 0, none⟩))]) (obs := []) (by kernel_rfl) ?_ ?_
  · intro w hs; exact trivial
  refine at_end ?_
  refine at_thn ?_
  refine at_seq ?_
  refine at_reg [(1, .slice A60 p59.Points.length c61)] [1, 3] (L2 := [(1, .pointer (some ⟨g63, 0, none⟩)), (3, .int .i64 (p59.Points.length : Int))]) (obs := [fun w => w.cell? ⟨g63, 0, none⟩ = some (.slice A60 p59.Points.length c61)]) (by kernel_rfl) ?_ ?_
  · intro w hs; exact hs.var (k := 0) rfl 0 rfl
  refine at_thn ?_
  refine at_seq ?_
  refine at_ops [0, 1, 2, 3, 4, 5, 6, 7, 8, 9, 10, 11, 12, 13, 14, 15, 16, 17, 18, 19, 20, 21, 22, 23, 24, 25] rfl ?_
  refine at_seg [0, 1] [2, 3, 4, 5, 6, 7, 8, 9, 10, 11, 12, 13, 14, 15, 16, 17, 18, 19, 20, 21, 22, 23, 24, 25] rfl [(1, .slice A60 p59.Points.length c61)] [1, 3, 8] (L2 := [(1, .pointer (some ⟨g63, 0, none⟩)), (3, .int .i64 (p59.Points.length : Int)), (8, .slice A60 p59.Points.length c61)]) (obs := [fun w => w.cell? ⟨g63, 0, none⟩ = some (.slice A60 p59.Points.length c61)]) (by kernel_rfl) ?_ ?_
  · intro w hs; exact hs.var (k := 0) rfl 0 rfl
  refine at_eff rfl rfl ?_
  obtain ⟨b5, H64, H⟩ := bind_some H
  have hm_ := spec_PointsRight.calls (I0 := I0) H64 hr62
  refine eff_call rfl rfl ok24 rfl rfl (show Meets Try.prog 24 ([.slice A60 p59.Points.length c61] : List Value).toArray _ [] _ from hm_) (Mr := ([(g63, .cells #[.slice A60 p59.Points.length c61, .int .i64 p59.Cursor, .int .i64 p59.Mark] 25 (0, 0))] :: Fs)) (List.Perm.refl _) (fun v65 J66 M67 hq68 hJ69 => ?_)
  replace hle := hle.trans hJ69
  replace hr62 := hr62.mono hJ69
  obtain ⟨rfl, rfl⟩ := hq68
  by_cases h70 : b5 = true
  · rw [if_pos h70] at H
    by_cases h71 : p59.Cursor ≥ 0
    · rw [if_pos h71] at H
      by_cases h72 : p59.Cursor ≤ (p59.Points.length : Int)
      · rw [if_pos h72] at H
        by_cases h73 : p59.Mark ≥ 0
        · rw [if_pos h73] at H
          refine at_seg [3, 4, 5, 6, 7, 8, 9, 10, 11, 12, 13, 14, 15, 16, 17, 18, 19, 20, 21, 22, 23, 24, 25] [] rfl [(3, .bool true), (5, .int .i64 p59.Cursor), (8, .bool true), (10, .int .i64 p59.Cursor), (14, .bool true), (16, .int .i64 p59.Mark), (19, .bool true), (21, .int .i64 p59.Mark)] [2] (L2 := [(2, .bool (decide (p59.Mark ≤ (p59.Points.length : Int))))]) (obs := [fun _ => (.bool b5 : Value) = .bool true, fun w => w.cell? ⟨g63, 1, none⟩ = some (.int .i64 p59.Cursor), fun _ => (.bool (decide (p59.Cursor ≥ 0)) : Value) = .bool true, fun w => w.cell? ⟨g63, 1, none⟩ = some (.int .i64 p59.Cursor), fun _ => (.bool (decide (p59.Cursor ≤ (p59.Points.length : Int))) : Value) = .bool true, fun w => w.cell? ⟨g63, 2, none⟩ = some (.int .i64 p59.Mark), fun _ => (.bool (decide (p59.Mark ≥ 0)) : Value) = .bool true, fun w => w.cell? ⟨g63, 2, none⟩ = some (.int .i64 p59.Mark)]) (by kernel_rfl) ?_ ?_
          · intro w hs; exact ⟨congrArg Value.bool (h70), hs.var (k := 0) rfl 1 rfl, congrArg Value.bool (decide_eq_true h71), hs.var (k := 0) rfl 1 rfl, congrArg Value.bool (decide_eq_true h72), hs.var (k := 0) rfl 2 rfl, congrArg Value.bool (decide_eq_true h73), hs.var (k := 0) rfl 2 rfl⟩
          refine at_end ?_
          refine at_thn ?_
          refine at_ret ?_
          obtain rfl := Option.some.inj H
          refine at_drop (k := 0) rfl rfl ?_
          refine at_eqM (M1 := (Fs)) (M2 := (Fs)) rfl rfl ?_
          refine at_done (vs := [.bool (decide (p59.Mark ≤ (p59.Points.length : Int)))]) (obs := []) (.inl rfl) [.tmp 2] [] rfl (by kernel_rfl) (fun w hs => trivial) (fun w hs => ⟨_, _, [], rfl, ⟨rfl, rfl⟩, hle, hs⟩)
        · rw [if_neg h73] at H
          refine at_seg [3, 4, 5, 6, 7, 8, 9, 10, 11, 12, 13, 14, 15, 16, 17, 18, 19, 20, 21, 22, 23, 24, 25] [] rfl [(3, .bool true), (5, .int .i64 p59.Cursor), (8, .bool true), (10, .int .i64 p59.Cursor), (14, .bool true), (16, .int .i64 p59.Mark), (19, .bool false)] [2] (L2 := [(2, .bool false)]) (obs := [fun _ => (.bool b5 : Value) = .bool true, fun w => w.cell? ⟨g63, 1, none⟩ = some (.int .i64 p59.Cursor), fun _ => (.bool (decide (p59.Cursor ≥ 0)) : Value) = .bool true, fun w => w.cell? ⟨g63, 1, none⟩ = some (.int .i64 p59.Cursor), fun _ => (.bool (decide (p59.Cursor ≤ (p59.Points.length : Int))) : Value) = .bool true, fun w => w.cell? ⟨g63, 2, none⟩ = some (.int .i64 p59.Mark), fun _ => (.bool (decide (p59.Mark ≥ 0)) : Value) = .bool false]) (by kernel_rfl) ?_ ?_
          · intro w hs; exact ⟨congrArg Value.bool (h70), hs.var (k := 0) rfl 1 rfl, congrArg Value.bool (decide_eq_true h71), hs.var (k := 0) rfl 1 rfl, congrArg Value.bool (decide_eq_true h72), hs.var (k := 0) rfl 2 rfl, congrArg Value.bool (decide_eq_false h73)⟩
          refine at_end ?_
          refine at_thn ?_
          refine at_ret ?_
          obtain rfl := Option.some.inj H
          refine at_drop (k := 0) rfl rfl ?_
          refine at_eqM (M1 := (Fs)) (M2 := (Fs)) rfl rfl ?_
          refine at_done (vs := [.bool false]) (obs := []) (.inl rfl) [.tmp 2] [] rfl (by kernel_rfl) (fun w hs => trivial) (fun w hs => ⟨_, _, [], rfl, ⟨rfl, rfl⟩, hle, hs⟩)
      · rw [if_neg h72] at H
        refine at_seg [3, 4, 5, 6, 7, 8, 9, 10, 11, 12, 13, 14, 15, 16, 17, 18, 19, 20, 21, 22, 23, 24, 25] [] rfl [(3, .bool true), (5, .int .i64 p59.Cursor), (8, .bool true), (10, .int .i64 p59.Cursor), (14, .bool false)] [2] (L2 := [(2, .bool false)]) (obs := [fun _ => (.bool b5 : Value) = .bool true, fun w => w.cell? ⟨g63, 1, none⟩ = some (.int .i64 p59.Cursor), fun _ => (.bool (decide (p59.Cursor ≥ 0)) : Value) = .bool true, fun w => w.cell? ⟨g63, 1, none⟩ = some (.int .i64 p59.Cursor), fun _ => (.bool (decide (p59.Cursor ≤ (p59.Points.length : Int))) : Value) = .bool false]) (by kernel_rfl) ?_ ?_
        · intro w hs; exact ⟨congrArg Value.bool (h70), hs.var (k := 0) rfl 1 rfl, congrArg Value.bool (decide_eq_true h71), hs.var (k := 0) rfl 1 rfl, congrArg Value.bool (decide_eq_false h72)⟩
        refine at_end ?_
        refine at_thn ?_
        refine at_ret ?_
        obtain rfl := Option.some.inj H
        refine at_drop (k := 0) rfl rfl ?_
        refine at_eqM (M1 := (Fs)) (M2 := (Fs)) rfl rfl ?_
        refine at_done (vs := [.bool false]) (obs := []) (.inl rfl) [.tmp 2] [] rfl (by kernel_rfl) (fun w hs => trivial) (fun w hs => ⟨_, _, [], rfl, ⟨rfl, rfl⟩, hle, hs⟩)
    · rw [if_neg h71] at H
      refine at_seg [3, 4, 5, 6, 7, 8, 9, 10, 11, 12, 13, 14, 15, 16, 17, 18, 19, 20, 21, 22, 23, 24, 25] [] rfl [(3, .bool true), (5, .int .i64 p59.Cursor), (8, .bool false)] [2] (L2 := [(2, .bool false)]) (obs := [fun _ => (.bool b5 : Value) = .bool true, fun w => w.cell? ⟨g63, 1, none⟩ = some (.int .i64 p59.Cursor), fun _ => (.bool (decide (p59.Cursor ≥ 0)) : Value) = .bool false]) (by kernel_rfl) ?_ ?_
      · intro w hs; exact ⟨congrArg Value.bool (h70), hs.var (k := 0) rfl 1 rfl, congrArg Value.bool (decide_eq_false h71)⟩
      refine at_end ?_
      refine at_thn ?_
      refine at_ret ?_
      obtain rfl := Option.some.inj H
      refine at_drop (k := 0) rfl rfl ?_
      refine at_eqM (M1 := (Fs)) (M2 := (Fs)) rfl rfl ?_
      refine at_done (vs := [.bool false]) (obs := []) (.inl rfl) [.tmp 2] [] rfl (by kernel_rfl) (fun w hs => trivial) (fun w hs => ⟨_, _, [], rfl, ⟨rfl, rfl⟩, hle, hs⟩)
  · rw [if_neg h70] at H
    refine at_seg [3, 4, 5, 6, 7, 8, 9, 10, 11, 12, 13, 14, 15, 16, 17, 18, 19, 20, 21, 22, 23, 24, 25] [] rfl [(3, .bool false)] [2] (L2 := [(2, .bool false)]) (obs := [fun _ => (.bool b5 : Value) = .bool false]) (by kernel_rfl) ?_ ?_
    · intro w hs; exact congrArg Value.bool (ff_of h70)
    refine at_end ?_
    refine at_thn ?_
    refine at_ret ?_
    obtain rfl := Option.some.inj H
    refine at_drop (k := 0) rfl rfl ?_
    refine at_eqM (M1 := (Fs)) (M2 := (Fs)) rfl rfl ?_
    refine at_done (vs := [.bool false]) (obs := []) (.inl rfl) [.tmp 2] [] rfl (by kernel_rfl) (fun w hs => trivial) (fun w hs => ⟨_, _, [], rfl, ⟨rfl, rfl⟩, hle, hs⟩)

/-! ### loop.example/g00146/spec.l08Size: function 26 -/
def spec_l08Size (p66 : Int) (p67 : Int) : Option Bool := if p66 ≥ 1 then (if p66 ≤ 24 then (if p67 ≥ 2 then (some (decide (p67 ≤ 80))) else (some false)) else (some false)) else (some false)
set_option maxHeartbeats 4000000 in
set_option maxRecDepth 100000 in
theorem spec_l08Size.calls {p66 : Int} {p67 : Int} {r : Bool} {I0 : Imm} (H : spec_l08Size p66 p67 = some r) :
    Meets Try.prog 26 ([.int .i64 p66, .int .i64 p67] : List Value).toArray I0 [] (fun v J M => v = .bool r ∧ M = []) := by
  have hle := ImmLe.refl I0
  unfold spec_l08Size at H
  refine fn_intro (fn := Try.f26) 19 Try.func26 rfl rfl rfl (fun E Fs => ?_)
  refine at_seq ?_
  refine at_reg [] [0, 1] (L2 := [(0, .int .i64 p66), (1, .int .i64 p67)]) (obs := []) (by kernel_rfl) ?_ ?_
  · intro w hs; exact trivial
  refine at_thn ?_
  refine at_seq ?_
  by_cases h68 : p66 ≥ 1
  · rw [if_pos h68] at H
    by_cases h69 : p66 ≤ 24
    · rw [if_pos h69] at H
      by_cases h70 : p67 ≥ 2
      · rw [if_pos h70] at H
        refine at_reg [(2, .bool true), (6, .bool true), (10, .bool true)] [4] (L2 := [(4, .bool (decide (p67 ≤ 80)))]) (obs := [fun _ => (.bool (decide (p66 ≥ 1)) : Value) = .bool true, fun _ => (.bool (decide (p66 ≤ 24)) : Value) = .bool true, fun _ => (.bool (decide (p67 ≥ 2)) : Value) = .bool true]) (by kernel_rfl) ?_ ?_
        · intro w hs; exact ⟨congrArg Value.bool (decide_eq_true h68), congrArg Value.bool (decide_eq_true h69), congrArg Value.bool (decide_eq_true h70)⟩
        refine at_thn ?_
        refine at_ret ?_
        obtain rfl := Option.some.inj H
        refine at_done (vs := [.bool (decide (p67 ≤ 80))]) (obs := []) (.inl rfl) [.tmp 4] [] rfl (by kernel_rfl) (fun w hs => trivial) (fun w hs => ⟨_, _, [], rfl, ⟨rfl, rfl⟩, hle, hs⟩)
      · rw [if_neg h70] at H
        refine at_reg [(2, .bool true), (6, .bool true), (10, .bool false)] [4] (L2 := [(4, .bool false)]) (obs := [fun _ => (.bool (decide (p66 ≥ 1)) : Value) = .bool true, fun _ => (.bool (decide (p66 ≤ 24)) : Value) = .bool true, fun _ => (.bool (decide (p67 ≥ 2)) : Value) = .bool false]) (by kernel_rfl) ?_ ?_
        · intro w hs; exact ⟨congrArg Value.bool (decide_eq_true h68), congrArg Value.bool (decide_eq_true h69), congrArg Value.bool (decide_eq_false h70)⟩
        refine at_thn ?_
        refine at_ret ?_
        obtain rfl := Option.some.inj H
        refine at_done (vs := [.bool false]) (obs := []) (.inl rfl) [.tmp 4] [] rfl (by kernel_rfl) (fun w hs => trivial) (fun w hs => ⟨_, _, [], rfl, ⟨rfl, rfl⟩, hle, hs⟩)
    · rw [if_neg h69] at H
      refine at_reg [(2, .bool true), (6, .bool false)] [4] (L2 := [(4, .bool false)]) (obs := [fun _ => (.bool (decide (p66 ≥ 1)) : Value) = .bool true, fun _ => (.bool (decide (p66 ≤ 24)) : Value) = .bool false]) (by kernel_rfl) ?_ ?_
      · intro w hs; exact ⟨congrArg Value.bool (decide_eq_true h68), congrArg Value.bool (decide_eq_false h69)⟩
      refine at_thn ?_
      refine at_ret ?_
      obtain rfl := Option.some.inj H
      refine at_done (vs := [.bool false]) (obs := []) (.inl rfl) [.tmp 4] [] rfl (by kernel_rfl) (fun w hs => trivial) (fun w hs => ⟨_, _, [], rfl, ⟨rfl, rfl⟩, hle, hs⟩)
  · rw [if_neg h68] at H
    refine at_reg [(2, .bool false)] [4] (L2 := [(4, .bool false)]) (obs := [fun _ => (.bool (decide (p66 ≥ 1)) : Value) = .bool false]) (by kernel_rfl) ?_ ?_
    · intro w hs; exact congrArg Value.bool (decide_eq_false h68)
    refine at_thn ?_
    refine at_ret ?_
    obtain rfl := Option.some.inj H
    refine at_done (vs := [.bool false]) (obs := []) (.inl rfl) [.tmp 4] [] rfl (by kernel_rfl) (fun w hs => trivial) (fun w hs => ⟨_, _, [], rfl, ⟨rfl, rfl⟩, hle, hs⟩)

/-! ### (*loop.example/g00146/spec.l09Pen).next: function 50 -/
def spec_l09Pen_next (p86 : T_spec_l09Pen) : Option T_spec_l09Pen := if 0 ≤ p86.cols then (if p86.cols ≤ 8796093022208 then (if p86.rows.length + ([(List.replicate p86.cols.toNat z_impl_Cell : List T_impl_Cell)] : List (List T_impl_Cell)).length ≤ 5864062014805 then (some (⟨p86.cols, (p86.rows ++ ([(List.replicate p86.cols.toNat z_impl_Cell : List T_impl_Cell)] : List (List T_impl_Cell))), 0⟩ : T_spec_l09Pen)) else none) else none) else none
set_option maxHeartbeats 4000000 in
set_option maxRecDepth 100000 in
theorem spec_l09Pen_next.calls {p86 : T_spec_l09Pen} {r : T_spec_l09Pen} {I0 : Imm} {g85 : Nat} {A87 : Option Addr} {c88 : Nat} {s89 : Seg} (H : spec_l09Pen_next p86 = some r) (ho90 : DOwn (DK.sl k_impl_Cell 71) 36 I0 A87 c88 p86.rows s89) :
    Meets Try.prog 50 ([.pointer (some ⟨g85, 0, none⟩)] : List Value).toArray I0 [[(g85, .cells #[.int .i64 p86.cols, .slice A87 p86.rows.length c88, .int .i64 p86.col] 69 (0, 0))], s89] (fun v J M => ∃ (A_1 : Option Addr) (c_2 : Nat) (s_3 : Seg), v = .tuple #[] ∧ M = [[(g85, .cells #[.int .i64 r.cols, .slice A_1 r.rows.length c_2, .int .i64 r.col] 69 (0, 0))], s_3] ∧ DOwn (DK.sl k_impl_Cell 71) 36 J A_1 c_2 r.rows s_3) := by
  have hle := ImmLe.refl I0
  unfold spec_l09Pen_next at H
  refine fn_intro (fn := Try.f50) 19 Try.func50 rfl rfl rfl (fun E Fs => ?_)
  refine at_seq ?_
  refine at_x hmo (fun w => w.cell? ⟨g85, 1, none⟩ = some (.slice A87 p86.rows.length c88) ∧ w.cell? ⟨g85, 0, none⟩ = some (.int .i64 p86.cols)) [11, 14] ?_
  refine at_xseg [0, 1, 2, 3, 4, 5, 6, 7, 8] 6 (#[true, true, true, true, true, true, true, true, true, false, false, false, false, false, false]) rfl (by kernel_rfl) [(4, .slice A87 p86.rows.length c88), (8, .int .i64 p86.cols)] [0, 2, 6, 10] (L2 := [(0, .pointer (some ⟨g85, 0, none⟩)), (2, .pointer (some ⟨g85, 0, none⟩)), (6, .slice A87 p86.rows.length c88), (10, .int .i64 p86.cols)]) (obs := [fun w => w.cell? ⟨g85, 1, none⟩ = some (.slice A87 p86.rows.length c88), fun w => w.cell? ⟨g85, 0, none⟩ = some (.int .i64 p86.cols)]) (by kernel_rfl) (by kernel_rfl) (by kernel_rfl) (.inr fun w hs => ⟨hs.var (k := 0) rfl 1 rfl, hs.var (k := 0) rfl 0 rfl⟩) (fun w hS => ⟨hS.1, hS.2⟩) (fun w hs => ⟨hs.var (k := 0) rfl 1 rfl, hs.var (k := 0) rfl 0 rfl⟩) ?_
  refine at_x1 5 9 (#[true, true, true, true, true, true, true, true, true, true, false, false, false, false, false]) rfl (by kernel_rfl) (by kernel_rfl) rfl rfl ?_
  obtain ⟨h91, H⟩ := ite_some H
  obtain ⟨h92, H⟩ := ite_some H
  obtain ⟨i_, hi_, hz_, hs_, hb_⟩ := info71
  refine eff_makeSlice (K := k_impl_Cell) (d := z_impl_Cell) rfl rfl rfl rfl und36 hi_ hz_ hs_ (fun _ => ⟨none, 0, rfl, Rd.nil _ _⟩) h91 (by rw [hb_]; omega) (by omega) (fun g93 s94 ho95 => ?_)
  refine at_xS (fun w hs => ⟨hs.var (k := 1) rfl 1 rfl, hs.var (k := 1) rfl 0 rfl⟩) ?_
  refine at_x1 4 10 (#[true, true, true, true, true, true, true, true, true, true, true, false, false, false, false]) rfl (by kernel_rfl) (by kernel_rfl) rfl rfl ?_
  refine eff_buildSlice (e := 36) (cells := #[.slice (some ⟨g93, 0, none⟩ : Option Addr) (List.replicate p86.cols.toNat z_impl_Cell : List T_impl_Cell).length p86.cols.toNat]) ([(List.replicate p86.cols.toNat z_impl_Cell : List T_impl_Cell)] : List (List T_impl_Cell)).length rfl rfl rfl (by kernel_rfl) (fun g96 => ?_)
  have hd97 := own_lit (K := Kd.raw 1) (e := 36) (I := I0) (xs := ([[.slice (some ⟨g93, 0, none⟩ : Option Addr) (List.replicate p86.cols.toNat z_impl_Cell : List T_impl_Cell).length p86.cols.toNat]] : List (List Value))) (css := ([[.slice (some ⟨g93, 0, none⟩ : Option Addr) (List.replicate p86.cols.toNat z_impl_Cell : List T_impl_Cell).length p86.cols.toNat]] : List (List Value))) (cells := #[.slice (some ⟨g93, 0, none⟩ : Option Addr) (List.replicate p86.cols.toNat z_impl_Cell : List T_impl_Cell).length p86.cols.toNat]) (b := g96) ⟨⟨rfl, rfl, rfl⟩, trivial⟩ rfl
  refine at_merge 1 0 rfl rfl rfl ?_
  replace hd97 : DOwn (DK.sl k_impl_Cell 71) 36 I0 (some ⟨g96, 0, none⟩ : Option Addr) (([(List.replicate p86.cols.toNat z_impl_Cell : List T_impl_Cell)] : List (List T_impl_Cell)).length) ([(List.replicate p86.cols.toNat z_impl_Cell : List T_impl_Cell)] : List (List T_impl_Cell)) (s94 ++ [(g96, .cells #[.slice (some ⟨g93, 0, none⟩ : Option Addr) (List.replicate p86.cols.toNat z_impl_Cell : List T_impl_Cell).length p86.cols.toNat] 36 (0, 0))]) := DOwn.lit (hs := [[.slice (some ⟨g93, 0, none⟩ : Option Addr) (List.replicate p86.cols.toNat z_impl_Cell : List T_impl_Cell).length p86.cols.toNat]]) (sis := [s94]) hd97 ⟨⟨_, _, rfl, ho95⟩, trivial⟩ (perm_lit1 _ _)
  refine at_xS (fun w hs => ⟨hs.var (k := 1) rfl 1 rfl, hs.var (k := 1) rfl 0 rfl⟩) ?_
  refine at_x1 3 11 (#[true, true, true, true, true, true, true, true, true, true, true, true, false, false, false]) rfl (by kernel_rfl) (by kernel_rfl) rfl rfl ?_
  obtain ⟨h98, H⟩ := ite_some H
  obtain ⟨i_, hi_, hz_, hs_, hb_⟩ := info36
  refine eff_appendD (D := (DK.sl k_impl_Cell 71)) (xs := p86.rows) (ys := ([(List.replicate p86.cols.toNat z_impl_Cell : List T_impl_Cell)] : List (List T_impl_Cell))) 1 0 rfl rfl rfl rfl rfl und67 und67 hi_ hz_ hs_ rfl rfl rfl ho90 hd97 rfl rfl (by rw [hb_]; omega) (by omega) (fun A99 c100 s101 hd102 => ?_)
  refine at_xX (by kernel_rfl) ?_
  refine at_xseg [12, 13] 1 (#[true, true, true, true, true, true, true, true, true, true, true, true, true, true, false]) rfl (by kernel_rfl) [] [0, 13, 15] (L2 := [(0, .pointer (some ⟨g85, 0, none⟩)), (13, .slice A99 (p86.rows ++ ([(List.replicate p86.cols.toNat z_impl_Cell : List T_impl_Cell)] : List (List T_impl_Cell))).length c100), (15, .pointer (some ⟨g85, 1, none⟩))]) (obs := []) (by kernel_rfl) (by kernel_rfl) (by kernel_rfl) (.inl (by kernel_rfl)) (fun w hS => trivial) (fun w hs => trivial) ?_
  refine at_x1 0 14 (#[true, true, true, true, true, true, true, true, true, true, true, true, true, true, true]) rfl (by kernel_rfl) (by kernel_rfl) rfl rfl ?_
  refine eff_store 0 rfl rfl rfl rfl rfl rfl (.inl (Nat.le_refl _)) rfl (Nat.le_of_ble_eq_true (by kernel_rfl)) rfl ?_
  refine at_eqM (M1 := ([(g85, .cells #[.int .i64 p86.cols, .slice A99 (p86.rows ++ ([(List.replicate p86.cols.toNat z_impl_Cell : List T_impl_Cell)] : List (List T_impl_Cell))).length c100, .int .i64 p86.col] 69 (0, 0))] :: s101 :: Fs)) (M2 := ([(g85, .cells #[.int .i64 p86.cols, .slice A99 (p86.rows ++ ([(List.replicate p86.cols.toNat z_impl_Cell : List T_impl_Cell)] : List (List T_impl_Cell))).length c100, .int .i64 p86.col] 69 (0, 0))] :: s101 :: Fs)) rfl rfl ?_
  refine at_xX (by kernel_rfl) ?_
  refine at_xend (by kernel_rfl) ?_
  refine at_thn ?_
  refine at_ops [0, 1, 2, 3] rfl ?_
  refine at_seg [0, 1, 2] [3] rfl [] [18] (L2 := [(18, .pointer (some ⟨g85, 2, none⟩))]) (obs := []) (by kernel_rfl) ?_ ?_
  · intro w hs; exact trivial
  refine at_eff rfl rfl ?_
  refine eff_store 0 rfl rfl rfl rfl rfl rfl (.inl (Nat.le_refl _)) rfl (Nat.le_of_ble_eq_true (by kernel_rfl)) rfl ?_
  refine at_eqM (M1 := ([(g85, .cells #[.int .i64 p86.cols, .slice A99 (p86.rows ++ ([(List.replicate p86.cols.toNat z_impl_Cell : List T_impl_Cell)] : List (List T_impl_Cell))).length c100, .int .i64 0] 69 (0, 0))] :: s101 :: Fs)) (M2 := ([(g85, .cells #[.int .i64 p86.cols, .slice A99 (p86.rows ++ ([(List.replicate p86.cols.toNat z_impl_Cell : List T_impl_Cell)] : List (List T_impl_Cell))).length c100, .int .i64 0] 69 (0, 0))] :: s101 :: Fs)) rfl rfl ?_
  refine at_end ?_
  obtain rfl := Option.some.inj H
  refine at_done (vs := []) (obs := []) (.inr rfl) [] [] rfl (by kernel_rfl) (fun w hs => trivial) (fun w hs => ⟨_, _, [[(g85, .cells #[.int .i64 p86.cols, .slice A99 (p86.rows ++ ([(List.replicate p86.cols.toNat z_impl_Cell : List T_impl_Cell)] : List (List T_impl_Cell))).length c100, .int .i64 0] 69 (0, 0))], s101], rfl, ⟨A99, c100, s101, rfl, rfl, hd102⟩, hle, hs⟩)

/-! ### loop.example/g00146/spec.l01Shown: function 66 -/
def spec_l01Shown_j0 : Nat → Bool → Int → Option (List Int)
  | 0, _, _ => none
  | k + 1, x219, p117 => if x219 = true then (some ([94, bitsV .xor .i64 p117 64] : List Int)) else (some ([p117] : List Int))
def spec_l01Shown (k : Nat) (p117 : Int) : Option (List Int) := if p117 < 32 then (spec_l01Shown_j0 k true p117) else (spec_l01Shown_j0 k (p117 == 127) p117)
set_option maxHeartbeats 4000000 in
set_option maxRecDepth 100000 in
theorem spec_l01Shown.calls {k : Nat} {p117 : Int} {r : (List Int)} {I0 : Imm} (H : spec_l01Shown k p117 = some r) :
    Meets Try.prog 66 ([.int .i64 p117] : List Value).toArray I0 [] (fun v J M => ∃ (A_1 : Option Addr) (c_2 : Nat) (s_3 : Seg), v = .slice A_1 r.length c_2 ∧ M = [s_3] ∧ Own (Kd.int .i64) 2 J A_1 c_2 r s_3) := by
  have hle := ImmLe.refl I0
  unfold spec_l01Shown at H
  refine fn_intro (fn := Try.f66) 14 Try.func66 rfl rfl rfl (fun E Fs => ?_)
  refine at_seq ?_
  refine at_reg [] [0] (L2 := [(0, .int .i64 p117)]) (obs := []) (by kernel_rfl) ?_ ?_
  · intro w hs; exact trivial
  refine at_thn ?_
  refine at_seq ?_
  refine at_join (fun L I Ms => ∃ (k220 : Nat), ∃ (x219 : Bool), L = [(0, .int .i64 p117), (8, .bool x219)] ∧ Ms = ([] ++ Fs) ∧ spec_l01Shown_j0 k220 x219 p117 = some r ∧ ImmLe I0 I ∧ k220 ≤ k) ?_ ?_
  · clear H hle
    intro L I Ms h_; obtain ⟨k220, x219, hL_, hM_, H, hle, hk221⟩ := h_; rw [hL_, hM_]; clear hL_ hM_ L Ms
    rcases k220 with _ | k220
    · exact (no_none H).elim
    rw [spec_l01Shown_j0] at H
    by_cases h222 : x219 = true
    · rw [if_pos h222] at H
      refine at_cond_t rfl (h222) ?_
      refine at_seq ?_
      refine at_ops [0, 1, 2, 3] rfl ?_
      refine at_seg [0, 1] [2, 3] rfl [] [10] (L2 := [(10, .int .i64 (bitsV .xor .i64 p117 64))]) (obs := []) (by kernel_rfl) ?_ ?_
      · intro w hs; exact trivial
      refine at_eff rfl rfl ?_
      refine eff_buildSlice (e := 2) (cells := #[.int .i64 94, .int .i64 (bitsV .xor .i64 p117 64)]) ([94, bitsV .xor .i64 p117 64] : List Int).length rfl rfl rfl (by kernel_rfl) (fun g223 => ?_)
      have ho224 := own_lit (K := (Kd.int .i64)) (e := 2) (I := I) (xs := ([94, bitsV .xor .i64 p117 64] : List Int)) (css := [[.int .i64 94], [.int .i64 (bitsV .xor .i64 p117 64)]]) (cells := #[.int .i64 94, .int .i64 (bitsV .xor .i64 p117 64)]) (b := g223) ⟨rfl, ⟨rfl, trivial⟩⟩ rfl
      refine at_seg [3] [] rfl [] [2] (L2 := [(2, .slice (some ⟨g223, 0, none⟩ : Option Addr) ([94, bitsV .xor .i64 p117 64] : List Int).length (([94, bitsV .xor .i64 p117 64] : List Int).length))]) (obs := []) (by kernel_rfl) ?_ ?_
      · intro w hs; exact trivial
      refine at_end ?_
      refine at_thn ?_
      refine at_ret ?_
      refine at_then_ret ?_
      obtain rfl := Option.some.inj H
      refine at_done (vs := [.slice (some ⟨g223, 0, none⟩ : Option Addr) ([94, bitsV .xor .i64 p117 64] : List Int).length (([94, bitsV .xor .i64 p117 64] : List Int).length)]) (obs := []) (.inl rfl) [.tmp 2] [] rfl (by kernel_rfl) (fun w hs => trivial) (fun w hs => ⟨_, _, [[(g223, .cells #[.int .i64 94, .int .i64 (bitsV .xor .i64 p117 64)] 2 (0, 0))]], rfl, ⟨(some ⟨g223, 0, none⟩ : Option Addr), ([94, bitsV .xor .i64 p117 64] : List Int).length, [(g223, .cells #[.int .i64 94, .int .i64 (bitsV .xor .i64 p117 64)] 2 (0, 0))], rfl, rfl, ho224⟩, hle, hs⟩)
    · rw [if_neg h222] at H
      refine at_cond_f rfl (ff_of h222) ?_
      refine at_skip ?_
      refine at_thn ?_
      refine at_seq ?_
      refine at_ops [0, 1, 2] rfl ?_
      refine at_seg [0] [1, 2] rfl [] [12] (L2 := [(12, .int .i64 p117)]) (obs := []) (by kernel_rfl) ?_ ?_
      · intro w hs; exact trivial
      refine at_eff rfl rfl ?_
      refine eff_buildSlice (e := 2) (cells := #[.int .i64 p117]) ([p117] : List Int).length rfl rfl rfl (by kernel_rfl) (fun g225 => ?_)
      have ho226 := own_lit (K := (Kd.int .i64)) (e := 2) (I := I) (xs := ([p117] : List Int)) (css := [[.int .i64 p117]]) (cells := #[.int .i64 p117]) (b := g225) ⟨rfl, trivial⟩ rfl
      refine at_seg [2] [] rfl [] [2] (L2 := [(2, .slice (some ⟨g225, 0, none⟩ : Option Addr) ([p117] : List Int).length (([p117] : List Int).length))]) (obs := []) (by kernel_rfl) ?_ ?_
      · intro w hs; exact trivial
      refine at_end ?_
      refine at_thn ?_
      refine at_ret ?_
      obtain rfl := Option.some.inj H
      refine at_done (vs := [.slice (some ⟨g225, 0, none⟩ : Option Addr) ([p117] : List Int).length (([p117] : List Int).length)]) (obs := []) (.inl rfl) [.tmp 2] [] rfl (by kernel_rfl) (fun w hs => trivial) (fun w hs => ⟨_, _, [[(g225, .cells #[.int .i64 p117] 2 (0, 0))]], rfl, ⟨(some ⟨g225, 0, none⟩ : Option Addr), ([p117] : List Int).length, [(g225, .cells #[.int .i64 p117] 2 (0, 0))], rfl, rfl, ho226⟩, hle, hs⟩)
  · intro Jn118
    by_cases h227 : p117 < 32
    · rw [if_pos h227] at H
      refine at_reg [(2, .bool true)] [0, 8] (L2 := [(0, .int .i64 p117), (8, .bool true)]) (obs := [fun _ => (.bool (decide (p117 < 32)) : Value) = .bool true]) (by kernel_rfl) ?_ ?_
      · intro w hs; exact congrArg Value.bool (decide_eq_true h227)
      refine at_thn ?_
      refine at_keep [0, 8] (L2 := [(0, .int .i64 p117), (8, .bool true)]) rfl ?_
      exact Jn118 _ _ _ ⟨_, true, rfl, rfl, H, hle, by omega⟩
    · rw [if_neg h227] at H
      refine at_reg [(2, .bool false)] [0, 8] (L2 := [(0, .int .i64 p117), (8, .bool (p117 == 127))]) (obs := [fun _ => (.bool (decide (p117 < 32)) : Value) = .bool false]) (by kernel_rfl) ?_ ?_
      · intro w hs; exact congrArg Value.bool (decide_eq_false h227)
      refine at_thn ?_
      refine at_keep [0, 8] (L2 := [(0, .int .i64 p117), (8, .bool (p117 == 127))]) rfl ?_
      exact Jn118 _ _ _ ⟨_, (p117 == 127), rfl, rfl, H, hle, by omega⟩
end Go.Proofs.Ytnhnipdanpcbeaa
