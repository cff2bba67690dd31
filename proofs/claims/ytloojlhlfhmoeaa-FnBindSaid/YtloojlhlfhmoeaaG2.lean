import Derived.Test.YtloojlhlfhmoeaaG1
namespace Go.Proofs.Ytloojlhlfhmoeaa
open Go Eng
set_option linter.unusedVariables false
set_option linter.unusedSimpArgs false
/-! ### loop.example/g00146/spec.l07Before: function 14 -/
def spec_l07Before (p91 : T_impl_Key) (p92 : T_impl_Key) : Option Bool := if p91.Map < p92.Map then (some true) else (if p91.Map = p92.Map then (some (Op.bytesLess p91.Keys p92.Keys)) else (some false))
set_option maxHeartbeats 4000000 in
set_option maxRecDepth 100000 in
theorem spec_l07Before.calls {p91 : T_impl_Key} {p92 : T_impl_Key} {r : Bool} {I0 : Imm} (H : spec_l07Before p91 p92 = some r) :
    Meets Try.prog 14 ([.agg #[.int .i64 p91.Map, str p91.Keys, str p91.Name], .agg #[.int .i64 p92.Map, str p92.Keys, str p92.Name]] : List Value).toArray I0 [] (fun v J M => v = .bool r ∧ M = []) := by
  have hle := ImmLe.refl I0
  unfold spec_l07Before at H
  refine fn_intro (fn := Try.f14) 24 Try.func14 rfl rfl rfl (fun E Fs => ?_)
  refine at_seq ?_
  refine at_ops [0, 1, 2] rfl ?_
  refine at_eff rfl rfl ?_
  refine eff_box rfl rfl rfl #[.int .i64 p91.Map, str p91.Keys, str p91.Name] rfl (fun g93 => ?_)
  refine at_eff rfl rfl ?_
  refine eff_box rfl rfl rfl #[.int .i64 p92.Map, str p92.Keys, str p92.Name] rfl (fun g94 => ?_)
  refine at_seg [2] [] rfl [] [2, 3] (L2 := [(2, .pointer (some ⟨g93, 0, none⟩)), (3, .pointer (some ⟨g94, 0, none⟩))]) (obs := []) (by kernel_rfl) ?_ ?_
  · intro w hs; exact trivial
  refine at_end ?_
  refine at_thn ?_
  refine at_seq ?_
  by_cases h95 : p91.Map < p92.Map
  · rw [if_pos h95] at H
    refine at_reg [(1, .int .i64 p91.Map), (3, .int .i64 p92.Map), (5, .bool true)] [4] (L2 := [(4, .bool true)]) (obs := [fun w => w.cell? ⟨g93, 0, none⟩ = some (.int .i64 p91.Map), fun w => w.cell? ⟨g94, 0, none⟩ = some (.int .i64 p92.Map), fun _ => (.bool (decide (p91.Map < p92.Map)) : Value) = .bool true]) (by kernel_rfl) ?_ ?_
    · intro w hs; exact ⟨hs.var (k := 1) rfl 0 rfl, hs.var (k := 0) rfl 0 rfl, congrArg Value.bool (decide_eq_true h95)⟩
    refine at_thn ?_
    refine at_ret ?_
    obtain rfl := Option.some.inj H
    refine at_drop (k := 0) rfl rfl ?_
    refine at_drop (k := 0) rfl rfl ?_
    refine at_done (vs := [.bool true]) (obs := []) (.inl rfl) [.tmp 4] [] rfl (by kernel_rfl) (fun w hs => trivial) (fun w hs => ⟨_, _, [], rfl, ⟨rfl, rfl⟩, hle, hs⟩)
  · rw [if_neg h95] at H
    by_cases h96 : p91.Map = p92.Map
    · rw [if_pos h96] at H
      refine at_reg [(1, .int .i64 p91.Map), (3, .int .i64 p92.Map), (5, .bool false), (7, .int .i64 p91.Map), (9, .int .i64 p92.Map), (11, .bool true), (13, str p91.Keys), (15, str p92.Keys)] [4] (L2 := [(4, .bool (Op.bytesLess p91.Keys p92.Keys))]) (obs := [fun w => w.cell? ⟨g93, 0, none⟩ = some (.int .i64 p91.Map), fun w => w.cell? ⟨g94, 0, none⟩ = some (.int .i64 p92.Map), fun _ => (.bool (decide (p91.Map < p92.Map)) : Value) = .bool false, fun w => w.cell? ⟨g93, 0, none⟩ = some (.int .i64 p91.Map), fun w => w.cell? ⟨g94, 0, none⟩ = some (.int .i64 p92.Map), fun _ => (.bool (p91.Map == p92.Map) : Value) = .bool true, fun w => w.cell? ⟨g93, 1, none⟩ = some (str p91.Keys), fun w => w.cell? ⟨g94, 1, none⟩ = some (str p92.Keys)]) (by kernel_rfl) ?_ ?_
      · intro w hs; exact ⟨hs.var (k := 1) rfl 0 rfl, hs.var (k := 0) rfl 0 rfl, congrArg Value.bool (decide_eq_false h95), hs.var (k := 1) rfl 0 rfl, hs.var (k := 0) rfl 0 rfl, congrArg Value.bool (beq_iff_eq.2 h96), hs.var (k := 1) rfl 1 rfl, hs.var (k := 0) rfl 1 rfl⟩
      refine at_thn ?_
      refine at_ret ?_
      obtain rfl := Option.some.inj H
      refine at_drop (k := 0) rfl rfl ?_
      refine at_drop (k := 0) rfl rfl ?_
      refine at_done (vs := [.bool (Op.bytesLess p91.Keys p92.Keys)]) (obs := []) (.inl rfl) [.tmp 4] [] rfl (by kernel_rfl) (fun w hs => trivial) (fun w hs => ⟨_, _, [], rfl, ⟨rfl, rfl⟩, hle, hs⟩)
    · rw [if_neg h96] at H
      refine at_reg [(1, .int .i64 p91.Map), (3, .int .i64 p92.Map), (5, .bool false), (7, .int .i64 p91.Map), (9, .int .i64 p92.Map), (11, .bool false)] [4] (L2 := [(4, .bool false)]) (obs := [fun w => w.cell? ⟨g93, 0, none⟩ = some (.int .i64 p91.Map), fun w => w.cell? ⟨g94, 0, none⟩ = some (.int .i64 p92.Map), fun _ => (.bool (decide (p91.Map < p92.Map)) : Value) = .bool false, fun w => w.cell? ⟨g93, 0, none⟩ = some (.int .i64 p91.Map), fun w => w.cell? ⟨g94, 0, none⟩ = some (.int .i64 p92.Map), fun _ => (.bool (p91.Map == p92.Map) : Value) = .bool false]) (by kernel_rfl) ?_ ?_
      · intro w hs; exact ⟨hs.var (k := 1) rfl 0 rfl, hs.var (k := 0) rfl 0 rfl, congrArg Value.bool (decide_eq_false h95), hs.var (k := 1) rfl 0 rfl, hs.var (k := 0) rfl 0 rfl, congrArg Value.bool (beq_eq_false_iff_ne.2 h96)⟩
      refine at_thn ?_
      refine at_ret ?_
      obtain rfl := Option.some.inj H
      refine at_drop (k := 0) rfl rfl ?_
      refine at_drop (k := 0) rfl rfl ?_
      refine at_done (vs := [.bool false]) (obs := []) (.inl rfl) [.tmp 4] [] rfl (by kernel_rfl) (fun w hs => trivial) (fun w hs => ⟨_, _, [], rfl, ⟨rfl, rfl⟩, hle, hs⟩)

/-! ### loop.example/g00146/spec.KeysRight: function 7 -/
def spec_KeysRight_l0 : Nat → Int → (List T_impl_Key) → Option Bool
  | 0, _, _ => none
  | k + 1, x68, p63 => if x68 < (p63.length : Int) then (if 0 ≤ x68 then (if ((rdA z_impl_Key p63 x68).Map) < 1 then (some false) else (if ((rdA z_impl_Key p63 x68).Map) > 9 then (some false) else (if (((rdA z_impl_Key p63 x68).Keys).length : Int) < 1 then (some false) else (if (((rdA z_impl_Key p63 x68).Keys).length : Int) > 6 then (some false) else ((spec_l07Name k ((rdA z_impl_Key p63 x68).Name)).bind fun b4 => (if b4 = true then (if x68 > 0 then (if 0 ≤ (IntKind.i64.wrap (x68 - 1)) then (if (IntKind.i64.wrap (x68 - 1)) < (p63.length : Int) then ((spec_l07Before (rdA z_impl_Key p63 (IntKind.i64.wrap (x68 - 1))) (rdA z_impl_Key p63 x68)).bind fun b5 => (if b5 = true then (spec_KeysRight_l0 k (IntKind.i64.wrap (x68 + 1)) p63) else (some false))) else none) else none) else (spec_KeysRight_l0 k (IntKind.i64.wrap (x68 + 1)) p63)) else (some false))))))) else none) else (some true)
def spec_KeysRight (k : Nat) (p63 : List T_impl_Key) : Option Bool := if (p63.length : Int) > 60 then (some false) else (spec_KeysRight_l0 k 0 p63)
set_option maxHeartbeats 4000000 in
set_option maxRecDepth 100000 in
theorem spec_KeysRight.calls {k : Nat} {p63 : List T_impl_Key} {r : Bool} {I0 : Imm} {A64 : Option Addr} {c65 : Nat} (H : spec_KeysRight k p63 = some r) (hr66 : Rd k_impl_Key I0 A64 c65 p63) :
    Meets Try.prog 7 ([.slice A64 p63.length c65] : List Value).toArray I0 [] (fun v J M => v = .bool r ∧ M = []) := by
  have hle := ImmLe.refl I0
  unfold spec_KeysRight at H
  refine fn_intro (fn := Try.f7) 58 Try.func7 rfl rfl rfl (fun E Fs => ?_)
  refine at_seq ?_
  refine at_reg [] [0] (L2 := [(0, .slice A64 p63.length c65)]) (obs := []) (by kernel_rfl) ?_ ?_
  · intro w hs; exact trivial
  refine at_thn ?_
  refine at_seq ?_
  refine at_seq ?_
  refine at_reg [] [0, 7] (L2 := [(0, .slice A64 p63.length c65), (7, .bool (decide ((p63.length : Int) > 60)))]) (obs := []) (by kernel_rfl) ?_ ?_
  · intro w hs; exact trivial
  refine at_thn ?_
  by_cases h67 : (p63.length : Int) > 60
  · rw [if_pos h67] at H
    refine at_cond_t rfl (decide_eq_true h67) ?_
    refine at_seq ?_
    refine at_reg [] [2] (L2 := [(2, .bool false)]) (obs := []) (by kernel_rfl) ?_ ?_
    · intro w hs; exact trivial
    refine at_thn ?_
    refine at_ret ?_
    refine at_then_ret ?_
    obtain rfl := Option.some.inj H
    refine at_done (vs := [.bool false]) (obs := []) (.inl rfl) [.tmp 2] [] rfl (by kernel_rfl) (fun w hs => trivial) (fun w hs => ⟨_, _, [], rfl, ⟨rfl, rfl⟩, hle, hs⟩)
  · rw [if_neg h67] at H
    refine at_cond_f rfl (decide_eq_false h67) ?_
    refine at_skip ?_
    refine at_thn ?_
    refine at_seq ?_
    refine at_seq ?_
    refine at_reg [] [0, 3] (L2 := [(0, .slice A64 p63.length c65), (3, .int .i64 0)]) (obs := []) (by kernel_rfl) ?_ ?_
    · intro w hs; exact trivial
    refine at_thn ?_
    refine at_block ?_
    refine at_keep [0, 3] (L2 := [(0, .slice A64 p63.length c65), (3, .int .i64 0)]) rfl ?_
    refine at_loop (fun k69 L I Ms => ∃ (x68 : Int), L = [(0, .slice A64 p63.length c65), (3, .int .i64 x68)] ∧ Ms = ([] ++ Fs) ∧ spec_KeysRight_l0 k69 x68 p63 = some r ∧ ImmLe I0 I ∧ k69 ≤ k ∧ Rd k_impl_Key I A64 c65 p63) ?_ ?_ k ⟨0, rfl, rfl, H, hle, Nat.le_refl _, hr66⟩
    · rintro L I Ms ⟨_, rfl, rfl, H, _⟩; exact no_none H
    · clear H hle hr66
      intro k69 ih70 L I Ms h_; obtain ⟨x68, hL_, hM_, H, hle, hk71, hr66⟩ := h_; rw [hL_, hM_]; clear hL_ hM_ L Ms
      rw [spec_KeysRight_l0] at H
      refine at_seq ?_
      refine at_seq ?_
      refine at_reg [] [0, 3, 11] (L2 := [(0, .slice A64 p63.length c65), (3, .int .i64 x68), (11, .bool (decide (x68 < (p63.length : Int))))]) (obs := []) (by kernel_rfl) ?_ ?_
      · intro w hs; exact trivial
      refine at_thn ?_
      by_cases h72 : x68 < (p63.length : Int)
      · rw [if_pos h72] at H
        refine at_cond_t rfl (decide_eq_true h72) ?_
        refine at_skip ?_
        refine at_thn ?_
        refine at_seq ?_
        refine at_block ?_
        refine at_seq ?_
        refine at_ops [0, 1, 2, 3, 4, 5] rfl ?_
        obtain ⟨h73, H⟩ := ite_some H
        obtain ⟨cs75, hz76, hc74⟩ := hr66.elem z_impl_Key x68 h73 h72
        obtain rfl := hz76
        refine at_seg [0, 1, 2, 3] [4, 5] rfl [(3, .agg #[.int .i64 ((rdA z_impl_Key p63 x68).Map), str ((rdA z_impl_Key p63 x68).Keys), str ((rdA z_impl_Key p63 x68).Name)])] [0, 3, 17] (L2 := [(0, .slice A64 p63.length c65), (3, .int .i64 x68), (17, .agg #[.int .i64 ((rdA z_impl_Key p63 x68).Map), str ((rdA z_impl_Key p63 x68).Keys), str ((rdA z_impl_Key p63 x68).Name)])]) (obs := [fun _ => A64.isSome = true ∧ 0 ≤ x68 ∧ x68 < ((p63.length : Nat) : Int), fun w => CellsAt w ((A64.getD ad0).add (x68.toNat * 3)) [.int .i64 ((rdA z_impl_Key p63 x68).Map), str ((rdA z_impl_Key p63 x68).Keys), str ((rdA z_impl_Key p63 x68).Name)] 0]) (by kernel_rfl) ?_ ?_
        · intro w hs; exact ⟨⟨hr66.ne x68 h73 h72, h73, h72⟩, ⟨hc74 0 _ rfl hs, hc74 1 _ rfl hs, hc74 2 _ rfl hs, trivial⟩⟩
        refine at_eff rfl rfl ?_
        obtain ⟨i_, hi_, hz_, _, _⟩ := info25
        refine eff_alloc rfl rfl hi_ hz_ #[.int .i64 0, str ([] : List UInt8), str ([] : List UInt8)] rfl (fun g77 => ?_)
        refine at_eff rfl rfl ?_
        refine eff_store 0 rfl rfl rfl rfl rfl rfl (.inl (Nat.le_refl _)) rfl (Nat.le_of_ble_eq_true (by kernel_rfl)) rfl ?_
        refine at_end ?_
        refine at_thn ?_
        refine at_seq ?_
        by_cases h78 : ((rdA z_impl_Key p63 x68).Map) < 1
        · rw [if_pos h78] at H
          refine at_x hmo (fun w => w.cell? ⟨g77, 0, none⟩ = some (.int .i64 ((rdA z_impl_Key p63 x68).Map))) [] ?_
          refine at_xseg [0, 1, 2, 3, 4, 5, 6, 7, 8, 9, 10, 11, 12, 13, 14, 15, 16, 17, 18, 19, 20, 21, 22] 17 (#[true, true, true, true, true, true, true, true, true, true, true, true, true, true, true, true, true, true, true, true, true, true, true, false, false, false, false, false, false, false, false, false, false, false, false, false, false, false, false, false]) rfl (by kernel_rfl) [(1, .int .i64 ((rdA z_impl_Key p63 x68).Map)), (3, .bool true)] [0, 3, 4, 38, 40] (L2 := [(0, .slice A64 p63.length c65), (3, .int .i64 x68), (4, .pointer (some ⟨g77, 0, none⟩)), (38, .bool true), (40, undef)]) (obs := [fun w => w.cell? ⟨g77, 0, none⟩ = some (.int .i64 ((rdA z_impl_Key p63 x68).Map)), fun _ => (.bool (decide (((rdA z_impl_Key p63 x68).Map) < 1)) : Value) = .bool true]) (by kernel_rfl) (by kernel_rfl) (by kernel_rfl) (.inr fun w hs => hs.var (k := 0) rfl 0 rfl) (fun w hS => ⟨hS, congrArg Value.bool (decide_eq_true h78)⟩) (fun w hs => ⟨hs.var (k := 0) rfl 0 rfl, congrArg Value.bool (decide_eq_true h78)⟩) ?_
          refine at_xseg [23, 24, 25, 26, 27, 28, 29, 30, 31, 32, 33, 34, 35] 4 (#[true, true, true, true, true, true, true, true, true, true, true, true, true, true, true, true, true, true, true, true, true, true, true, true, true, true, true, true, true, true, true, true, true, true, true, true, false, false, false, false]) rfl (by kernel_rfl) [] [0, 3, 44, 47, 52, 53] (L2 := [(0, .slice A64 p63.length c65), (3, .int .i64 x68), (44, .bool true), (47, undef), (52, undef), (53, undef)]) (obs := []) (by kernel_rfl) (by kernel_rfl) (by kernel_rfl) (.inr fun w hs => hs.var (k := 0) rfl 0 rfl) (fun w hS => trivial) (fun w hs => trivial) ?_
          refine at_xseg [36, 37, 38, 39] 0 (#[true, true, true, true, true, true, true, true, true, true, true, true, true, true, true, true, true, true, true, true, true, true, true, true, true, true, true, true, true, true, true, true, true, true, true, true, true, true, true, true]) rfl (by kernel_rfl) [] [0, 3, 57] (L2 := [(0, .slice A64 p63.length c65), (3, .int .i64 x68), (57, .bool true)]) (obs := []) (by kernel_rfl) (by kernel_rfl) (by kernel_rfl) (.inr fun w hs => hs.var (k := 0) rfl 0 rfl) (fun w hS => trivial) (fun w hs => trivial) ?_
          refine at_xend (by kernel_rfl) ?_
          refine at_thn ?_
          refine at_cond_t rfl (rfl) ?_
          refine at_seq ?_
          refine at_reg [] [2] (L2 := [(2, .bool false)]) (obs := []) (by kernel_rfl) ?_ ?_
          · intro w hs; exact trivial
          refine at_thn ?_
          refine at_ret ?_
          refine at_in_ret ?_
          refine at_then_ret ?_
          refine at_then_ret ?_
          refine at_in_ret ?_
          refine at_then_ret ?_
          obtain rfl := Option.some.inj H
          refine at_drop (k := 0) rfl rfl ?_
          refine at_done (vs := [.bool false]) (obs := []) (.inl rfl) [.tmp 2] [] rfl (by kernel_rfl) (fun w hs => trivial) (fun w hs => ⟨_, _, [], rfl, ⟨rfl, rfl⟩, hle, hs⟩)
        · rw [if_neg h78] at H
          by_cases h79 : ((rdA z_impl_Key p63 x68).Map) > 9
          · rw [if_pos h79] at H
            refine at_x hmo (fun w => w.cell? ⟨g77, 0, none⟩ = some (.int .i64 ((rdA z_impl_Key p63 x68).Map)) ∧ w.cell? ⟨g77, 0, none⟩ = some (.int .i64 ((rdA z_impl_Key p63 x68).Map))) [] ?_
            refine at_xseg [0, 1, 2, 3, 4, 5, 6, 7, 8, 9, 10, 11, 12, 13, 14, 15, 16, 17, 18, 19, 20, 21, 22] 17 (#[true, true, true, true, true, true, true, true, true, true, true, true, true, true, true, true, true, true, true, true, true, true, true, false, false, false, false, false, false, false, false, false, false, false, false, false, false, false, false, false]) rfl (by kernel_rfl) [(1, .int .i64 ((rdA z_impl_Key p63 x68).Map)), (3, .bool false), (5, .int .i64 ((rdA z_impl_Key p63 x68).Map)), (8, .bool true)] [0, 3, 4, 38, 40] (L2 := [(0, .slice A64 p63.length c65), (3, .int .i64 x68), (4, .pointer (some ⟨g77, 0, none⟩)), (38, .bool true), (40, undef)]) (obs := [fun w => w.cell? ⟨g77, 0, none⟩ = some (.int .i64 ((rdA z_impl_Key p63 x68).Map)), fun _ => (.bool (decide (((rdA z_impl_Key p63 x68).Map) < 1)) : Value) = .bool false, fun w => w.cell? ⟨g77, 0, none⟩ = some (.int .i64 ((rdA z_impl_Key p63 x68).Map)), fun _ => (.bool (decide (((rdA z_impl_Key p63 x68).Map) > 9)) : Value) = .bool true]) (by kernel_rfl) (by kernel_rfl) (by kernel_rfl) (.inr fun w hs => ⟨hs.var (k := 0) rfl 0 rfl, hs.var (k := 0) rfl 0 rfl⟩) (fun w hS => ⟨hS.1, congrArg Value.bool (decide_eq_false h78), hS.2, congrArg Value.bool (decide_eq_true h79)⟩) (fun w hs => ⟨hs.var (k := 0) rfl 0 rfl, congrArg Value.bool (decide_eq_false h78), hs.var (k := 0) rfl 0 rfl, congrArg Value.bool (decide_eq_true h79)⟩) ?_
            refine at_xseg [23, 24, 25, 26, 27, 28, 29, 30, 31, 32, 33, 34, 35] 4 (#[true, true, true, true, true, true, true, true, true, true, true, true, true, true, true, true, true, true, true, true, true, true, true, true, true, true, true, true, true, true, true, true, true, true, true, true, false, false, false, false]) rfl (by kernel_rfl) [] [0, 3, 44, 47, 52, 53] (L2 := [(0, .slice A64 p63.length c65), (3, .int .i64 x68), (44, .bool true), (47, undef), (52, undef), (53, undef)]) (obs := []) (by kernel_rfl) (by kernel_rfl) (by kernel_rfl) (.inr fun w hs => ⟨hs.var (k := 0) rfl 0 rfl, hs.var (k := 0) rfl 0 rfl⟩) (fun w hS => trivial) (fun w hs => trivial) ?_
            refine at_xseg [36, 37, 38, 39] 0 (#[true, true, true, true, true, true, true, true, true, true, true, true, true, true, true, true, true, true, true, true, true, true, true, true, true, true, true, true, true, true, true, true, true, true, true, true, true, true, true, true]) rfl (by kernel_rfl) [] [0, 3, 57] (L2 := [(0, .slice A64 p63.length c65), (3, .int .i64 x68), (57, .bool true)]) (obs := []) (by kernel_rfl) (by kernel_rfl) (by kernel_rfl) (.inr fun w hs => ⟨hs.var (k := 0) rfl 0 rfl, hs.var (k := 0) rfl 0 rfl⟩) (fun w hS => trivial) (fun w hs => trivial) ?_
            refine at_xend (by kernel_rfl) ?_
            refine at_thn ?_
            refine at_cond_t rfl (rfl) ?_
            refine at_seq ?_
            refine at_reg [] [2] (L2 := [(2, .bool false)]) (obs := []) (by kernel_rfl) ?_ ?_
            · intro w hs; exact trivial
            refine at_thn ?_
            refine at_ret ?_
            refine at_in_ret ?_
            refine at_then_ret ?_
            refine at_then_ret ?_
            refine at_in_ret ?_
            refine at_then_ret ?_
            obtain rfl := Option.some.inj H
            refine at_drop (k := 0) rfl rfl ?_
            refine at_done (vs := [.bool false]) (obs := []) (.inl rfl) [.tmp 2] [] rfl (by kernel_rfl) (fun w hs => trivial) (fun w hs => ⟨_, _, [], rfl, ⟨rfl, rfl⟩, hle, hs⟩)
          · rw [if_neg h79] at H
            by_cases h80 : (((rdA z_impl_Key p63 x68).Keys).length : Int) < 1
            · rw [if_pos h80] at H
              refine at_x hmo (fun w => w.cell? ⟨g77, 0, none⟩ = some (.int .i64 ((rdA z_impl_Key p63 x68).Map)) ∧ w.cell? ⟨g77, 0, none⟩ = some (.int .i64 ((rdA z_impl_Key p63 x68).Map)) ∧ w.cell? ⟨g77, 1, none⟩ = some (str ((rdA z_impl_Key p63 x68).Keys))) [] ?_
              refine at_xseg [0, 1, 2, 3, 4, 5, 6, 7, 8, 9, 10, 11, 12, 13, 14, 15, 16, 17, 18, 19, 20, 21, 22] 17 (#[true, true, true, true, true, true, true, true, true, true, true, true, true, true, true, true, true, true, true, true, true, true, true, false, false, false, false, false, false, false, false, false, false, false, false, false, false, false, false, false]) rfl (by kernel_rfl) [(1, .int .i64 ((rdA z_impl_Key p63 x68).Map)), (3, .bool false), (5, .int .i64 ((rdA z_impl_Key p63 x68).Map)), (8, .bool false), (10, str ((rdA z_impl_Key p63 x68).Keys)), (14, .bool true)] [0, 3, 4, 38, 40] (L2 := [(0, .slice A64 p63.length c65), (3, .int .i64 x68), (4, .pointer (some ⟨g77, 0, none⟩)), (38, .bool true), (40, undef)]) (obs := [fun w => w.cell? ⟨g77, 0, none⟩ = some (.int .i64 ((rdA z_impl_Key p63 x68).Map)), fun _ => (.bool (decide (((rdA z_impl_Key p63 x68).Map) < 1)) : Value) = .bool false, fun w => w.cell? ⟨g77, 0, none⟩ = some (.int .i64 ((rdA z_impl_Key p63 x68).Map)), fun _ => (.bool (decide (((rdA z_impl_Key p63 x68).Map) > 9)) : Value) = .bool false, fun w => w.cell? ⟨g77, 1, none⟩ = some (str ((rdA z_impl_Key p63 x68).Keys)), fun _ => (.bool (decide ((((rdA z_impl_Key p63 x68).Keys).length : Int) < 1)) : Value) = .bool true]) (by kernel_rfl) (by kernel_rfl) (by kernel_rfl) (.inr fun w hs => ⟨hs.var (k := 0) rfl 0 rfl, hs.var (k := 0) rfl 0 rfl, hs.var (k := 0) rfl 1 rfl⟩) (fun w hS => ⟨hS.1, congrArg Value.bool (decide_eq_false h78), hS.2.1, congrArg Value.bool (decide_eq_false h79), hS.2.2, congrArg Value.bool (decide_eq_true h80)⟩) (fun w hs => ⟨hs.var (k := 0) rfl 0 rfl, congrArg Value.bool (decide_eq_false h78), hs.var (k := 0) rfl 0 rfl, congrArg Value.bool (decide_eq_false h79), hs.var (k := 0) rfl 1 rfl, congrArg Value.bool (decide_eq_true h80)⟩) ?_
              refine at_xseg [23, 24, 25, 26, 27, 28, 29, 30, 31, 32, 33, 34, 35] 4 (#[true, true, true, true, true, true, true, true, true, true, true, true, true, true, true, true, true, true, true, true, true, true, true, true, true, true, true, true, true, true, true, true, true, true, true, true, false, false, false, false]) rfl (by kernel_rfl) [] [0, 3, 44, 47, 52, 53] (L2 := [(0, .slice A64 p63.length c65), (3, .int .i64 x68), (44, .bool true), (47, undef), (52, undef), (53, undef)]) (obs := []) (by kernel_rfl) (by kernel_rfl) (by kernel_rfl) (.inr fun w hs => ⟨hs.var (k := 0) rfl 0 rfl, hs.var (k := 0) rfl 0 rfl, hs.var (k := 0) rfl 1 rfl⟩) (fun w hS => trivial) (fun w hs => trivial) ?_
              refine at_xseg [36, 37, 38, 39] 0 (#[true, true, true, true, true, true, true, true, true, true, true, true, true, true, true, true, true, true, true, true, true, true, true, true, true, true, true, true, true, true, true, true, true, true, true, true, true, true, true, true]) rfl (by kernel_rfl) [] [0, 3, 57] (L2 := [(0, .slice A64 p63.length c65), (3, .int .i64 x68), (57, .bool true)]) (obs := []) (by kernel_rfl) (by kernel_rfl) (by kernel_rfl) (.inr fun w hs => ⟨hs.var (k := 0) rfl 0 rfl, hs.var (k := 0) rfl 0 rfl, hs.var (k := 0) rfl 1 rfl⟩) (fun w hS => trivial) (fun w hs => trivial) ?_
              refine at_xend (by kernel_rfl) ?_
              refine at_thn ?_
              refine at_cond_t rfl (rfl) ?_
              refine at_seq ?_
              refine at_reg [] [2] (L2 := [(2, .bool false)]) (obs := []) (by kernel_rfl) ?_ ?_
              · intro w hs; exact trivial
              refine at_thn ?_
              refine at_ret ?_
              refine at_in_ret ?_
              refine at_then_ret ?_
              refine at_then_ret ?_
              refine at_in_ret ?_
              refine at_then_ret ?_
              obtain rfl := Option.some.inj H
              refine at_drop (k := 0) rfl rfl ?_
              refine at_done (vs := [.bool false]) (obs := []) (.inl rfl) [.tmp 2] [] rfl (by kernel_rfl) (fun w hs => trivial) (fun w hs => ⟨_, _, [], rfl, ⟨rfl, rfl⟩, hle, hs⟩)
            · rw [if_neg h80] at H
              by_cases h81 : (((rdA z_impl_Key p63 x68).Keys).length : Int) > 6
              · rw [if_pos h81] at H
                refine at_x hmo (fun w => w.cell? ⟨g77, 0, none⟩ = some (.int .i64 ((rdA z_impl_Key p63 x68).Map)) ∧ w.cell? ⟨g77, 0, none⟩ = some (.int .i64 ((rdA z_impl_Key p63 x68).Map)) ∧ w.cell? ⟨g77, 1, none⟩ = some (str ((rdA z_impl_Key p63 x68).Keys)) ∧ w.cell? ⟨g77, 1, none⟩ = some (str ((rdA z_impl_Key p63 x68).Keys))) [] ?_
                refine at_xseg [0, 1, 2, 3, 4, 5, 6, 7, 8, 9, 10, 11, 12, 13, 14, 15, 16, 17, 18, 19, 20, 21, 22] 17 (#[true, true, true, true, true, true, true, true, true, true, true, true, true, true, true, true, true, true, true, true, true, true, true, false, false, false, false, false, false, false, false, false, false, false, false, false, false, false, false, false]) rfl (by kernel_rfl) [(1, .int .i64 ((rdA z_impl_Key p63 x68).Map)), (3, .bool false), (5, .int .i64 ((rdA z_impl_Key p63 x68).Map)), (8, .bool false), (10, str ((rdA z_impl_Key p63 x68).Keys)), (14, .bool false), (16, str ((rdA z_impl_Key p63 x68).Keys)), (20, .bool true)] [0, 3, 4, 38, 40] (L2 := [(0, .slice A64 p63.length c65), (3, .int .i64 x68), (4, .pointer (some ⟨g77, 0, none⟩)), (38, .bool true), (40, undef)]) (obs := [fun w => w.cell? ⟨g77, 0, none⟩ = some (.int .i64 ((rdA z_impl_Key p63 x68).Map)), fun _ => (.bool (decide (((rdA z_impl_Key p63 x68).Map) < 1)) : Value) = .bool false, fun w => w.cell? ⟨g77, 0, none⟩ = some (.int .i64 ((rdA z_impl_Key p63 x68).Map)), fun _ => (.bool (decide (((rdA z_impl_Key p63 x68).Map) > 9)) : Value) = .bool false, fun w => w.cell? ⟨g77, 1, none⟩ = some (str ((rdA z_impl_Key p63 x68).Keys)), fun _ => (.bool (decide ((((rdA z_impl_Key p63 x68).Keys).length : Int) < 1)) : Value) = .bool false, fun w => w.cell? ⟨g77, 1, none⟩ = some (str ((rdA z_impl_Key p63 x68).Keys)), fun _ => (.bool (decide ((((rdA z_impl_Key p63 x68).Keys).length : Int) > 6)) : Value) = .bool true]) (by kernel_rfl) (by kernel_rfl) (by kernel_rfl) (.inr fun w hs => ⟨hs.var (k := 0) rfl 0 rfl, hs.var (k := 0) rfl 0 rfl, hs.var (k := 0) rfl 1 rfl, hs.var (k := 0) rfl 1 rfl⟩) (fun w hS => ⟨hS.1, congrArg Value.bool (decide_eq_false h78), hS.2.1, congrArg Value.bool (decide_eq_false h79), hS.2.2.1, congrArg Value.bool (decide_eq_false h80), hS.2.2.2, congrArg Value.bool (decide_eq_true h81)⟩) (fun w hs => ⟨hs.var (k := 0) rfl 0 rfl, congrArg Value.bool (decide_eq_false h78), hs.var (k := 0) rfl 0 rfl, congrArg Value.bool (decide_eq_false h79), hs.var (k := 0) rfl 1 rfl, congrArg Value.bool (decide_eq_false h80), hs.var (k := 0) rfl 1 rfl, congrArg Value.bool (decide_eq_true h81)⟩) ?_
                refine at_xseg [23, 24, 25, 26, 27, 28, 29, 30, 31, 32, 33, 34, 35] 4 (#[true, true, true, true, true, true, true, true, true, true, true, true, true, true, true, true, true, true, true, true, true, true, true, true, true, true, true, true, true, true, true, true, true, true, true, true, false, false, false, false]) rfl (by kernel_rfl) [] [0, 3, 44, 47, 52, 53] (L2 := [(0, .slice A64 p63.length c65), (3, .int .i64 x68), (44, .bool true), (47, undef), (52, undef), (53, undef)]) (obs := []) (by kernel_rfl) (by kernel_rfl) (by kernel_rfl) (.inr fun w hs => ⟨hs.var (k := 0) rfl 0 rfl, hs.var (k := 0) rfl 0 rfl, hs.var (k := 0) rfl 1 rfl, hs.var (k := 0) rfl 1 rfl⟩) (fun w hS => trivial) (fun w hs => trivial) ?_
                refine at_xseg [36, 37, 38, 39] 0 (#[true, true, true, true, true, true, true, true, true, true, true, true, true, true, true, true, true, true, true, true, true, true, true, true, true, true, true, true, true, true, true, true, true, true, true, true, true, true, true, true]) rfl (by kernel_rfl) [] [0, 3, 57] (L2 := [(0, .slice A64 p63.length c65), (3, .int .i64 x68), (57, .bool true)]) (obs := []) (by kernel_rfl) (by kernel_rfl) (by kernel_rfl) (.inr fun w hs => ⟨hs.var (k := 0) rfl 0 rfl, hs.var (k := 0) rfl 0 rfl, hs.var (k := 0) rfl 1 rfl, hs.var (k := 0) rfl 1 rfl⟩) (fun w hS => trivial) (fun w hs => trivial) ?_
                refine at_xend (by kernel_rfl) ?_
                refine at_thn ?_
                refine at_cond_t rfl (rfl) ?_
                refine at_seq ?_
                refine at_reg [] [2] (L2 := [(2, .bool false)]) (obs := []) (by kernel_rfl) ?_ ?_
                · intro w hs; exact trivial
                refine at_thn ?_
                refine at_ret ?_
                refine at_in_ret ?_
                refine at_then_ret ?_
                refine at_then_ret ?_
                refine at_in_ret ?_
                refine at_then_ret ?_
                obtain rfl := Option.some.inj H
                refine at_drop (k := 0) rfl rfl ?_
                refine at_done (vs := [.bool false]) (obs := []) (.inl rfl) [.tmp 2] [] rfl (by kernel_rfl) (fun w hs => trivial) (fun w hs => ⟨_, _, [], rfl, ⟨rfl, rfl⟩, hle, hs⟩)
              · rw [if_neg h81] at H
                refine at_x hmo (fun w => w.cell? ⟨g77, 0, none⟩ = some (.int .i64 ((rdA z_impl_Key p63 x68).Map)) ∧ w.cell? ⟨g77, 0, none⟩ = some (.int .i64 ((rdA z_impl_Key p63 x68).Map)) ∧ w.cell? ⟨g77, 1, none⟩ = some (str ((rdA z_impl_Key p63 x68).Keys)) ∧ w.cell? ⟨g77, 1, none⟩ = some (str ((rdA z_impl_Key p63 x68).Keys)) ∧ w.cell? ⟨g77, 2, none⟩ = some (str ((rdA z_impl_Key p63 x68).Name))) [] ?_
                refine at_xseg [0, 1, 2, 3, 4, 5, 6, 7, 8, 9, 10, 11, 12, 13, 14, 15, 16, 17, 18, 19, 20, 21, 22] 17 (#[true, true, true, true, true, true, true, true, true, true, true, true, true, true, true, true, true, true, true, true, true, true, true, false, false, false, false, false, false, false, false, false, false, false, false, false, false, false, false, false]) rfl (by kernel_rfl) [(1, .int .i64 ((rdA z_impl_Key p63 x68).Map)), (3, .bool false), (5, .int .i64 ((rdA z_impl_Key p63 x68).Map)), (8, .bool false), (10, str ((rdA z_impl_Key p63 x68).Keys)), (14, .bool false), (16, str ((rdA z_impl_Key p63 x68).Keys)), (20, .bool false), (22, str ((rdA z_impl_Key p63 x68).Name))] [0, 3, 4, 38, 40] (L2 := [(0, .slice A64 p63.length c65), (3, .int .i64 x68), (4, .pointer (some ⟨g77, 0, none⟩)), (38, .bool false), (40, str ((rdA z_impl_Key p63 x68).Name))]) (obs := [fun w => w.cell? ⟨g77, 0, none⟩ = some (.int .i64 ((rdA z_impl_Key p63 x68).Map)), fun _ => (.bool (decide (((rdA z_impl_Key p63 x68).Map) < 1)) : Value) = .bool false, fun w => w.cell? ⟨g77, 0, none⟩ = some (.int .i64 ((rdA z_impl_Key p63 x68).Map)), fun _ => (.bool (decide (((rdA z_impl_Key p63 x68).Map) > 9)) : Value) = .bool false, fun w => w.cell? ⟨g77, 1, none⟩ = some (str ((rdA z_impl_Key p63 x68).Keys)), fun _ => (.bool (decide ((((rdA z_impl_Key p63 x68).Keys).length : Int) < 1)) : Value) = .bool false, fun w => w.cell? ⟨g77, 1, none⟩ = some (str ((rdA z_impl_Key p63 x68).Keys)), fun _ => (.bool (decide ((((rdA z_impl_Key p63 x68).Keys).length : Int) > 6)) : Value) = .bool false, fun w => w.cell? ⟨g77, 2, none⟩ = some (str ((rdA z_impl_Key p63 x68).Name))]) (by kernel_rfl) (by kernel_rfl) (by kernel_rfl) (.inr fun w hs => ⟨hs.var (k := 0) rfl 0 rfl, hs.var (k := 0) rfl 0 rfl, hs.var (k := 0) rfl 1 rfl, hs.var (k := 0) rfl 1 rfl, hs.var (k := 0) rfl 2 rfl⟩) (fun w hS => ⟨hS.1, congrArg Value.bool (decide_eq_false h78), hS.2.1, congrArg Value.bool (decide_eq_false h79), hS.2.2.1, congrArg Value.bool (decide_eq_false h80), hS.2.2.2.1, congrArg Value.bool (decide_eq_false h81), hS.2.2.2.2⟩) (fun w hs => ⟨hs.var (k := 0) rfl 0 rfl, congrArg Value.bool (decide_eq_false h78), hs.var (k := 0) rfl 0 rfl, congrArg Value.bool (decide_eq_false h79), hs.var (k := 0) rfl 1 rfl, congrArg Value.bool (decide_eq_false h80), hs.var (k := 0) rfl 1 rfl, congrArg Value.bool (decide_eq_false h81), hs.var (k := 0) rfl 2 rfl⟩) ?_
                refine at_x1 16 23 (#[true, true, true, true, true, true, true, true, true, true, true, true, true, true, true, true, true, true, true, true, true, true, true, true, false, false, false, false, false, false, false, false, false, false, false, false, false, false, false, false]) rfl (by kernel_rfl) (by kernel_rfl) rfl rfl ?_
                obtain ⟨b4, H82, H⟩ := bind_some H
                have hm_ := spec_l07Name.calls (I0 := I) H82
                refine eff_call rfl rfl ok21 rfl rfl (show Meets Try.prog 21 ([str ((rdA z_impl_Key p63 x68).Name)] : List Value).toArray _ [] _ from hm_) (Mr := ([(g77, .cells #[.int .i64 ((rdA z_impl_Key p63 x68).Map), str ((rdA z_impl_Key p63 x68).Keys), str ((rdA z_impl_Key p63 x68).Name)] 25 (0, 0))] :: Fs)) (List.Perm.refl _) (fun v83 J84 M85 hq86 hJ87 => ?_)
                replace hle := hle.trans hJ87
                replace hr66 := hr66.mono hJ87
                obtain ⟨rfl, rfl⟩ := hq86
                refine at_xS (fun w hs => ⟨hs.var (k := 0) rfl 0 rfl, hs.var (k := 0) rfl 0 rfl, hs.var (k := 0) rfl 1 rfl, hs.var (k := 0) rfl 1 rfl, hs.var (k := 0) rfl 2 rfl⟩) ?_
                by_cases h88 : b4 = true
                · rw [if_pos h88] at H
                  by_cases h89 : x68 > 0
                  · rw [if_pos h89] at H
                    obtain ⟨h90, H⟩ := ite_some H
                    obtain ⟨h91, H⟩ := ite_some H
                    obtain ⟨cs93, hz94, hc92⟩ := hr66.elem z_impl_Key (IntKind.i64.wrap (x68 - 1)) h90 h91
                    obtain rfl := hz94
                    refine at_xweak (S' := fun w => w.cell? ⟨g77, 0, none⟩ = some (.int .i64 ((rdA z_impl_Key p63 x68).Map)) ∧ w.cell? ⟨g77, 0, none⟩ = some (.int .i64 ((rdA z_impl_Key p63 x68).Map)) ∧ w.cell? ⟨g77, 1, none⟩ = some (str ((rdA z_impl_Key p63 x68).Keys)) ∧ w.cell? ⟨g77, 1, none⟩ = some (str ((rdA z_impl_Key p63 x68).Keys)) ∧ w.cell? ⟨g77, 2, none⟩ = some (str ((rdA z_impl_Key p63 x68).Name)) ∧ CellsAt w ((A64.getD ad0).add ((IntKind.i64.wrap (x68 - 1)).toNat * 3)) [.int .i64 ((rdA z_impl_Key p63 (IntKind.i64.wrap (x68 - 1))).Map), str ((rdA z_impl_Key p63 (IntKind.i64.wrap (x68 - 1))).Keys), str ((rdA z_impl_Key p63 (IntKind.i64.wrap (x68 - 1))).Name)] 0 ∧ CellsAt w ⟨g77, 0, none⟩ [.int .i64 ((rdA z_impl_Key p63 x68).Map), str ((rdA z_impl_Key p63 x68).Keys), str ((rdA z_impl_Key p63 x68).Name)] 0) (fun w h_ => ⟨h_.1, h_.2.1, h_.2.2.1, h_.2.2.2.1, h_.2.2.2.2.1⟩) ?_
                    refine at_xseg [24, 25, 26, 27, 28, 29, 30, 31, 32, 33, 34, 35] 4 (#[true, true, true, true, true, true, true, true, true, true, true, true, true, true, true, true, true, true, true, true, true, true, true, true, true, true, true, true, true, true, true, true, true, true, true, true, false, false, false, false]) rfl (by kernel_rfl) [(26, .bool false), (29, .bool true), (34, .agg #[.int .i64 ((rdA z_impl_Key p63 (IntKind.i64.wrap (x68 - 1))).Map), str ((rdA z_impl_Key p63 (IntKind.i64.wrap (x68 - 1))).Keys), str ((rdA z_impl_Key p63 (IntKind.i64.wrap (x68 - 1))).Name)]), (35, .agg #[.int .i64 ((rdA z_impl_Key p63 x68).Map), str ((rdA z_impl_Key p63 x68).Keys), str ((rdA z_impl_Key p63 x68).Name)])] [0, 3, 44, 47, 52, 53] (L2 := [(0, .slice A64 p63.length c65), (3, .int .i64 x68), (44, .bool false), (47, .bool true), (52, .agg #[.int .i64 ((rdA z_impl_Key p63 (IntKind.i64.wrap (x68 - 1))).Map), str ((rdA z_impl_Key p63 (IntKind.i64.wrap (x68 - 1))).Keys), str ((rdA z_impl_Key p63 (IntKind.i64.wrap (x68 - 1))).Name)]), (53, .agg #[.int .i64 ((rdA z_impl_Key p63 x68).Map), str ((rdA z_impl_Key p63 x68).Keys), str ((rdA z_impl_Key p63 x68).Name)])]) (obs := [fun _ => (.bool (!b4) : Value) = .bool false, fun _ => (.bool (decide (x68 > 0)) : Value) = .bool true, fun _ => A64.isSome = true ∧ 0 ≤ (IntKind.i64.wrap (x68 - 1)) ∧ (IntKind.i64.wrap (x68 - 1)) < ((p63.length : Nat) : Int), fun w => CellsAt w ((A64.getD ad0).add ((IntKind.i64.wrap (x68 - 1)).toNat * 3)) [.int .i64 ((rdA z_impl_Key p63 (IntKind.i64.wrap (x68 - 1))).Map), str ((rdA z_impl_Key p63 (IntKind.i64.wrap (x68 - 1))).Keys), str ((rdA z_impl_Key p63 (IntKind.i64.wrap (x68 - 1))).Name)] 0, fun w => CellsAt w ⟨g77, 0, none⟩ [.int .i64 ((rdA z_impl_Key p63 x68).Map), str ((rdA z_impl_Key p63 x68).Keys), str ((rdA z_impl_Key p63 x68).Name)] 0]) (by kernel_rfl) (by kernel_rfl) (by kernel_rfl) (.inr fun w hs => ⟨hs.var (k := 0) rfl 0 rfl, hs.var (k := 0) rfl 0 rfl, hs.var (k := 0) rfl 1 rfl, hs.var (k := 0) rfl 1 rfl, hs.var (k := 0) rfl 2 rfl, ⟨hc92 0 _ rfl hs, hc92 1 _ rfl hs, hc92 2 _ rfl hs, trivial⟩, cellsV (k := 0) hs rfl _ 0 (Nat.le_of_ble_eq_true (by kernel_rfl)) rfl⟩) (fun w hS => ⟨congrArg Value.bool (not_ff (h88)), congrArg Value.bool (decide_eq_true h89), ⟨hr66.ne (IntKind.i64.wrap (x68 - 1)) h90 h91, h90, h91⟩, hS.2.2.2.2.2.1, hS.2.2.2.2.2.2⟩) (fun w hs => ⟨congrArg Value.bool (not_ff (h88)), congrArg Value.bool (decide_eq_true h89), ⟨hr66.ne (IntKind.i64.wrap (x68 - 1)) h90 h91, h90, h91⟩, ⟨hc92 0 _ rfl hs, hc92 1 _ rfl hs, hc92 2 _ rfl hs, trivial⟩, cellsV (k := 0) hs rfl _ 0 (Nat.le_of_ble_eq_true (by kernel_rfl)) rfl⟩) ?_
                    refine at_x1 3 36 (#[true, true, true, true, true, true, true, true, true, true, true, true, true, true, true, true, true, true, true, true, true, true, true, true, true, true, true, true, true, true, true, true, true, true, true, true, true, false, false, false]) rfl (by kernel_rfl) (by kernel_rfl) rfl rfl ?_
                    obtain ⟨b5, H95, H⟩ := bind_some H
                    have hm_ := spec_l07Before.calls (I0 := J84) H95
                    refine eff_call rfl rfl ok14 rfl rfl (show Meets Try.prog 14 ([.agg #[.int .i64 ((rdA z_impl_Key p63 (IntKind.i64.wrap (x68 - 1))).Map), str ((rdA z_impl_Key p63 (IntKind.i64.wrap (x68 - 1))).Keys), str ((rdA z_impl_Key p63 (IntKind.i64.wrap (x68 - 1))).Name)], .agg #[.int .i64 ((rdA z_impl_Key p63 x68).Map), str ((rdA z_impl_Key p63 x68).Keys), str ((rdA z_impl_Key p63 x68).Name)]] : List Value).toArray _ [] _ from hm_) (Mr := ([(g77, .cells #[.int .i64 ((rdA z_impl_Key p63 x68).Map), str ((rdA z_impl_Key p63 x68).Keys), str ((rdA z_impl_Key p63 x68).Name)] 25 (0, 0))] :: Fs)) (List.Perm.refl _) (fun v96 J97 M98 hq99 hJ100 => ?_)
                    replace hle := hle.trans hJ100
                    replace hr66 := hr66.mono hJ100
                    replace hc92 := hc_mono hc92 hJ100
                    obtain ⟨rfl, rfl⟩ := hq99
                    refine at_xS (fun w hs => ⟨hs.var (k := 0) rfl 0 rfl, hs.var (k := 0) rfl 0 rfl, hs.var (k := 0) rfl 1 rfl, hs.var (k := 0) rfl 1 rfl, hs.var (k := 0) rfl 2 rfl, ⟨hc92 0 _ rfl hs, hc92 1 _ rfl hs, hc92 2 _ rfl hs, trivial⟩, cellsV (k := 0) hs rfl _ 0 (Nat.le_of_ble_eq_true (by kernel_rfl)) rfl⟩) ?_
                    refine at_xseg [37, 38, 39] 0 (#[true, true, true, true, true, true, true, true, true, true, true, true, true, true, true, true, true, true, true, true, true, true, true, true, true, true, true, true, true, true, true, true, true, true, true, true, true, true, true, true]) rfl (by kernel_rfl) [] [0, 3, 57] (L2 := [(0, .slice A64 p63.length c65), (3, .int .i64 x68), (57, .bool (!b5))]) (obs := []) (by kernel_rfl) (by kernel_rfl) (by kernel_rfl) (.inr fun w hs => ⟨hs.var (k := 0) rfl 0 rfl, hs.var (k := 0) rfl 0 rfl, hs.var (k := 0) rfl 1 rfl, hs.var (k := 0) rfl 1 rfl, hs.var (k := 0) rfl 2 rfl, ⟨hc92 0 _ rfl hs, hc92 1 _ rfl hs, hc92 2 _ rfl hs, trivial⟩, cellsV (k := 0) hs rfl _ 0 (Nat.le_of_ble_eq_true (by kernel_rfl)) rfl⟩) (fun w hS => trivial) (fun w hs => trivial) ?_
                    refine at_xend (by kernel_rfl) ?_
                    refine at_thn ?_
                    by_cases h101 : b5 = true
                    · rw [if_pos h101] at H
                      refine at_cond_f rfl (not_ff (h101)) ?_
                      refine at_skip ?_
                      refine at_in_norm ?_
                      refine at_thn ?_
                      refine at_reg [] [0, 3] (L2 := [(0, .slice A64 p63.length c65), (3, .int .i64 (IntKind.i64.wrap (x68 + 1)))]) (obs := []) (by kernel_rfl) ?_ ?_
                      · intro w hs; exact trivial
                      refine at_thn ?_
                      refine at_drop (k := 0) rfl rfl ?_
                      refine at_keep [0, 3] (L2 := [(0, .slice A64 p63.length c65), (3, .int .i64 (IntKind.i64.wrap (x68 + 1)))]) rfl ?_
                      exact ih70 _ (by omega) _ _ _ ⟨IntKind.i64.wrap (x68 + 1), rfl, rfl, H, hle, by omega, hr66⟩
                    · rw [if_neg h101] at H
                      refine at_cond_t rfl (not_tt (ff_of h101)) ?_
                      refine at_seq ?_
                      refine at_reg [] [2] (L2 := [(2, .bool false)]) (obs := []) (by kernel_rfl) ?_ ?_
                      · intro w hs; exact trivial
                      refine at_thn ?_
                      refine at_ret ?_
                      refine at_in_ret ?_
                      refine at_then_ret ?_
                      refine at_then_ret ?_
                      refine at_in_ret ?_
                      refine at_then_ret ?_
                      obtain rfl := Option.some.inj H
                      refine at_drop (k := 0) rfl rfl ?_
                      refine at_done (vs := [.bool false]) (obs := []) (.inl rfl) [.tmp 2] [] rfl (by kernel_rfl) (fun w hs => trivial) (fun w hs => ⟨_, _, [], rfl, ⟨rfl, rfl⟩, hle, hs⟩)
                  · rw [if_neg h89] at H
                    refine at_xseg [24, 25, 26, 27, 28, 29, 30, 31, 32, 33, 34, 35] 4 (#[true, true, true, true, true, true, true, true, true, true, true, true, true, true, true, true, true, true, true, true, true, true, true, true, true, true, true, true, true, true, true, true, true, true, true, true, false, false, false, false]) rfl (by kernel_rfl) [(26, .bool false), (29, .bool false)] [0, 3, 44, 47, 52, 53] (L2 := [(0, .slice A64 p63.length c65), (3, .int .i64 x68), (44, .bool false), (47, .bool false), (52, undef), (53, undef)]) (obs := [fun _ => (.bool (!b4) : Value) = .bool false, fun _ => (.bool (decide (x68 > 0)) : Value) = .bool false]) (by kernel_rfl) (by kernel_rfl) (by kernel_rfl) (.inr fun w hs => ⟨hs.var (k := 0) rfl 0 rfl, hs.var (k := 0) rfl 0 rfl, hs.var (k := 0) rfl 1 rfl, hs.var (k := 0) rfl 1 rfl, hs.var (k := 0) rfl 2 rfl⟩) (fun w hS => ⟨congrArg Value.bool (not_ff (h88)), congrArg Value.bool (decide_eq_false h89)⟩) (fun w hs => ⟨congrArg Value.bool (not_ff (h88)), congrArg Value.bool (decide_eq_false h89)⟩) ?_
                    refine at_xseg [36, 37, 38, 39] 0 (#[true, true, true, true, true, true, true, true, true, true, true, true, true, true, true, true, true, true, true, true, true, true, true, true, true, true, true, true, true, true, true, true, true, true, true, true, true, true, true, true]) rfl (by kernel_rfl) [] [0, 3, 57] (L2 := [(0, .slice A64 p63.length c65), (3, .int .i64 x68), (57, .bool false)]) (obs := []) (by kernel_rfl) (by kernel_rfl) (by kernel_rfl) (.inr fun w hs => ⟨hs.var (k := 0) rfl 0 rfl, hs.var (k := 0) rfl 0 rfl, hs.var (k := 0) rfl 1 rfl, hs.var (k := 0) rfl 1 rfl, hs.var (k := 0) rfl 2 rfl⟩) (fun w hS => trivial) (fun w hs => trivial) ?_
                    refine at_xend (by kernel_rfl) ?_
                    refine at_thn ?_
                    refine at_cond_f rfl (rfl) ?_
                    refine at_skip ?_
                    refine at_in_norm ?_
                    refine at_thn ?_
                    refine at_reg [] [0, 3] (L2 := [(0, .slice A64 p63.length c65), (3, .int .i64 (IntKind.i64.wrap (x68 + 1)))]) (obs := []) (by kernel_rfl) ?_ ?_
                    · intro w hs; exact trivial
                    refine at_thn ?_
                    refine at_drop (k := 0) rfl rfl ?_
                    refine at_keep [0, 3] (L2 := [(0, .slice A64 p63.length c65), (3, .int .i64 (IntKind.i64.wrap (x68 + 1)))]) rfl ?_
                    exact ih70 _ (by omega) _ _ _ ⟨IntKind.i64.wrap (x68 + 1), rfl, rfl, H, hle, by omega, hr66⟩
                · rw [if_neg h88] at H
                  refine at_xseg [24, 25, 26, 27, 28, 29, 30, 31, 32, 33, 34, 35] 4 (#[true, true, true, true, true, true, true, true, true, true, true, true, true, true, true, true, true, true, true, true, true, true, true, true, true, true, true, true, true, true, true, true, true, true, true, true, false, false, false, false]) rfl (by kernel_rfl) [(26, .bool true)] [0, 3, 44, 47, 52, 53] (L2 := [(0, .slice A64 p63.length c65), (3, .int .i64 x68), (44, .bool true), (47, undef), (52, undef), (53, undef)]) (obs := [fun _ => (.bool (!b4) : Value) = .bool true]) (by kernel_rfl) (by kernel_rfl) (by kernel_rfl) (.inr fun w hs => ⟨hs.var (k := 0) rfl 0 rfl, hs.var (k := 0) rfl 0 rfl, hs.var (k := 0) rfl 1 rfl, hs.var (k := 0) rfl 1 rfl, hs.var (k := 0) rfl 2 rfl⟩) (fun w hS => congrArg Value.bool (not_tt (ff_of h88))) (fun w hs => congrArg Value.bool (not_tt (ff_of h88))) ?_
                  refine at_xseg [36, 37, 38, 39] 0 (#[true, true, true, true, true, true, true, true, true, true, true, true, true, true, true, true, true, true, true, true, true, true, true, true, true, true, true, true, true, true, true, true, true, true, true, true, true, true, true, true]) rfl (by kernel_rfl) [] [0, 3, 57] (L2 := [(0, .slice A64 p63.length c65), (3, .int .i64 x68), (57, .bool true)]) (obs := []) (by kernel_rfl) (by kernel_rfl) (by kernel_rfl) (.inr fun w hs => ⟨hs.var (k := 0) rfl 0 rfl, hs.var (k := 0) rfl 0 rfl, hs.var (k := 0) rfl 1 rfl, hs.var (k := 0) rfl 1 rfl, hs.var (k := 0) rfl 2 rfl⟩) (fun w hS => trivial) (fun w hs => trivial) ?_
                  refine at_xend (by kernel_rfl) ?_
                  refine at_thn ?_
                  refine at_cond_t rfl (rfl) ?_
                  refine at_seq ?_
                  refine at_reg [] [2] (L2 := [(2, .bool false)]) (obs := []) (by kernel_rfl) ?_ ?_
                  · intro w hs; exact trivial
                  refine at_thn ?_
                  refine at_ret ?_
                  refine at_in_ret ?_
                  refine at_then_ret ?_
                  refine at_then_ret ?_
                  refine at_in_ret ?_
                  refine at_then_ret ?_
                  obtain rfl := Option.some.inj H
                  refine at_drop (k := 0) rfl rfl ?_
                  refine at_done (vs := [.bool false]) (obs := []) (.inl rfl) [.tmp 2] [] rfl (by kernel_rfl) (fun w hs => trivial) (fun w hs => ⟨_, _, [], rfl, ⟨rfl, rfl⟩, hle, hs⟩)
      · rw [if_neg h72] at H
        refine at_cond_f rfl (decide_eq_false h72) ?_
        refine at_exit ?_
        refine at_then_exit ?_
        refine at_then_exit ?_
        refine at_in_hit ?_
        refine at_thn ?_
        refine at_seq ?_
        refine at_reg [] [2] (L2 := [(2, .bool true)]) (obs := []) (by kernel_rfl) ?_ ?_
        · intro w hs; exact trivial
        refine at_thn ?_
        refine at_ret ?_
        obtain rfl := Option.some.inj H
        refine at_done (vs := [.bool true]) (obs := []) (.inl rfl) [.tmp 2] [] rfl (by kernel_rfl) (fun w hs => trivial) (fun w hs => ⟨_, _, [], rfl, ⟨rfl, rfl⟩, hle, hs⟩)
end Go.Proofs.Ytloojlhlfhmoeaa
